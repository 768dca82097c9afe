/- Conditions: none. -/
import Derived.Test.YtholafaogipaiaaGreatDoorEvMod
import Derived.Test.YtholafaogipaiaaGreatDoorSh7
set_option linter.unusedSimpArgs false
set_option linter.unusedVariables false
namespace Go.Ev
open Go
theorem c_fcm (x:MNeed)(l:Int)(hx:x.Bd maxLen)(h0:0≤l)(h1:l≤1099511627776):out qvi [.agg [Cell.str (bs x.Name),Cell.str (bs x.Range)],.one (Cell.int l)]=some [.one (Cell.int (szI x.wt l))]:=by
 obtain⟨b0,b1⟩:=hx
 have hM:=qah
 have k0:x.Name.length≤maxLen:=b0
 have q0:wtS x.Name=x.Name.length:=rfl
 have k1:x.Range.length≤maxLen:=b1
 have q1:wtS x.Range=x.Range.length:=rfl
 refine qaw (H:=[]) (qsfb 0 ?_)
 simp only[fcm,MNeed.wt,EV0]
 rw[wrap_small (by omega) (by omega)]
 by_cases g0:(x.Name.length:Int)≤l
 ·rw[decide_eq_false (by omega),cond_false]
  rw[wrap_small (by omega) (by omega)]
  by_cases g1:(x.Range.length:Int)≤l - (x.Name.length:Int)
  ·rw[decide_eq_false (by omega),cond_false]
   first | done | rw[qdc (by omega)]
   first | done | (congr 5<;>omega)
  ·rw[decide_eq_true (by omega),cond_true,qem (by omega)]
 ·rw[decide_eq_true (by omega),cond_true,qem (by omega)]
theorem c_fcn (xs:List MNeed)(l:Int)(hx:bdL maxLen (MNeed.Bd maxLen) xs)(h0:0≤l)(h1:l≤1099511627776):out qoc [.one (encL 2 MNeed.enc xs),.one (Cell.int l)]=some [.one (Cell.int (szI (wtL MNeed.wt xs) l))]:=by
 have loop:∀ (ys:List MNeed) (i n:Nat) (l:Int),xs.drop i=ys→ys.length < n→0≤l→l≤1099511627776→∀ k m,qaib k m n (encL 2 MNeed.enc xs) l i=some ([.one (Cell.int (szI (ys.map MNeed.wt).sum l))],[]):=by
  intro ys
  induction ys with
  | nil=>
   intro i n l hd hn h0 h1 k m
   obtain⟨n,rfl⟩:∃ j,n=j+1:=⟨n - 1,by omega⟩
   have:=drop_nil hd
   simp only[qaib,qar,Option.bind_some]
   rw[decide_eq_false (by omega)]
   simp only[List.map_nil,List.sum_nil]
   rw[qll h0,cond_false]
  | cons x ys ih=>
   intro i n l hd hn h0 h1 k m
   obtain⟨n,rfl⟩:∃ j,n=j+1:=⟨n - 1,by omega⟩
   obtain⟨hlt,hg,hd'⟩:=qai hd
   have hxl:=hx.1
   have hM:=qah
   have hb:=hx.2 x (List.mem_of_getElem? hg)
   simp only[qaib,qak,hg,MNeed.enc,EV0]
   rw[decide_eq_true (by omega),cond_true,c_fcm _ _ hb (by omega) (by omega)]
   simp only[EV0,qjt]
   rw[qag (by omega)]
   simp only[List.map_cons,List.sum_cons]
   simp only[List.length_cons] at hn
   by_cases g:(((MNeed.wt x):Nat):Int)≤l
   ·rw[if_pos g,qdc g,ih _ _ _ hd' (by omega) (by omega) (by omega),qhj g]
   ·rw[if_neg g,qeh g]
 have hM:=qah
 have hxl:=hx.1
 refine qaw (H:=[]) (qsub (xs.length+1) ?_)
 simp only[fcn,qar,Option.bind_some]
 rw[wrap_small (by omega) (by omega)]
 by_cases g:(xs.length:Int)≤l
 ·rw[decide_eq_false (by omega),cond_false]
  have:=loop xs 0 (xs.length+1+1) (l - xs.length) rfl (by omega) (by omega) (by omega) (xs.length+1+1) (xs.length+1+1)
  simp only[Int.natCast_zero] at this
  rw[this,qhj g]
  rfl
 ·rw[decide_eq_true (by omega),cond_true]
  have:szI (wtL MNeed.wt xs) l=-1:=qeh g
  rw[this]
theorem c_fcq (xs:List Str)(l:Int)(hx:bdL maxLen (bdS maxLen) xs)(h0:0≤l)(h1:l≤1099511627776):out qil [.one (encL 1 eStr xs),.one (Cell.int l)]=some [.one (Cell.int (szI (wtL wtS xs) l))]:=by
 have loop:∀ (ys:List Str) (i n:Nat) (l:Int),xs.drop i=ys→ys.length < n→0≤l→l≤1099511627776→∀ k m,qaab k m n (encL 1 eStr xs) l i=some ([.one (Cell.int (szI (ys.map wtS).sum l))],[]):=by
  intro ys
  induction ys with
  | nil=>
   intro i n l hd hn h0 h1 k m
   obtain⟨n,rfl⟩:∃ j,n=j+1:=⟨n - 1,by omega⟩
   have:=drop_nil hd
   simp only[qaab,qar,Option.bind_some]
   rw[decide_eq_false (by omega)]
   simp only[List.map_nil,List.sum_nil]
   rw[qll h0,cond_false]
  | cons x ys ih=>
   intro i n l hd hn h0 h1 k m
   obtain⟨n,rfl⟩:∃ j,n=j+1:=⟨n - 1,by omega⟩
   obtain⟨hlt,hg,hd'⟩:=qai hd
   have hxl:=hx.1
   have hM:=qah
   have hb:x.length≤maxLen:=hx.2 x (List.mem_of_getElem? hg)
   simp only[qaab,qar,Option.bind_some,qak,hg,Option.map_some,qkw,eStr,qctb,qbm]
   rw[decide_eq_true (by omega),cond_true,qag (by omega),wrap_small (by omega) (by omega)]
   simp only[List.map_cons,List.sum_cons,wtS]
   simp only[List.length_cons] at hn
   by_cases g:(x.length:Int)≤l
   ·rw[decide_eq_false (by omega),cond_false,ih _ _ _ hd' (by omega) (by omega) (by omega),qhj g]
   ·rw[decide_eq_true (by omega),cond_true,qeh g]
 have hM:=qah
 have hxl:=hx.1
 refine qaw (H:=[]) (qrlb (xs.length+1) ?_)
 simp only[fcq,qar,Option.bind_some]
 rw[wrap_small (by omega) (by omega)]
 by_cases g:(xs.length:Int)≤l
 ·rw[decide_eq_false (by omega),cond_false]
  have:=loop xs 0 (xs.length+1+1) (l - xs.length) rfl (by omega) (by omega) (by omega) (xs.length+1+1) (xs.length+1+1)
  simp only[Int.natCast_zero] at this
  rw[this,qhj g]
  rfl
 ·rw[decide_eq_true (by omega),cond_true]
  have:szI (wtL wtS xs) l=-1:=qeh g
  rw[this]
theorem c_fcr (x:MVer)(l:Int)(hx:x.Bd maxLen)(h0:0≤l)(h1:l≤1099511627776):out qxw [.agg [Cell.int x.A,Cell.int x.B,Cell.int x.C,encL 1 eStr x.Pre],.one (Cell.int l)]=some [.one (Cell.int (szI x.wt l))]:=by
 obtain⟨b0,b1,b2,b3⟩:=hx
 have hM:=qah
 refine qaw (H:=[]) (qmub 0 ?_)
 simp only[fcr,MVer.wt,EV0]
 rw[c_fcq _ _ b3 (by omega) (by omega)]
 simp only[EV0,qjt]
 by_cases g3:((wtL wtS x.Pre:Nat):Int)≤l
 ·rw[if_pos g3,qdc g3]
  first | done | rw[qdc (by omega)]
  first | done | (congr 5<;>omega)
 ·rw[if_neg g3,qem (by omega)]
theorem c_fck (x:MEntry)(l:Int)(hx:x.Bd maxLen)(h0:0≤l)(h1:l≤1099511627776):out qxx [.agg [Cell.str (bs x.Name),Cell.int x.V.A,Cell.int x.V.B,Cell.int x.V.C,encL 1 eStr x.V.Pre,encL 2 MNeed.enc x.Needs],.one (Cell.int l)]=some [.one (Cell.int (szI x.wt l))]:=by
 obtain⟨b0,b1,b2⟩:=hx
 have hM:=qah
 have k0:x.Name.length≤maxLen:=b0
 have q0:wtS x.Name=x.Name.length:=rfl
 refine qaw (H:=[]) (qqhb 0 ?_)
 simp only[fck,MEntry.wt,EV0]
 rw[wrap_small (by omega) (by omega)]
 by_cases g0:(x.Name.length:Int)≤l
 ·rw[decide_eq_false (by omega),cond_false]
  rw[c_fcr _ _ b1 (by omega) (by omega)]
  simp only[EV0,qjt]
  by_cases g1:((MVer.wt x.V:Nat):Int)≤l - (x.Name.length:Int)
  ·rw[if_pos g1,qdc g1]
   rw[c_fcn _ _ b2 (by omega) (by omega)]
   simp only[EV0,qjt]
   by_cases g2:((wtL MNeed.wt x.Needs:Nat):Int)≤l - (x.Name.length:Int) - ((MVer.wt x.V:Nat):Int)
   ·rw[if_pos g2,qdc g2]
    first | done | rw[qdc (by omega)]
    first | done | (congr 5<;>omega)
   ·rw[if_neg g2,qem (by omega)]
  ·rw[if_neg g1,qem (by omega)]
 ·rw[decide_eq_true (by omega),cond_true,qem (by omega)]
theorem c_fcl (xs:List MEntry)(l:Int)(hx:bdL maxLen (MEntry.Bd maxLen) xs)(h0:0≤l)(h1:l≤1099511627776):out qtk [.one (encL 6 MEntry.enc xs),.one (Cell.int l)]=some [.one (Cell.int (szI (wtL MEntry.wt xs) l))]:=by
 have loop:∀ (ys:List MEntry) (i n:Nat) (l:Int),xs.drop i=ys→ys.length < n→0≤l→l≤1099511627776→∀ k m,qzg k m n (encL 6 MEntry.enc xs) l i=some ([.one (Cell.int (szI (ys.map MEntry.wt).sum l))],[]):=by
  intro ys
  induction ys with
  | nil=>
   intro i n l hd hn h0 h1 k m
   obtain⟨n,rfl⟩:∃ j,n=j+1:=⟨n - 1,by omega⟩
   have:=drop_nil hd
   simp only[qzg,qar,Option.bind_some]
   rw[decide_eq_false (by omega)]
   simp only[List.map_nil,List.sum_nil]
   rw[qll h0,cond_false]
  | cons x ys ih=>
   intro i n l hd hn h0 h1 k m
   obtain⟨n,rfl⟩:∃ j,n=j+1:=⟨n - 1,by omega⟩
   obtain⟨hlt,hg,hd'⟩:=qai hd
   have hxl:=hx.1
   have hM:=qah
   have hb:=hx.2 x (List.mem_of_getElem? hg)
   simp only[qzg,qak,hg,MEntry.enc,EV0]
   rw[decide_eq_true (by omega),cond_true,c_fck _ _ hb (by omega) (by omega)]
   simp only[EV0,qjt]
   rw[qag (by omega)]
   simp only[List.map_cons,List.sum_cons]
   simp only[List.length_cons] at hn
   by_cases g:(((MEntry.wt x):Nat):Int)≤l
   ·rw[if_pos g,qdc g,ih _ _ _ hd' (by omega) (by omega) (by omega),qhj g]
   ·rw[if_neg g,qeh g]
 have hM:=qah
 have hxl:=hx.1
 refine qaw (H:=[]) (qrsb (xs.length+1) ?_)
 simp only[fcl,qar,Option.bind_some]
 rw[wrap_small (by omega) (by omega)]
 by_cases g:(xs.length:Int)≤l
 ·rw[decide_eq_false (by omega),cond_false]
  have:=loop xs 0 (xs.length+1+1) (l - xs.length) rfl (by omega) (by omega) (by omega) (xs.length+1+1) (xs.length+1+1)
  simp only[Int.natCast_zero] at this
  rw[this,qhj g]
  rfl
 ·rw[decide_eq_true (by omega),cond_true]
  have:szI (wtL MEntry.wt xs) l=-1:=qeh g
  rw[this]
theorem c_fcw (x:MNeed)(hx:x.Bd 1048576):out qxf [.agg [Cell.str (bs x.Name),Cell.str (bs x.Range)]]=some [.agg [Cell.str (bs x.Name),Cell.str (bs x.Range)]]:=by
 obtain⟨b0,b1⟩:=hx
 refine qaw (H:=[]) (qmgb 0 ?_)
 simp only[fcw,EV0]
theorem c_fcx (xs:List MNeed)(hx:bdL 1048576 (MNeed.Bd 1048576) xs):outL qlv [.one (encL 2 MNeed.enc xs)]=some [.one (encL 2 MNeed.enc xs)]:=by
 have hxl:xs.length≤1048576:=hx.1
 have hM:=qah
 have loop:∀ (ys:List MNeed) (i n:Nat),xs.drop i=ys→ys.length < n→∀ k m,qbfb k m n (encL 2 MNeed.enc xs) (.vs 0 2 0 xs.length 0) i [Entry.mk 2 (filled MNeed.enc [Cell.str (bs []),Cell.str (bs [])] xs i) 0 false]=some ([.one (.vs 0 2 0 xs.length 0)],[Entry.mk 2 (xs.map MNeed.enc) 0 false]):=by
  intro ys
  induction ys with
  | nil=>
   intro i n hd hn k m
   obtain⟨n,rfl⟩:∃ j,n=j+1:=⟨n - 1,by omega⟩
   have:=drop_nil hd
   simp only[qbfb,qar,Option.bind_some]
   rw[decide_eq_false (by omega),cond_false]
   have:filled MNeed.enc [Cell.str (bs []),Cell.str (bs [])] xs i=xs.map MNeed.enc:=by simp[filled,List.take_of_length_le this,show xs.length - i=0 by omega]
   rw[this]
  | cons x ys ih=>
   intro i n hd hn k m
   obtain⟨n,rfl⟩:∃ j,n=j+1:=⟨n - 1,by omega⟩
   obtain⟨hlt,hg,hd'⟩:=qai hd
   simp only[List.length_cons] at hn
   have hb:=hx.2 x (List.mem_of_getElem? hg)
   simp only[qbfb,qak,hg,MNeed.enc,c_fcw _ hb,EV0]
   rw[decide_eq_true (by omega),cond_true,qfk _ _ _ _ _ hlt]
   have hs:qce [Entry.mk 2 (filled MNeed.enc [Cell.str (bs []),Cell.str (bs [])] xs i) 0 false] (.ptr 0 2 i 0 0) (MNeed.enc x)=some [Entry.mk 2 (filled MNeed.enc [Cell.str (bs []),Cell.str (bs [])] xs (i+1)) 0 false]:=by
    rw[qfu (sz:=2) (qin MNeed.enc _ hlt) rfl rfl,qgc MNeed.enc _ hg]
   simp only[MNeed.enc] at hs
   simp only[Option.bind_some,hs]
   rw[qag (by omega)]
   exact ih _ _ hd' (by omega) _ _
 refine qbb (H:=[Entry.mk 2 (xs.map MNeed.enc) 0 false]) (qpob (xs.length+1) ?_) (qkc MNeed.enc xs 0 false)
 simp only[fcx,qar,Option.bind_some]
 rw[if_pos (by unfold bound;refine⟨?_,?_,?_,?_⟩<;>omega)]
 have:=loop xs 0 (xs.length+1+1) rfl (by omega) (xs.length+1+1) (xs.length+1+1)
 rw[qfb] at this
 exact this
theorem c_fda (xs:List Str)(hx:bdL 1048576 (bdS 1048576) xs):outL qiu [.one (encL 1 eStr xs)]=some [.one (encL 1 eStr xs)]:=by
 have hxl:xs.length≤1048576:=hx.1
 have hM:=qah
 have loop:∀ (ys:List Str) (i n:Nat),xs.drop i=ys→ys.length < n→∀ k m,qbbb k m n (encL 1 eStr xs) (.vs 0 1 0 xs.length 0) i [Entry.mk 1 (filled eStr [Cell.str (bs [])] xs i) 0 false]=some ([.one (.vs 0 1 0 xs.length 0)],[Entry.mk 1 (xs.map eStr) 0 false]):=by
  intro ys
  induction ys with
  | nil=>
   intro i n hd hn k m
   obtain⟨n,rfl⟩:∃ j,n=j+1:=⟨n - 1,by omega⟩
   have:=drop_nil hd
   simp only[qbbb,qar,Option.bind_some]
   rw[decide_eq_false (by omega),cond_false]
   have:filled eStr [Cell.str (bs [])] xs i=xs.map eStr:=by simp[filled,List.take_of_length_le this,show xs.length - i=0 by omega]
   rw[this]
  | cons x ys ih=>
   intro i n hd hn k m
   obtain⟨n,rfl⟩:∃ j,n=j+1:=⟨n - 1,by omega⟩
   obtain⟨hlt,hg,hd'⟩:=qai hd
   simp only[List.length_cons] at hn
   simp only[qbbb,qar,Option.bind_some,qak,hg,Option.map_some,qkw,eStr,qctb]
   rw[decide_eq_true (by omega),cond_true,qfk _ _ _ _ _ hlt]
   have hs:qce [Entry.mk 1 (filled eStr [Cell.str (bs [])] xs i) 0 false] (.ptr 0 1 i 0 0) (eStr x)=some [Entry.mk 1 (filled eStr [Cell.str (bs [])] xs (i+1)) 0 false]:=by
    rw[qfu (sz:=1) (qin eStr _ hlt) rfl rfl,qgc eStr _ hg]
   simp only[eStr] at hs
   simp only[Option.bind_some,hs]
   rw[qag (by omega)]
   exact ih _ _ hd' (by omega) _ _
 refine qbb (H:=[Entry.mk 1 (xs.map eStr) 0 false]) (qsob (xs.length+1) ?_) (qkc eStr xs 0 false)
 simp only[fda,qar,Option.bind_some]
 rw[if_pos (by unfold bound;refine⟨?_,?_,?_,?_⟩<;>omega)]
 have:=loop xs 0 (xs.length+1+1) rfl (by omega) (xs.length+1+1) (xs.length+1+1)
 rw[qfb] at this
 exact this
theorem c_fdb (x:MVer)(hx:x.Bd 1048576):outL qyd [.agg [Cell.int x.A,Cell.int x.B,Cell.int x.C,encL 1 eStr x.Pre]]=some [.agg [Cell.int x.A,Cell.int x.B,Cell.int x.C,encL 1 eStr x.Pre]]:=by
 obtain⟨b0,b1,b2,b3⟩:=hx
 refine qfw (H:=[]) (qprb 0 ?_)
 simp only[fdb,c_fda _ b3,EV0]
theorem c_fcu (x:MEntry)(hx:x.Bd 1048576):outL qub [.agg [Cell.str (bs x.Name),Cell.int x.V.A,Cell.int x.V.B,Cell.int x.V.C,encL 1 eStr x.V.Pre,encL 2 MNeed.enc x.Needs]]=some [.agg [Cell.str (bs x.Name),Cell.int x.V.A,Cell.int x.V.B,Cell.int x.V.C,encL 1 eStr x.V.Pre,encL 2 MNeed.enc x.Needs]]:=by
 obtain⟨b0,b1,b2⟩:=hx
 refine qfw (H:=[]) (qopb 0 ?_)
 simp only[fcu,c_fdb _ b1,c_fcx _ b2,EV0]
theorem c_fcv (xs:List MEntry)(hx:bdL 1048576 (MEntry.Bd 1048576) xs):outL qmm [.one (encL 6 MEntry.enc xs)]=some [.one (encL 6 MEntry.enc xs)]:=by
 have hxl:xs.length≤1048576:=hx.1
 have hM:=qah
 have loop:∀ (ys:List MEntry) (i n:Nat),xs.drop i=ys→ys.length < n→∀ k m,qbsb k m n (encL 6 MEntry.enc xs) (.vs 0 6 0 xs.length 0) i [Entry.mk 6 (filled MEntry.enc [Cell.str (bs []),Cell.int 0,Cell.int 0,Cell.int 0,.lst true 1 [],.lst true 2 []] xs i) 0 false]=some ([.one (.vs 0 6 0 xs.length 0)],[Entry.mk 6 (xs.map MEntry.enc) 0 false]):=by
  intro ys
  induction ys with
  | nil=>
   intro i n hd hn k m
   obtain⟨n,rfl⟩:∃ j,n=j+1:=⟨n - 1,by omega⟩
   have:=drop_nil hd
   simp only[qbsb,qar,Option.bind_some]
   rw[decide_eq_false (by omega),cond_false]
   have:filled MEntry.enc [Cell.str (bs []),Cell.int 0,Cell.int 0,Cell.int 0,.lst true 1 [],.lst true 2 []] xs i=xs.map MEntry.enc:=by simp[filled,List.take_of_length_le this,show xs.length - i=0 by omega]
   rw[this]
  | cons x ys ih=>
   intro i n hd hn k m
   obtain⟨n,rfl⟩:∃ j,n=j+1:=⟨n - 1,by omega⟩
   obtain⟨hlt,hg,hd'⟩:=qai hd
   simp only[List.length_cons] at hn
   have hb:=hx.2 x (List.mem_of_getElem? hg)
   simp only[qbsb,qak,hg,MEntry.enc,c_fcu _ hb,EV0]
   rw[decide_eq_true (by omega),cond_true,qfk _ _ _ _ _ hlt]
   have hs:qce [Entry.mk 6 (filled MEntry.enc [Cell.str (bs []),Cell.int 0,Cell.int 0,Cell.int 0,.lst true 1 [],.lst true 2 []] xs i) 0 false] (.ptr 0 6 i 0 0) (MEntry.enc x)=some [Entry.mk 6 (filled MEntry.enc [Cell.str (bs []),Cell.int 0,Cell.int 0,Cell.int 0,.lst true 1 [],.lst true 2 []] xs (i+1)) 0 false]:=by
    rw[qfu (sz:=6) (qin MEntry.enc _ hlt) rfl rfl,qgc MEntry.enc _ hg]
   simp only[MEntry.enc] at hs
   simp only[Option.bind_some,hs]
   rw[qag (by omega)]
   exact ih _ _ hd' (by omega) _ _
 refine qbb (H:=[Entry.mk 6 (xs.map MEntry.enc) 0 false]) (qlub (xs.length+1) ?_) (qkc MEntry.enc xs 0 false)
 simp only[fcv,qar,Option.bind_some]
 rw[if_pos (by unfold bound;refine⟨?_,?_,?_,?_⟩<;>omega)]
 have:=loop xs 0 (xs.length+1+1) rfl (by omega) (xs.length+1+1) (xs.length+1+1)
 rw[qfb] at this
 exact this
theorem c_fcc (x y:MNeed)(hx:x.Bd 1048576)(hy:y.Bd 1048576):out qyx [.agg [Cell.str (bs x.Name),Cell.str (bs x.Range)],.agg [Cell.str (bs y.Name),Cell.str (bs y.Range)]]=some [.one (Cell.bool (decide (x=y)))]:=by
 obtain⟨b0,b1⟩:=hx
 obtain⟨d0,d1⟩:=hy
 refine qaw (H:=[]) (qnwb 0 ?_)
 simp only[fcc,EV0,qqeb,qpkb]
 congr 5
 rw[Bool.eq_iff_iff]
 cases x;cases y
 simp[MNeed.mk.injEq]
theorem c_fcd (xs ys:List MNeed)(hx:bdL 1048576 (MNeed.Bd 1048576) xs)(hy:bdL 1048576 (MNeed.Bd 1048576) ys):out qpj [.one (encL 2 MNeed.enc xs),.one (encL 2 MNeed.enc ys)]=some [.one (Cell.bool (decide (xs=ys)))]:=by
 have hxl:xs.length≤1048576:=hx.1
 have hM:=qah
 have loop:xs.length=ys.length→∀ (us vs:List MNeed) (i n:Nat),xs.drop i=us→ys.drop i=vs→us.length < n→∀ k m,qzs k m n (encL 2 MNeed.enc xs) (encL 2 MNeed.enc ys) i=some ([.one (Cell.bool (decide (us=vs)))],[]):=by
  intro hlen us
  induction us with
  | nil=>
   intro vs i n hd he hn k m
   obtain⟨n,rfl⟩:∃ j,n=j+1:=⟨n - 1,by omega⟩
   have:=drop_nil hd
   have hv:vs=[]:=by rw[← he];exact List.drop_eq_nil_of_le (by omega)
   subst hv
   simp only[qzs,qar,Option.bind_some]
   rw[decide_eq_false (by omega)]
   simp
  | cons x us ih=>
   intro vs i n hd he hn k m
   obtain⟨n,rfl⟩:∃ j,n=j+1:=⟨n - 1,by omega⟩
   obtain⟨hlt,hgx,hd'⟩:=qai hd
   cases vs with
   | nil=>have:=drop_nil he;omega
   | cons y vs=>
   obtain⟨hlt',hgy,he'⟩:=qai he
   simp only[List.length_cons] at hn
   have hbx:=hx.2 x (List.mem_of_getElem? hgx)
   have hby:=hy.2 y (List.mem_of_getElem? hgy)
   simp only[qzs,qak,hgx,hgy,MNeed.enc,c_fcc _ _ hbx hby,EV0]
   rw[decide_eq_true (by omega)]
   simp only[EV0]
   rw[qag (by omega),ih vs (i+1) n hd' he' (by omega),qqeb]
   congr 5
   rw[Bool.eq_iff_iff]
   simp
 refine qaw (H:=[]) (qnbb (xs.length+1) ?_)
 simp only[fcd,qar,Option.bind_some]
 by_cases h:xs.length=ys.length
 ·rw[show(((xs.length:Nat):Int) != (ys.length:Int))=false by simp[h],cond_false]
  exact loop h xs ys 0 _ rfl rfl (by omega) _ _
 ·rw[show(((xs.length:Nat):Int) != (ys.length:Int))=true by simp only[bne_iff_ne,ne_eq];omega,cond_true]
  have:xs≠ys:=fun e=>h (by rw[e])
  simp[this]
theorem c_fcg (xs ys:List Str)(hx:bdL 1048576 (bdS 1048576) xs)(hy:bdL 1048576 (bdS 1048576) ys):out qjd [.one (encL 1 eStr xs),.one (encL 1 eStr ys)]=some [.one (Cell.bool (decide (xs=ys)))]:=by
 have hxl:xs.length≤1048576:=hx.1
 have hM:=qah
 have loop:xs.length=ys.length→∀ (us vs:List Str) (i n:Nat),xs.drop i=us→ys.drop i=vs→us.length < n→∀ k m,qzp k m n (encL 1 eStr xs) (encL 1 eStr ys) i=some ([.one (Cell.bool (decide (us=vs)))],[]):=by
  intro hlen us
  induction us with
  | nil=>
   intro vs i n hd he hn k m
   obtain⟨n,rfl⟩:∃ j,n=j+1:=⟨n - 1,by omega⟩
   have:=drop_nil hd
   have hv:vs=[]:=by rw[← he];exact List.drop_eq_nil_of_le (by omega)
   subst hv
   simp only[qzp,qar,Option.bind_some]
   rw[decide_eq_false (by omega)]
   simp
  | cons x us ih=>
   intro vs i n hd he hn k m
   obtain⟨n,rfl⟩:∃ j,n=j+1:=⟨n - 1,by omega⟩
   obtain⟨hlt,hgx,hd'⟩:=qai hd
   cases vs with
   | nil=>have:=drop_nil he;omega
   | cons y vs=>
   obtain⟨hlt',hgy,he'⟩:=qai he
   simp only[List.length_cons] at hn
   simp only[qzp,qak,hgx,hgy,eStr,EV0]
   rw[decide_eq_true (by omega)]
   simp only[EV0]
   rw[qag (by omega),ih vs (i+1) n hd' he' (by omega),qqeb]
   congr 5
   rw[Bool.eq_iff_iff]
   simp
 refine qaw (H:=[]) (qnmb (xs.length+1) ?_)
 simp only[fcg,qar,Option.bind_some]
 by_cases h:xs.length=ys.length
 ·rw[show(((xs.length:Nat):Int) != (ys.length:Int))=false by simp[h],cond_false]
  exact loop h xs ys 0 _ rfl rfl (by omega) _ _
 ·rw[show(((xs.length:Nat):Int) != (ys.length:Int))=true by simp only[bne_iff_ne,ne_eq];omega,cond_true]
  have:xs≠ys:=fun e=>h (by rw[e])
  simp[this]
theorem c_fch (x y:MVer)(hx:x.Bd 1048576)(hy:y.Bd 1048576):out qyy [.agg [Cell.int x.A,Cell.int x.B,Cell.int x.C,encL 1 eStr x.Pre],.agg [Cell.int y.A,Cell.int y.B,Cell.int y.C,encL 1 eStr y.Pre]]=some [.one (Cell.bool (decide (x=y)))]:=by
 obtain⟨b0,b1,b2,b3⟩:=hx
 obtain⟨d0,d1,d2,d3⟩:=hy
 refine qaw (H:=[]) (qlyb 0 ?_)
 simp only[fch,c_fcg _ _ b3 d3,EV0,qqeb,qpkb]
 congr 5
 rw[Bool.eq_iff_iff]
 cases x;cases y
 simp[MVer.mk.injEq]
theorem c_fca (x y:MEntry)(hx:x.Bd 1048576)(hy:y.Bd 1048576):out qts [.agg [Cell.str (bs x.Name),Cell.int x.V.A,Cell.int x.V.B,Cell.int x.V.C,encL 1 eStr x.V.Pre,encL 2 MNeed.enc x.Needs],.agg [Cell.str (bs y.Name),Cell.int y.V.A,Cell.int y.V.B,Cell.int y.V.C,encL 1 eStr y.V.Pre,encL 2 MNeed.enc y.Needs]]=some [.one (Cell.bool (decide (x=y)))]:=by
 obtain⟨b0,b1,b2⟩:=hx
 obtain⟨d0,d1,d2⟩:=hy
 refine qaw (H:=[]) (qrzb 0 ?_)
 simp only[fca,c_fch _ _ b1 d1,c_fcd _ _ b2 d2,EV0,qqeb,qpkb]
 congr 5
 rw[Bool.eq_iff_iff]
 cases x;cases y
 simp[MEntry.mk.injEq]
theorem c_fcb (xs ys:List MEntry)(hx:bdL 1048576 (MEntry.Bd 1048576) xs)(hy:bdL 1048576 (MEntry.Bd 1048576) ys):out qyo [.one (encL 6 MEntry.enc xs),.one (encL 6 MEntry.enc ys)]=some [.one (Cell.bool (decide (xs=ys)))]:=by
 have hxl:xs.length≤1048576:=hx.1
 have hM:=qah
 have loop:xs.length=ys.length→∀ (us vs:List MEntry) (i n:Nat),xs.drop i=us→ys.drop i=vs→us.length < n→∀ k m,qazb k m n (encL 6 MEntry.enc xs) (encL 6 MEntry.enc ys) i=some ([.one (Cell.bool (decide (us=vs)))],[]):=by
  intro hlen us
  induction us with
  | nil=>
   intro vs i n hd he hn k m
   obtain⟨n,rfl⟩:∃ j,n=j+1:=⟨n - 1,by omega⟩
   have:=drop_nil hd
   have hv:vs=[]:=by rw[← he];exact List.drop_eq_nil_of_le (by omega)
   subst hv
   simp only[qazb,qar,Option.bind_some]
   rw[decide_eq_false (by omega)]
   simp
  | cons x us ih=>
   intro vs i n hd he hn k m
   obtain⟨n,rfl⟩:∃ j,n=j+1:=⟨n - 1,by omega⟩
   obtain⟨hlt,hgx,hd'⟩:=qai hd
   cases vs with
   | nil=>have:=drop_nil he;omega
   | cons y vs=>
   obtain⟨hlt',hgy,he'⟩:=qai he
   simp only[List.length_cons] at hn
   have hbx:=hx.2 x (List.mem_of_getElem? hgx)
   have hby:=hy.2 y (List.mem_of_getElem? hgy)
   simp only[qazb,qak,hgx,hgy,MEntry.enc,c_fca _ _ hbx hby,EV0]
   rw[decide_eq_true (by omega)]
   simp only[EV0]
   rw[qag (by omega),ih vs (i+1) n hd' he' (by omega),qqeb]
   congr 5
   rw[Bool.eq_iff_iff]
   simp
 refine qaw (H:=[]) (qsnb (xs.length+1) ?_)
 simp only[fcb,qar,Option.bind_some]
 by_cases h:xs.length=ys.length
 ·rw[show(((xs.length:Nat):Int) != (ys.length:Int))=false by simp[h],cond_false]
  exact loop h xs ys 0 _ rfl rfl (by omega) _ _
 ·rw[show(((xs.length:Nat):Int) != (ys.length:Int))=true by simp only[bne_iff_ne,ne_eq];omega,cond_true]
  have:xs≠ys:=fun e=>h (by rw[e])
  simp[this]
theorem c_fci (x:MCmd)(l:Int)(hx:x.Bd maxLen)(h0:0≤l)(h1:l≤1099511627776):out que [.agg [Cell.str (bs x.Task),encL 1 eStr x.Acts],.one (Cell.int l)]=some [.one (Cell.int (szI x.wt l))]:=by
 obtain⟨b0,b1⟩:=hx
 have hM:=qah
 have k0:x.Task.length≤maxLen:=b0
 have q0:wtS x.Task=x.Task.length:=rfl
 refine qaw (H:=[]) (qpvb 0 ?_)
 simp only[fci,MCmd.wt,EV0]
 rw[wrap_small (by omega) (by omega)]
 by_cases g0:(x.Task.length:Int)≤l
 ·rw[decide_eq_false (by omega),cond_false]
  rw[c_fcq _ _ b1 (by omega) (by omega)]
  simp only[EV0,qjt]
  by_cases g1:((wtL wtS x.Acts:Nat):Int)≤l - (x.Task.length:Int)
  ·rw[if_pos g1,qdc g1]
   first | done | rw[qdc (by omega)]
   first | done | (congr 5<;>omega)
  ·rw[if_neg g1,qem (by omega)]
 ·rw[decide_eq_true (by omega),cond_true,qem (by omega)]
theorem c_fcj (xs:List MCmd)(l:Int)(hx:bdL maxLen (MCmd.Bd maxLen) xs)(h0:0≤l)(h1:l≤1099511627776):out qvt [.one (encL 2 MCmd.enc xs),.one (Cell.int l)]=some [.one (Cell.int (szI (wtL MCmd.wt xs) l))]:=by
 have loop:∀ (ys:List MCmd) (i n:Nat) (l:Int),xs.drop i=ys→ys.length < n→0≤l→l≤1099511627776→∀ k m,qafb k m n (encL 2 MCmd.enc xs) l i=some ([.one (Cell.int (szI (ys.map MCmd.wt).sum l))],[]):=by
  intro ys
  induction ys with
  | nil=>
   intro i n l hd hn h0 h1 k m
   obtain⟨n,rfl⟩:∃ j,n=j+1:=⟨n - 1,by omega⟩
   have:=drop_nil hd
   simp only[qafb,qar,Option.bind_some]
   rw[decide_eq_false (by omega)]
   simp only[List.map_nil,List.sum_nil]
   rw[qll h0,cond_false]
  | cons x ys ih=>
   intro i n l hd hn h0 h1 k m
   obtain⟨n,rfl⟩:∃ j,n=j+1:=⟨n - 1,by omega⟩
   obtain⟨hlt,hg,hd'⟩:=qai hd
   have hxl:=hx.1
   have hM:=qah
   have hb:=hx.2 x (List.mem_of_getElem? hg)
   simp only[qafb,qak,hg,MCmd.enc,EV0]
   rw[decide_eq_true (by omega),cond_true,c_fci _ _ hb (by omega) (by omega)]
   simp only[EV0,qjt]
   rw[qag (by omega)]
   simp only[List.map_cons,List.sum_cons]
   simp only[List.length_cons] at hn
   by_cases g:(((MCmd.wt x):Nat):Int)≤l
   ·rw[if_pos g,qdc g,ih _ _ _ hd' (by omega) (by omega) (by omega),qhj g]
   ·rw[if_neg g,qeh g]
 have hM:=qah
 have hxl:=hx.1
 refine qaw (H:=[]) (qnnb (xs.length+1) ?_)
 simp only[fcj,qar,Option.bind_some]
 rw[wrap_small (by omega) (by omega)]
 by_cases g:(xs.length:Int)≤l
 ·rw[decide_eq_false (by omega),cond_false]
  have:=loop xs 0 (xs.length+1+1) (l - xs.length) rfl (by omega) (by omega) (by omega) (xs.length+1+1) (xs.length+1+1)
  simp only[Int.natCast_zero] at this
  rw[this,qhj g]
  rfl
 ·rw[decide_eq_true (by omega),cond_true]
  have:szI (wtL MCmd.wt xs) l=-1:=qeh g
  rw[this]
theorem c_fco (x:MPack)(l:Int)(hx:x.Bd maxLen)(h0:0≤l)(h1:l≤1099511627776):out qvp [.agg [Cell.str (bs x.Name),encL 1 eStr x.Uses,encL 2 MNeed.enc x.Needs,encL 2 MCmd.enc x.Cmds],.one (Cell.int l)]=some [.one (Cell.int (szI x.wt l))]:=by
 obtain⟨b0,b1,b2,b3⟩:=hx
 have hM:=qah
 have k0:x.Name.length≤maxLen:=b0
 have q0:wtS x.Name=x.Name.length:=rfl
 refine qaw (H:=[]) (qqyb 0 ?_)
 simp only[fco,MPack.wt,EV0]
 rw[wrap_small (by omega) (by omega)]
 by_cases g0:(x.Name.length:Int)≤l
 ·rw[decide_eq_false (by omega),cond_false]
  rw[c_fcq _ _ b1 (by omega) (by omega)]
  simp only[EV0,qjt]
  by_cases g1:((wtL wtS x.Uses:Nat):Int)≤l - (x.Name.length:Int)
  ·rw[if_pos g1,qdc g1]
   rw[c_fcn _ _ b2 (by omega) (by omega)]
   simp only[EV0,qjt]
   by_cases g2:((wtL MNeed.wt x.Needs:Nat):Int)≤l - (x.Name.length:Int) - ((wtL wtS x.Uses:Nat):Int)
   ·rw[if_pos g2,qdc g2]
    rw[c_fcj _ _ b3 (by omega) (by omega)]
    simp only[EV0,qjt]
    by_cases g3:((wtL MCmd.wt x.Cmds:Nat):Int)≤l - (x.Name.length:Int) - ((wtL wtS x.Uses:Nat):Int) - ((wtL MNeed.wt x.Needs:Nat):Int)
    ·rw[if_pos g3,qdc g3]
     first | done | rw[qdc (by omega)]
     first | done | (congr 5<;>omega)
    ·rw[if_neg g3,qem (by omega)]
   ·rw[if_neg g2,qem (by omega)]
  ·rw[if_neg g1,qem (by omega)]
 ·rw[decide_eq_true (by omega),cond_true,qem (by omega)]
theorem c_fcp (xs:List MPack)(l:Int)(hx:bdL maxLen (MPack.Bd maxLen) xs)(h0:0≤l)(h1:l≤1099511627776):out qvz [.one (encL 4 MPack.enc xs),.one (Cell.int l)]=some [.one (Cell.int (szI (wtL MPack.wt xs) l))]:=by
 have loop:∀ (ys:List MPack) (i n:Nat) (l:Int),xs.drop i=ys→ys.length < n→0≤l→l≤1099511627776→∀ k m,qzi k m n (encL 4 MPack.enc xs) l i=some ([.one (Cell.int (szI (ys.map MPack.wt).sum l))],[]):=by
  intro ys
  induction ys with
  | nil=>
   intro i n l hd hn h0 h1 k m
   obtain⟨n,rfl⟩:∃ j,n=j+1:=⟨n - 1,by omega⟩
   have:=drop_nil hd
   simp only[qzi,qar,Option.bind_some]
   rw[decide_eq_false (by omega)]
   simp only[List.map_nil,List.sum_nil]
   rw[qll h0,cond_false]
  | cons x ys ih=>
   intro i n l hd hn h0 h1 k m
   obtain⟨n,rfl⟩:∃ j,n=j+1:=⟨n - 1,by omega⟩
   obtain⟨hlt,hg,hd'⟩:=qai hd
   have hxl:=hx.1
   have hM:=qah
   have hb:=hx.2 x (List.mem_of_getElem? hg)
   simp only[qzi,qak,hg,MPack.enc,EV0]
   rw[decide_eq_true (by omega),cond_true,c_fco _ _ hb (by omega) (by omega)]
   simp only[EV0,qjt]
   rw[qag (by omega)]
   simp only[List.map_cons,List.sum_cons]
   simp only[List.length_cons] at hn
   by_cases g:(((MPack.wt x):Nat):Int)≤l
   ·rw[if_pos g,qdc g,ih _ _ _ hd' (by omega) (by omega) (by omega),qhj g]
   ·rw[if_neg g,qeh g]
 have hM:=qah
 have hxl:=hx.1
 refine qaw (H:=[]) (qmcb (xs.length+1) ?_)
 simp only[fcp,qar,Option.bind_some]
 rw[wrap_small (by omega) (by omega)]
 by_cases g:(xs.length:Int)≤l
 ·rw[decide_eq_false (by omega),cond_false]
  have:=loop xs 0 (xs.length+1+1) (l - xs.length) rfl (by omega) (by omega) (by omega) (xs.length+1+1) (xs.length+1+1)
  simp only[Int.natCast_zero] at this
  rw[this,qhj g]
  rfl
 ·rw[decide_eq_true (by omega),cond_true]
  have:szI (wtL MPack.wt xs) l=-1:=qeh g
  rw[this]
theorem c_fcs (x:MCmd)(hx:x.Bd 1048576):outL quh [.agg [Cell.str (bs x.Task),encL 1 eStr x.Acts]]=some [.agg [Cell.str (bs x.Task),encL 1 eStr x.Acts]]:=by
 obtain⟨b0,b1⟩:=hx
 refine qfw (H:=[]) (qmhb 0 ?_)
 simp only[fcs,c_fda _ b1,EV0]
theorem c_fct (xs:List MCmd)(hx:bdL 1048576 (MCmd.Bd 1048576) xs):outL qyu [.one (encL 2 MCmd.enc xs)]=some [.one (encL 2 MCmd.enc xs)]:=by
 have hxl:xs.length≤1048576:=hx.1
 have hM:=qah
 have loop:∀ (ys:List MCmd) (i n:Nat),xs.drop i=ys→ys.length < n→∀ k m,qbcb k m n (encL 2 MCmd.enc xs) (.vs 0 2 0 xs.length 0) i [Entry.mk 2 (filled MCmd.enc [Cell.str (bs []),.lst true 1 []] xs i) 0 false]=some ([.one (.vs 0 2 0 xs.length 0)],[Entry.mk 2 (xs.map MCmd.enc) 0 false]):=by
  intro ys
  induction ys with
  | nil=>
   intro i n hd hn k m
   obtain⟨n,rfl⟩:∃ j,n=j+1:=⟨n - 1,by omega⟩
   have:=drop_nil hd
   simp only[qbcb,qar,Option.bind_some]
   rw[decide_eq_false (by omega),cond_false]
   have:filled MCmd.enc [Cell.str (bs []),.lst true 1 []] xs i=xs.map MCmd.enc:=by simp[filled,List.take_of_length_le this,show xs.length - i=0 by omega]
   rw[this]
  | cons x ys ih=>
   intro i n hd hn k m
   obtain⟨n,rfl⟩:∃ j,n=j+1:=⟨n - 1,by omega⟩
   obtain⟨hlt,hg,hd'⟩:=qai hd
   simp only[List.length_cons] at hn
   have hb:=hx.2 x (List.mem_of_getElem? hg)
   simp only[qbcb,qak,hg,MCmd.enc,c_fcs _ hb,EV0]
   rw[decide_eq_true (by omega),cond_true,qfk _ _ _ _ _ hlt]
   have hs:qce [Entry.mk 2 (filled MCmd.enc [Cell.str (bs []),.lst true 1 []] xs i) 0 false] (.ptr 0 2 i 0 0) (MCmd.enc x)=some [Entry.mk 2 (filled MCmd.enc [Cell.str (bs []),.lst true 1 []] xs (i+1)) 0 false]:=by
    rw[qfu (sz:=2) (qin MCmd.enc _ hlt) rfl rfl,qgc MCmd.enc _ hg]
   simp only[MCmd.enc] at hs
   simp only[Option.bind_some,hs]
   rw[qag (by omega)]
   exact ih _ _ hd' (by omega) _ _
 refine qbb (H:=[Entry.mk 2 (xs.map MCmd.enc) 0 false]) (qphb (xs.length+1) ?_) (qkc MCmd.enc xs 0 false)
 simp only[fct,qar,Option.bind_some]
 rw[if_pos (by unfold bound;refine⟨?_,?_,?_,?_⟩<;>omega)]
 have:=loop xs 0 (xs.length+1+1) rfl (by omega) (xs.length+1+1) (xs.length+1+1)
 rw[qfb] at this
 exact this
theorem c_fcy (x:MPack)(hx:x.Bd 1048576):outL qur [.agg [Cell.str (bs x.Name),encL 1 eStr x.Uses,encL 2 MNeed.enc x.Needs,encL 2 MCmd.enc x.Cmds]]=some [.agg [Cell.str (bs x.Name),encL 1 eStr x.Uses,encL 2 MNeed.enc x.Needs,encL 2 MCmd.enc x.Cmds]]:=by
 obtain⟨b0,b1,b2,b3⟩:=hx
 refine qfw (H:=[]) (qncb 0 ?_)
 simp only[fcy,c_fda _ b1,c_fcx _ b2,c_fct _ b3,EV0]
theorem c_fcz (xs:List MPack)(hx:bdL 1048576 (MPack.Bd 1048576) xs):outL qnr [.one (encL 4 MPack.enc xs)]=some [.one (encL 4 MPack.enc xs)]:=by
 have hxl:xs.length≤1048576:=hx.1
 have hM:=qah
 have loop:∀ (ys:List MPack) (i n:Nat),xs.drop i=ys→ys.length < n→∀ k m,qanb k m n (encL 4 MPack.enc xs) (.vs 0 4 0 xs.length 0) i [Entry.mk 4 (filled MPack.enc [Cell.str (bs []),.lst true 1 [],.lst true 2 [],.lst true 2 []] xs i) 0 false]=some ([.one (.vs 0 4 0 xs.length 0)],[Entry.mk 4 (xs.map MPack.enc) 0 false]):=by
  intro ys
  induction ys with
  | nil=>
   intro i n hd hn k m
   obtain⟨n,rfl⟩:∃ j,n=j+1:=⟨n - 1,by omega⟩
   have:=drop_nil hd
   simp only[qanb,qar,Option.bind_some]
   rw[decide_eq_false (by omega),cond_false]
   have:filled MPack.enc [Cell.str (bs []),.lst true 1 [],.lst true 2 [],.lst true 2 []] xs i=xs.map MPack.enc:=by simp[filled,List.take_of_length_le this,show xs.length - i=0 by omega]
   rw[this]
  | cons x ys ih=>
   intro i n hd hn k m
   obtain⟨n,rfl⟩:∃ j,n=j+1:=⟨n - 1,by omega⟩
   obtain⟨hlt,hg,hd'⟩:=qai hd
   simp only[List.length_cons] at hn
   have hb:=hx.2 x (List.mem_of_getElem? hg)
   simp only[qanb,qak,hg,MPack.enc,c_fcy _ hb,EV0]
   rw[decide_eq_true (by omega),cond_true,qfk _ _ _ _ _ hlt]
   have hs:qce [Entry.mk 4 (filled MPack.enc [Cell.str (bs []),.lst true 1 [],.lst true 2 [],.lst true 2 []] xs i) 0 false] (.ptr 0 4 i 0 0) (MPack.enc x)=some [Entry.mk 4 (filled MPack.enc [Cell.str (bs []),.lst true 1 [],.lst true 2 [],.lst true 2 []] xs (i+1)) 0 false]:=by
    rw[qfu (sz:=4) (qin MPack.enc _ hlt) rfl rfl,qgc MPack.enc _ hg]
   simp only[MPack.enc] at hs
   simp only[Option.bind_some,hs]
   rw[qag (by omega)]
   exact ih _ _ hd' (by omega) _ _
 refine qbb (H:=[Entry.mk 4 (xs.map MPack.enc) 0 false]) (qnfb (xs.length+1) ?_) (qkc MPack.enc xs 0 false)
 simp only[fcz,qar,Option.bind_some]
 rw[if_pos (by unfold bound;refine⟨?_,?_,?_,?_⟩<;>omega)]
 have:=loop xs 0 (xs.length+1+1) rfl (by omega) (xs.length+1+1) (xs.length+1+1)
 rw[qfb] at this
 exact this
theorem c_fby (x y:MCmd)(hx:x.Bd 1048576)(hy:y.Bd 1048576):out quc [.agg [Cell.str (bs x.Task),encL 1 eStr x.Acts],.agg [Cell.str (bs y.Task),encL 1 eStr y.Acts]]=some [.one (Cell.bool (decide (x=y)))]:=by
 obtain⟨b0,b1⟩:=hx
 obtain⟨d0,d1⟩:=hy
 refine qaw (H:=[]) (qpsb 0 ?_)
 simp only[fby,c_fcg _ _ b1 d1,EV0,qqeb,qpkb]
 congr 5
 rw[Bool.eq_iff_iff]
 cases x;cases y
 simp[MCmd.mk.injEq]
theorem c_fbz (xs ys:List MCmd)(hx:bdL 1048576 (MCmd.Bd 1048576) xs)(hy:bdL 1048576 (MCmd.Bd 1048576) ys):out quy [.one (encL 2 MCmd.enc xs),.one (encL 2 MCmd.enc ys)]=some [.one (Cell.bool (decide (xs=ys)))]:=by
 have hxl:xs.length≤1048576:=hx.1
 have hM:=qah
 have loop:xs.length=ys.length→∀ (us vs:List MCmd) (i n:Nat),xs.drop i=us→ys.drop i=vs→us.length < n→∀ k m,qzy k m n (encL 2 MCmd.enc xs) (encL 2 MCmd.enc ys) i=some ([.one (Cell.bool (decide (us=vs)))],[]):=by
  intro hlen us
  induction us with
  | nil=>
   intro vs i n hd he hn k m
   obtain⟨n,rfl⟩:∃ j,n=j+1:=⟨n - 1,by omega⟩
   have:=drop_nil hd
   have hv:vs=[]:=by rw[← he];exact List.drop_eq_nil_of_le (by omega)
   subst hv
   simp only[qzy,qar,Option.bind_some]
   rw[decide_eq_false (by omega)]
   simp
  | cons x us ih=>
   intro vs i n hd he hn k m
   obtain⟨n,rfl⟩:∃ j,n=j+1:=⟨n - 1,by omega⟩
   obtain⟨hlt,hgx,hd'⟩:=qai hd
   cases vs with
   | nil=>have:=drop_nil he;omega
   | cons y vs=>
   obtain⟨hlt',hgy,he'⟩:=qai he
   simp only[List.length_cons] at hn
   have hbx:=hx.2 x (List.mem_of_getElem? hgx)
   have hby:=hy.2 y (List.mem_of_getElem? hgy)
   simp only[qzy,qak,hgx,hgy,MCmd.enc,c_fby _ _ hbx hby,EV0]
   rw[decide_eq_true (by omega)]
   simp only[EV0]
   rw[qag (by omega),ih vs (i+1) n hd' he' (by omega),qqeb]
   congr 5
   rw[Bool.eq_iff_iff]
   simp
 refine qaw (H:=[]) (qotb (xs.length+1) ?_)
 simp only[fbz,qar,Option.bind_some]
 by_cases h:xs.length=ys.length
 ·rw[show(((xs.length:Nat):Int) != (ys.length:Int))=false by simp[h],cond_false]
  exact loop h xs ys 0 _ rfl rfl (by omega) _ _
 ·rw[show(((xs.length:Nat):Int) != (ys.length:Int))=true by simp only[bne_iff_ne,ne_eq];omega,cond_true]
  have:xs≠ys:=fun e=>h (by rw[e])
  simp[this]
theorem c_fce (x y:MPack)(hx:x.Bd 1048576)(hy:y.Bd 1048576):out qye [.agg [Cell.str (bs x.Name),encL 1 eStr x.Uses,encL 2 MNeed.enc x.Needs,encL 2 MCmd.enc x.Cmds],.agg [Cell.str (bs y.Name),encL 1 eStr y.Uses,encL 2 MNeed.enc y.Needs,encL 2 MCmd.enc y.Cmds]]=some [.one (Cell.bool (decide (x=y)))]:=by
 obtain⟨b0,b1,b2,b3⟩:=hx
 obtain⟨d0,d1,d2,d3⟩:=hy
 refine qaw (H:=[]) (qsxb 0 ?_)
 simp only[fce,c_fcg _ _ b1 d1,c_fcd _ _ b2 d2,c_fbz _ _ b3 d3,EV0,qqeb,qpkb]
 congr 5
 rw[Bool.eq_iff_iff]
 cases x;cases y
 simp[MPack.mk.injEq]
theorem c_fcf (xs ys:List MPack)(hx:bdL 1048576 (MPack.Bd 1048576) xs)(hy:bdL 1048576 (MPack.Bd 1048576) ys):out qxa [.one (encL 4 MPack.enc xs),.one (encL 4 MPack.enc ys)]=some [.one (Cell.bool (decide (xs=ys)))]:=by
 have hxl:xs.length≤1048576:=hx.1
 have hM:=qah
 have loop:xs.length=ys.length→∀ (us vs:List MPack) (i n:Nat),xs.drop i=us→ys.drop i=vs→us.length < n→∀ k m,qzt k m n (encL 4 MPack.enc xs) (encL 4 MPack.enc ys) i=some ([.one (Cell.bool (decide (us=vs)))],[]):=by
  intro hlen us
  induction us with
  | nil=>
   intro vs i n hd he hn k m
   obtain⟨n,rfl⟩:∃ j,n=j+1:=⟨n - 1,by omega⟩
   have:=drop_nil hd
   have hv:vs=[]:=by rw[← he];exact List.drop_eq_nil_of_le (by omega)
   subst hv
   simp only[qzt,qar,Option.bind_some]
   rw[decide_eq_false (by omega)]
   simp
  | cons x us ih=>
   intro vs i n hd he hn k m
   obtain⟨n,rfl⟩:∃ j,n=j+1:=⟨n - 1,by omega⟩
   obtain⟨hlt,hgx,hd'⟩:=qai hd
   cases vs with
   | nil=>have:=drop_nil he;omega
   | cons y vs=>
   obtain⟨hlt',hgy,he'⟩:=qai he
   simp only[List.length_cons] at hn
   have hbx:=hx.2 x (List.mem_of_getElem? hgx)
   have hby:=hy.2 y (List.mem_of_getElem? hgy)
   simp only[qzt,qak,hgx,hgy,MPack.enc,c_fce _ _ hbx hby,EV0]
   rw[decide_eq_true (by omega)]
   simp only[EV0]
   rw[qag (by omega),ih vs (i+1) n hd' he' (by omega),qqeb]
   congr 5
   rw[Bool.eq_iff_iff]
   simp
 refine qaw (H:=[]) (qlzb (xs.length+1) ?_)
 simp only[fcf,qar,Option.bind_some]
 by_cases h:xs.length=ys.length
 ·rw[show(((xs.length:Nat):Int) != (ys.length:Int))=false by simp[h],cond_false]
  exact loop h xs ys 0 _ rfl rfl (by omega) _ _
 ·rw[show(((xs.length:Nat):Int) != (ys.length:Int))=true by simp only[bne_iff_ne,ne_eq];omega,cond_true]
  have:xs≠ys:=fun e=>h (by rw[e])
  simp[this]
end Go.Ev
