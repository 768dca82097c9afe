/- What the laws' own functions come to: sizes, copies, comparisons. Conditions: none. -/
import Derived.Test.YteenbnljpddleaaGreatDoorEvMod
import Derived.Test.YteenbnljpddleaaGreatDoorSh8
set_option linter.unusedSimpArgs false
set_option linter.unusedVariables false
namespace Go.Ev
open Go
theorem qwrc (xs:List Str)(l:Int)(hx:bdL maxLen (bdS maxLen) xs)(h0:0≤l)(h1:l≤1099511627776):out qfv [.one (encL 1 eStr xs),.one (Cell.int l)]=some [.one (Cell.int (szI (wtL wtS xs) l))]:=by
 have loop:∀ (ys:List Str) (i n:Nat) (l:Int),xs.drop i=ys→ys.length < n→0≤l→l≤1099511627776→∀ k m,qflb k m n (encL 1 eStr xs) l i=some ([.one (Cell.int (szI (ys.map wtS).sum l))],[]):=by
  intro ys
  induction ys with
  | nil=>
   intro i n l hd hn h0 h1 k m
   obtain⟨n,rfl⟩:∃ j,n=j+1:=⟨n - 1,by omega⟩
   have:=drop_nil hd
   simp only[qflb,qaf,Option.bind_some]
   rw[decide_eq_false (by omega)]
   simp only[List.map_nil,List.sum_nil]
   rw[qox h0,cond_false]
  | cons x ys ih=>
   intro i n l hd hn h0 h1 k m
   obtain⟨n,rfl⟩:∃ j,n=j+1:=⟨n - 1,by omega⟩
   obtain⟨hlt,hg,hd'⟩:=qal hd
   have hxl:=hx.1
   have hM:=qag
   have hb:x.length≤maxLen:=hx.2 x (List.mem_of_getElem? hg)
   simp only[qflb,qaf,Option.bind_some,qaj,hg,Option.map_some,qnc,eStr,qjsb,qbj]
   rw[decide_eq_true (by omega),cond_true,qae (by omega),wrap_small (by omega) (by omega)]
   simp only[List.map_cons,List.sum_cons,wtS]
   simp only[List.length_cons] at hn
   by_cases g:(x.length:Int)≤l
   ·rw[decide_eq_false (by omega),cond_false,ih _ _ _ hd' (by omega) (by omega) (by omega),qip g]
   ·rw[decide_eq_true (by omega),cond_true,qfl g]
 have hM:=qag
 have hxl:=hx.1
 refine qaw (H:=[]) (qcnc (xs.length+1) ?_)
 simp only[fdl,qaf,Option.bind_some]
 rw[wrap_small (by omega) (by omega)]
 by_cases g:(xs.length:Int)≤l
 ·rw[decide_eq_false (by omega),cond_false]
  have:=loop xs 0 (xs.length+1+1) (l - xs.length) rfl (by omega) (by omega) (by omega) (xs.length+1+1) (xs.length+1+1)
  simp only[Int.natCast_zero] at this
  rw[this,qip g]
  rfl
 ·rw[decide_eq_true (by omega),cond_true]
  have:szI (wtL wtS xs) l=-1:=qfl g
  rw[this]
theorem c_fdf (x:MNeed)(l:Int)(hx:x.Bd maxLen)(h0:0≤l)(h1:l≤1099511627776):out qccb [.agg [Cell.str (bs x.Name),Cell.str (bs x.Range)],.one (Cell.int l)]=some [.one (Cell.int (szI x.wt l))]:=by
 obtain⟨b0,b1⟩:=hx
 have hM:=qag
 have k0:x.Name.length≤maxLen:=b0
 have q0:wtS x.Name=x.Name.length:=rfl
 have k1:x.Range.length≤maxLen:=b1
 have q1:wtS x.Range=x.Range.length:=rfl
 refine qaw (H:=[]) (qtpb 0 ?_)
 simp only[fdf,MNeed.wt,EV0]
 rw[wrap_small (by omega) (by omega)]
 by_cases g0:(x.Name.length:Int)≤l
 ·rw[decide_eq_false (by omega),cond_false]
  rw[wrap_small (by omega) (by omega)]
  by_cases g1:(x.Range.length:Int)≤l - (x.Name.length:Int)
  ·rw[decide_eq_false (by omega),cond_false]
   first | done | rw[qdg (by omega)]
   first | done | (congr 5<;>omega)
  ·rw[decide_eq_true (by omega),cond_true,qfq (by omega)]
 ·rw[decide_eq_true (by omega),cond_true,qfq (by omega)]
theorem c_fdg (xs:List MNeed)(l:Int)(hx:bdL maxLen (MNeed.Bd maxLen) xs)(h0:0≤l)(h1:l≤1099511627776):out qbpb [.one (encL 2 MNeed.enc xs),.one (Cell.int l)]=some [.one (Cell.int (szI (wtL MNeed.wt xs) l))]:=by
 have loop:∀ (ys:List MNeed) (i n:Nat) (l:Int),xs.drop i=ys→ys.length < n→0≤l→l≤1099511627776→∀ k m,qfnb k m n (encL 2 MNeed.enc xs) l i=some ([.one (Cell.int (szI (ys.map MNeed.wt).sum l))],[]):=by
  intro ys
  induction ys with
  | nil=>
   intro i n l hd hn h0 h1 k m
   obtain⟨n,rfl⟩:∃ j,n=j+1:=⟨n - 1,by omega⟩
   have:=drop_nil hd
   simp only[qfnb,qaf,Option.bind_some]
   rw[decide_eq_false (by omega)]
   simp only[List.map_nil,List.sum_nil]
   rw[qox h0,cond_false]
  | cons x ys ih=>
   intro i n l hd hn h0 h1 k m
   obtain⟨n,rfl⟩:∃ j,n=j+1:=⟨n - 1,by omega⟩
   obtain⟨hlt,hg,hd'⟩:=qal hd
   have hxl:=hx.1
   have hM:=qag
   have hb:=hx.2 x (List.mem_of_getElem? hg)
   simp only[qfnb,qaj,hg,MNeed.enc,EV0]
   rw[decide_eq_true (by omega),cond_true,c_fdf _ _ hb (by omega) (by omega)]
   simp only[EV0,qgg]
   rw[qae (by omega)]
   simp only[List.map_cons,List.sum_cons]
   simp only[List.length_cons] at hn
   by_cases g:(((MNeed.wt x):Nat):Int)≤l
   ·rw[if_pos g,qdg g,ih _ _ _ hd' (by omega) (by omega) (by omega),qip g]
   ·rw[if_neg g,qfl g]
 have hM:=qag
 have hxl:=hx.1
 refine qaw (H:=[]) (qtnb (xs.length+1) ?_)
 simp only[fdg,qaf,Option.bind_some]
 rw[wrap_small (by omega) (by omega)]
 by_cases g:(xs.length:Int)≤l
 ·rw[decide_eq_false (by omega),cond_false]
  have:=loop xs 0 (xs.length+1+1) (l - xs.length) rfl (by omega) (by omega) (by omega) (xs.length+1+1) (xs.length+1+1)
  simp only[Int.natCast_zero] at this
  rw[this,qip g]
  rfl
 ·rw[decide_eq_true (by omega),cond_true]
  have:szI (wtL MNeed.wt xs) l=-1:=qfl g
  rw[this]
theorem c_fdd (x:MCmd)(l:Int)(hx:x.Bd maxLen)(h0:0≤l)(h1:l≤1099511627776):out qxe [.agg [Cell.str (bs x.Task),encL 1 eStr x.Acts],.one (Cell.int l)]=some [.one (Cell.int (szI x.wt l))]:=by
 obtain⟨b0,b1⟩:=hx
 have hM:=qag
 have k0:x.Task.length≤maxLen:=b0
 have q0:wtS x.Task=x.Task.length:=rfl
 refine qaw (H:=[]) (qbac 0 ?_)
 simp only[fdd,MCmd.wt,EV0]
 rw[wrap_small (by omega) (by omega)]
 by_cases g0:(x.Task.length:Int)≤l
 ·rw[decide_eq_false (by omega),cond_false]
  rw[qwrc _ _ b1 (by omega) (by omega)]
  simp only[EV0,qgg]
  by_cases g1:((wtL wtS x.Acts:Nat):Int)≤l - (x.Task.length:Int)
  ·rw[if_pos g1,qdg g1]
   first | done | rw[qdg (by omega)]
   first | done | (congr 5<;>omega)
  ·rw[if_neg g1,qfq (by omega)]
 ·rw[decide_eq_true (by omega),cond_true,qfq (by omega)]
theorem c_fde (xs:List MCmd)(l:Int)(hx:bdL maxLen (MCmd.Bd maxLen) xs)(h0:0≤l)(h1:l≤1099511627776):out qyh [.one (encL 2 MCmd.enc xs),.one (Cell.int l)]=some [.one (Cell.int (szI (wtL MCmd.wt xs) l))]:=by
 have loop:∀ (ys:List MCmd) (i n:Nat) (l:Int),xs.drop i=ys→ys.length < n→0≤l→l≤1099511627776→∀ k m,qgqb k m n (encL 2 MCmd.enc xs) l i=some ([.one (Cell.int (szI (ys.map MCmd.wt).sum l))],[]):=by
  intro ys
  induction ys with
  | nil=>
   intro i n l hd hn h0 h1 k m
   obtain⟨n,rfl⟩:∃ j,n=j+1:=⟨n - 1,by omega⟩
   have:=drop_nil hd
   simp only[qgqb,qaf,Option.bind_some]
   rw[decide_eq_false (by omega)]
   simp only[List.map_nil,List.sum_nil]
   rw[qox h0,cond_false]
  | cons x ys ih=>
   intro i n l hd hn h0 h1 k m
   obtain⟨n,rfl⟩:∃ j,n=j+1:=⟨n - 1,by omega⟩
   obtain⟨hlt,hg,hd'⟩:=qal hd
   have hxl:=hx.1
   have hM:=qag
   have hb:=hx.2 x (List.mem_of_getElem? hg)
   simp only[qgqb,qaj,hg,MCmd.enc,EV0]
   rw[decide_eq_true (by omega),cond_true,c_fdd _ _ hb (by omega) (by omega)]
   simp only[EV0,qgg]
   rw[qae (by omega)]
   simp only[List.map_cons,List.sum_cons]
   simp only[List.length_cons] at hn
   by_cases g:(((MCmd.wt x):Nat):Int)≤l
   ·rw[if_pos g,qdg g,ih _ _ _ hd' (by omega) (by omega) (by omega),qip g]
   ·rw[if_neg g,qfl g]
 have hM:=qag
 have hxl:=hx.1
 refine qaw (H:=[]) (quxb (xs.length+1) ?_)
 simp only[fde,qaf,Option.bind_some]
 rw[wrap_small (by omega) (by omega)]
 by_cases g:(xs.length:Int)≤l
 ·rw[decide_eq_false (by omega),cond_false]
  have:=loop xs 0 (xs.length+1+1) (l - xs.length) rfl (by omega) (by omega) (by omega) (xs.length+1+1) (xs.length+1+1)
  simp only[Int.natCast_zero] at this
  rw[this,qip g]
  rfl
 ·rw[decide_eq_true (by omega),cond_true]
  have:szI (wtL MCmd.wt xs) l=-1:=qfl g
  rw[this]
theorem c_fdh (x:MPack)(l:Int)(hx:x.Bd maxLen)(h0:0≤l)(h1:l≤1099511627776):out qxu [.agg [Cell.str (bs x.Name),encL 1 eStr x.Uses,encL 2 MNeed.enc x.Needs,encL 2 MCmd.enc x.Cmds],.one (Cell.int l)]=some [.one (Cell.int (szI x.wt l))]:=by
 obtain⟨b0,b1,b2,b3⟩:=hx
 have hM:=qag
 have k0:x.Name.length≤maxLen:=b0
 have q0:wtS x.Name=x.Name.length:=rfl
 refine qaw (H:=[]) (qbkc 0 ?_)
 simp only[fdh,MPack.wt,EV0]
 rw[wrap_small (by omega) (by omega)]
 by_cases g0:(x.Name.length:Int)≤l
 ·rw[decide_eq_false (by omega),cond_false]
  rw[qwrc _ _ b1 (by omega) (by omega)]
  simp only[EV0,qgg]
  by_cases g1:((wtL wtS x.Uses:Nat):Int)≤l - (x.Name.length:Int)
  ·rw[if_pos g1,qdg g1]
   rw[c_fdg _ _ b2 (by omega) (by omega)]
   simp only[EV0,qgg]
   by_cases g2:((wtL MNeed.wt x.Needs:Nat):Int)≤l - (x.Name.length:Int) - ((wtL wtS x.Uses:Nat):Int)
   ·rw[if_pos g2,qdg g2]
    rw[c_fde _ _ b3 (by omega) (by omega)]
    simp only[EV0,qgg]
    by_cases g3:((wtL MCmd.wt x.Cmds:Nat):Int)≤l - (x.Name.length:Int) - ((wtL wtS x.Uses:Nat):Int) - ((wtL MNeed.wt x.Needs:Nat):Int)
    ·rw[if_pos g3,qdg g3]
     first | done | rw[qdg (by omega)]
     first | done | (congr 5<;>omega)
    ·rw[if_neg g3,qfq (by omega)]
   ·rw[if_neg g2,qfq (by omega)]
  ·rw[if_neg g1,qfq (by omega)]
 ·rw[decide_eq_true (by omega),cond_true,qfq (by omega)]
theorem qdne (xs:List MPack)(l:Int)(hx:bdL maxLen (MPack.Bd maxLen) xs)(h0:0≤l)(h1:l≤1099511627776):out qzy [.one (encL 4 MPack.enc xs),.one (Cell.int l)]=some [.one (Cell.int (szI (wtL MPack.wt xs) l))]:=by
 have loop:∀ (ys:List MPack) (i n:Nat) (l:Int),xs.drop i=ys→ys.length < n→0≤l→l≤1099511627776→∀ k m,qeob k m n (encL 4 MPack.enc xs) l i=some ([.one (Cell.int (szI (ys.map MPack.wt).sum l))],[]):=by
  intro ys
  induction ys with
  | nil=>
   intro i n l hd hn h0 h1 k m
   obtain⟨n,rfl⟩:∃ j,n=j+1:=⟨n - 1,by omega⟩
   have:=drop_nil hd
   simp only[qeob,qaf,Option.bind_some]
   rw[decide_eq_false (by omega)]
   simp only[List.map_nil,List.sum_nil]
   rw[qox h0,cond_false]
  | cons x ys ih=>
   intro i n l hd hn h0 h1 k m
   obtain⟨n,rfl⟩:∃ j,n=j+1:=⟨n - 1,by omega⟩
   obtain⟨hlt,hg,hd'⟩:=qal hd
   have hxl:=hx.1
   have hM:=qag
   have hb:=hx.2 x (List.mem_of_getElem? hg)
   simp only[qeob,qaj,hg,MPack.enc,EV0]
   rw[decide_eq_true (by omega),cond_true,c_fdh _ _ hb (by omega) (by omega)]
   simp only[EV0,qgg]
   rw[qae (by omega)]
   simp only[List.map_cons,List.sum_cons]
   simp only[List.length_cons] at hn
   by_cases g:(((MPack.wt x):Nat):Int)≤l
   ·rw[if_pos g,qdg g,ih _ _ _ hd' (by omega) (by omega) (by omega),qip g]
   ·rw[if_neg g,qfl g]
 have hM:=qag
 have hxl:=hx.1
 refine qaw (H:=[]) (qyvb (xs.length+1) ?_)
 simp only[fdi,qaf,Option.bind_some]
 rw[wrap_small (by omega) (by omega)]
 by_cases g:(xs.length:Int)≤l
 ·rw[decide_eq_false (by omega),cond_false]
  have:=loop xs 0 (xs.length+1+1) (l - xs.length) rfl (by omega) (by omega) (by omega) (xs.length+1+1) (xs.length+1+1)
  simp only[Int.natCast_zero] at this
  rw[this,qip g]
  rfl
 ·rw[decide_eq_true (by omega),cond_true]
  have:szI (wtL MPack.wt xs) l=-1:=qfl g
  rw[this]
theorem c_fdj (x:MRule)(l:Int)(hx:x.Bd maxLen)(h0:0≤l)(h1:l≤1099511627776):out qddb [.agg [Cell.str (bs x.Task),encL 1 eStr x.On,encL 1 eStr x.Ins,encL 1 eStr x.Envs,Cell.bool x.Keep],.one (Cell.int l)]=some [.one (Cell.int (szI x.wt l))]:=by
 obtain⟨b0,b1,b2,b3,b4⟩:=hx
 have hM:=qag
 have k0:x.Task.length≤maxLen:=b0
 have q0:wtS x.Task=x.Task.length:=rfl
 refine qaw (H:=[]) (qvtb 0 ?_)
 simp only[fdj,MRule.wt,EV0]
 rw[wrap_small (by omega) (by omega)]
 by_cases g0:(x.Task.length:Int)≤l
 ·rw[decide_eq_false (by omega),cond_false]
  rw[qwrc _ _ b1 (by omega) (by omega)]
  simp only[EV0,qgg]
  by_cases g1:((wtL wtS x.On:Nat):Int)≤l - (x.Task.length:Int)
  ·rw[if_pos g1,qdg g1]
   rw[qwrc _ _ b2 (by omega) (by omega)]
   simp only[EV0,qgg]
   by_cases g2:((wtL wtS x.Ins:Nat):Int)≤l - (x.Task.length:Int) - ((wtL wtS x.On:Nat):Int)
   ·rw[if_pos g2,qdg g2]
    rw[qwrc _ _ b3 (by omega) (by omega)]
    simp only[EV0,qgg]
    by_cases g3:((wtL wtS x.Envs:Nat):Int)≤l - (x.Task.length:Int) - ((wtL wtS x.On:Nat):Int) - ((wtL wtS x.Ins:Nat):Int)
    ·rw[if_pos g3,qdg g3]
     first | done | rw[qdg (by omega)]
     first | done | (congr 5<;>omega)
    ·rw[if_neg g3,qfq (by omega)]
   ·rw[if_neg g2,qfq (by omega)]
  ·rw[if_neg g1,qfq (by omega)]
 ·rw[decide_eq_true (by omega),cond_true,qfq (by omega)]
theorem c_fdk (xs:List MRule)(l:Int)(hx:bdL maxLen (MRule.Bd maxLen) xs)(h0:0≤l)(h1:l≤1099511627776):out qww [.one (encL 5 MRule.enc xs),.one (Cell.int l)]=some [.one (Cell.int (szI (wtL MRule.wt xs) l))]:=by
 have loop:∀ (ys:List MRule) (i n:Nat) (l:Int),xs.drop i=ys→ys.length < n→0≤l→l≤1099511627776→∀ k m,qgvb k m n (encL 5 MRule.enc xs) l i=some ([.one (Cell.int (szI (ys.map MRule.wt).sum l))],[]):=by
  intro ys
  induction ys with
  | nil=>
   intro i n l hd hn h0 h1 k m
   obtain⟨n,rfl⟩:∃ j,n=j+1:=⟨n - 1,by omega⟩
   have:=drop_nil hd
   simp only[qgvb,qaf,Option.bind_some]
   rw[decide_eq_false (by omega)]
   simp only[List.map_nil,List.sum_nil]
   rw[qox h0,cond_false]
  | cons x ys ih=>
   intro i n l hd hn h0 h1 k m
   obtain⟨n,rfl⟩:∃ j,n=j+1:=⟨n - 1,by omega⟩
   obtain⟨hlt,hg,hd'⟩:=qal hd
   have hxl:=hx.1
   have hM:=qag
   have hb:=hx.2 x (List.mem_of_getElem? hg)
   simp only[qgvb,qaj,hg,MRule.enc,EV0]
   rw[decide_eq_true (by omega),cond_true,c_fdj _ _ hb (by omega) (by omega)]
   simp only[EV0,qgg]
   rw[qae (by omega)]
   simp only[List.map_cons,List.sum_cons]
   simp only[List.length_cons] at hn
   by_cases g:(((MRule.wt x):Nat):Int)≤l
   ·rw[if_pos g,qdg g,ih _ _ _ hd' (by omega) (by omega) (by omega),qip g]
   ·rw[if_neg g,qfl g]
 have hM:=qag
 have hxl:=hx.1
 refine qaw (H:=[]) (qxub (xs.length+1) ?_)
 simp only[fdk,qaf,Option.bind_some]
 rw[wrap_small (by omega) (by omega)]
 by_cases g:(xs.length:Int)≤l
 ·rw[decide_eq_false (by omega),cond_false]
  have:=loop xs 0 (xs.length+1+1) (l - xs.length) rfl (by omega) (by omega) (by omega) (xs.length+1+1) (xs.length+1+1)
  simp only[Int.natCast_zero] at this
  rw[this,qip g]
  rfl
 ·rw[decide_eq_true (by omega),cond_true]
  have:szI (wtL MRule.wt xs) l=-1:=qfl g
  rw[this]
theorem qkwc (xs:List Str)(hb:bdL 1048576 (bdS 1048576) xs):Fresh qem true 2 [.one (encL 1 eStr xs)] [.one (trL 1 qcx xs)]:=by
 have hxl:xs.length≤1048576:=hb.1
 have hM:=qag
 refine qhd (sz:=1) (n:=1) (z:=[Cell.str (bs [])]) rfl (by intro c hc;simp only[List.mem_cons,List.not_mem_nil,or_false] at hc;rcases hc with rfl<;>rfl) qcx xs (fun m i H=>qfhb (xs.length+1+1) (xs.length+1+1) m (encL 1 eStr xs) (.vs 0 1 0 xs.length 0) i H) ?_ ?_ (xs.length+1+1) (by omega) ?_
 ·intro m i x H hi hm hx hg
  refine⟨[.sc (.string (bs x))],[],[],?_,rfl,Sp.leaf1 _,Mine.nil (by simp),by rw[List.append_nil];exact hg⟩
  rw[List.append_nil]
  simp only[qfhb,qaf,Option.bind_some,qaj,hx,Option.map_some,qnc,eStr,qjsb]
  rw[decide_eq_true (by omega),cond_true,qgd _ _ _ _ _ hi,qae (by omega)]
  rfl
 ·intro m H
  simp only[qfhb,qaf,Option.bind_some]
  rw[decide_eq_false (by omega),cond_false]
 ·intro r hr
  refine qweb (xs.length+1) ?_
  simp only[fdu,qaf,Option.bind_some]
  rw[if_pos (by unfold bound;refine⟨?_,?_,?_,?_⟩<;>omega)]
  exact hr
theorem f_fdo (x:MNeed)(hx:x.Bd 1048576):Fresh qbxb true 1 [.agg [Cell.str (bs x.Name),Cell.str (bs x.Range)]] [.agg x.tr]:=by
 obtain⟨b0,b1⟩:=hx
 have hs:Sp (Rep (([]:List Entry)) true true 1) ([]:List Nat) [Cell.str (bs x.Name),Cell.str (bs x.Range)] x.tr:=(Sp.append (Sp.leafD (H:=([]:List Entry)) (w:=true) (q:=true) (n:=1) (by omega) (.string (bs x.Name))) (Sp.append (Sp.leafD (H:=([]:List Entry)) (w:=true) (q:=true) (n:=1) (by omega) (.string (bs x.Range))) (Sp.nil)) :)
 have hw:Mine 0 (([]:List Entry)).length ([]:List Nat):=Mine.nil (Nat.zero_le _)
 refine Fresh.agg (qvdb 0 ?_) hs hw.nd
 simp only[fdo,EV0]
theorem f_fdp (xs:List MNeed)(hb:bdL 1048576 (MNeed.Bd 1048576) xs):Fresh qagb true 2 [.one (encL 2 MNeed.enc xs)] [.one (trL 2 MNeed.tr xs)]:=by
 have hxl:xs.length≤1048576:=hb.1
 have hM:=qag
 refine qhd (sz:=2) (n:=1) (z:=[Cell.str (bs []),Cell.str (bs [])]) rfl (by intro c hc;simp only[List.mem_cons,List.not_mem_nil,or_false] at hc;rcases hc with rfl | rfl<;>rfl) MNeed.tr xs (fun m i H=>qgmb (xs.length+1+1) (xs.length+1+1) m (encL 2 MNeed.enc xs) (.vs 0 2 0 xs.length 0) i H) ?_ ?_ (xs.length+1+1) (by omega) ?_
 ·intro m i x H hi hm hx hg
  obtain⟨cs,E,ids,e0,r0,w0,g0⟩:=qbhc (f_fdo x (hb.2 x hm)) H (qam [.agg [Cell.str (bs x.Name),Cell.str (bs x.Range)]] _ _)
  obtain rfl:=MNeed.open r0
  refine⟨_,E,ids,?_,rfl,r0,w0,g0 hg⟩
  simp only[qgmb,qaf,Option.bind_some,qaj,hx,MNeed.enc,e0,EV0]
  rw[decide_eq_true (by omega),cond_true,qgd _ _ _ _ _ hi,qae (by omega)]
  simp only[Option.bind_some]
 ·intro m H
  simp only[qgmb,qaf,Option.bind_some]
  rw[decide_eq_false (by omega),cond_false]
 ·intro r hr
  refine qtub (xs.length+1) ?_
  simp only[fdp,qaf,Option.bind_some]
  rw[if_pos (by unfold bound;refine⟨?_,?_,?_,?_⟩<;>omega)]
  exact hr
theorem f_fdm (x:MCmd)(hx:x.Bd 1048576):Fresh qdxb true 2 [.agg [Cell.str (bs x.Task),encL 1 eStr x.Acts]] [.agg x.tr]:=by
 obtain⟨b0,b1⟩:=hx
 obtain⟨c1,E1,i1,e1,r1,w1,g1⟩:=qcz (qkwc (x.Acts) b1) (([]:List Entry)) (qam [.one (encL 1 eStr x.Acts)] _ _)
 have hs:Sp (Rep (([]:List Entry)++E1) true true 2) (i1++([]:List Nat)) [Cell.str (bs x.Task),c1] x.tr:=(Sp.append (Sp.leafD (H:=([]:List Entry)++E1) (w:=true) (q:=true) (n:=2) (by omega) (.string (bs x.Task))) (Sp.append (Sp.one1 (Rep.more (m:=2) r1 (by omega))) (Sp.nil)) :)
 have hw:Mine 0 (([]:List Entry)++E1).length (i1++([]:List Nat)):=Mine.app w1 (Mine.nil (Nat.le_refl _))
 refine Fresh.agg (qylb 0 ?_) hs hw.nd
 simp only[fdm,e1,EV0]
theorem f_fdn (xs:List MCmd)(hb:bdL 1048576 (MCmd.Bd 1048576) xs):Fresh qckb true 3 [.one (encL 2 MCmd.enc xs)] [.one (trL 2 MCmd.tr xs)]:=by
 have hxl:xs.length≤1048576:=hb.1
 have hM:=qag
 refine qhd (sz:=2) (n:=2) (z:=[Cell.str (bs []),.lst true 1 []]) rfl (by intro c hc;simp only[List.mem_cons,List.not_mem_nil,or_false] at hc;rcases hc with rfl | rfl<;>rfl) MCmd.tr xs (fun m i H=>qfdb (xs.length+1+1) (xs.length+1+1) m (encL 2 MCmd.enc xs) (.vs 0 2 0 xs.length 0) i H) ?_ ?_ (xs.length+1+1) (by omega) ?_
 ·intro m i x H hi hm hx hg
  obtain⟨cs,E,ids,e0,r0,w0,g0⟩:=qbhc (f_fdm x (hb.2 x hm)) H (qam [.agg [Cell.str (bs x.Task),encL 1 eStr x.Acts]] _ _)
  obtain⟨c1,rfl⟩:=MCmd.open r0
  refine⟨_,E,ids,?_,rfl,r0,w0,g0 hg⟩
  simp only[qfdb,qaf,Option.bind_some,qaj,hx,MCmd.enc,e0,EV0]
  rw[decide_eq_true (by omega),cond_true,qgd _ _ _ _ _ hi,qae (by omega)]
  simp only[Option.bind_some]
 ·intro m H
  simp only[qfdb,qaf,Option.bind_some]
  rw[decide_eq_false (by omega),cond_false]
 ·intro r hr
  refine qwrb (xs.length+1) ?_
  simp only[fdn,qaf,Option.bind_some]
  rw[if_pos (by unfold bound;refine⟨?_,?_,?_,?_⟩<;>omega)]
  exact hr
theorem f_fdq (x:MPack)(hx:x.Bd 1048576):Fresh qaeb true 3 [.agg [Cell.str (bs x.Name),encL 1 eStr x.Uses,encL 2 MNeed.enc x.Needs,encL 2 MCmd.enc x.Cmds]] [.agg x.tr]:=by
 obtain⟨b0,b1,b2,b3⟩:=hx
 obtain⟨c1,E1,i1,e1,r1,w1,g1⟩:=qcz (qkwc (x.Uses) b1) (([]:List Entry)) (qam [.one (encL 1 eStr x.Uses)] _ _)
 obtain⟨c2,E2,i2,e2,r2,w2,g2⟩:=qcz (f_fdp (x.Needs) b2) (([]:List Entry)++E1) (qam [.one (encL 2 MNeed.enc x.Needs)] _ _)
 obtain⟨c3,E3,i3,e3,r3,w3,g3⟩:=qcz (f_fdn (x.Cmds) b3) (([]:List Entry)++E1++E2) (qam [.one (encL 2 MCmd.enc x.Cmds)] _ _)
 have hs:Sp (Rep (([]:List Entry)++E1++E2++E3) true true 3) (i1++(i2++(i3++([]:List Nat)))) [Cell.str (bs x.Name),c1,c2,c3] x.tr:=(Sp.append (Sp.leafD (H:=([]:List Entry)++E1++E2++E3) (w:=true) (q:=true) (n:=3) (by omega) (.string (bs x.Name))) (Sp.append (Sp.one1 (Rep.more (m:=3) (Rep.app E3 (Rep.app E2 r1)) (by omega))) (Sp.append (Sp.one1 (Rep.more (m:=3) (Rep.app E3 r2) (by omega))) (Sp.append (Sp.one1 (Rep.more (m:=3) r3 (by omega))) (Sp.nil)))) :)
 have hw:Mine 0 (([]:List Entry)++E1++E2++E3).length (i1++(i2++(i3++([]:List Nat)))):=Mine.app w1 (Mine.app w2 (Mine.app w3 (Mine.nil (Nat.le_refl _))))
 refine Fresh.agg (qajc 0 ?_) hs hw.nd
 simp only[fdq,e1,e2,e3,EV0]
theorem qdxe (xs:List MPack)(hb:bdL 1048576 (MPack.Bd 1048576) xs):Fresh qma true 4 [.one (encL 4 MPack.enc xs)] [.one (trL 4 MPack.tr xs)]:=by
 have hxl:xs.length≤1048576:=hb.1
 have hM:=qag
 refine qhd (sz:=4) (n:=3) (z:=[Cell.str (bs []),.lst true 1 [],.lst true 2 [],.lst true 2 []]) rfl (by intro c hc;simp only[List.mem_cons,List.not_mem_nil,or_false] at hc;rcases hc with rfl | rfl | rfl | rfl<;>rfl) MPack.tr xs (fun m i H=>qewb (xs.length+1+1) (xs.length+1+1) m (encL 4 MPack.enc xs) (.vs 0 4 0 xs.length 0) i H) ?_ ?_ (xs.length+1+1) (by omega) ?_
 ·intro m i x H hi hm hx hg
  obtain⟨cs,E,ids,e0,r0,w0,g0⟩:=qbhc (f_fdq x (hb.2 x hm)) H (qam [.agg [Cell.str (bs x.Name),encL 1 eStr x.Uses,encL 2 MNeed.enc x.Needs,encL 2 MCmd.enc x.Cmds]] _ _)
  obtain⟨c1,c2,c3,rfl⟩:=MPack.open r0
  refine⟨_,E,ids,?_,rfl,r0,w0,g0 hg⟩
  simp only[qewb,qaf,Option.bind_some,qaj,hx,MPack.enc,e0,EV0]
  rw[decide_eq_true (by omega),cond_true,qgd _ _ _ _ _ hi,qae (by omega)]
  simp only[Option.bind_some]
 ·intro m H
  simp only[qewb,qaf,Option.bind_some]
  rw[decide_eq_false (by omega),cond_false]
 ·intro r hr
  refine qupb (xs.length+1) ?_
  simp only[fdr,qaf,Option.bind_some]
  rw[if_pos (by unfold bound;refine⟨?_,?_,?_,?_⟩<;>omega)]
  exact hr
theorem f_fds (x:MRule)(hx:x.Bd 1048576):Fresh qyo true 2 [.agg [Cell.str (bs x.Task),encL 1 eStr x.On,encL 1 eStr x.Ins,encL 1 eStr x.Envs,Cell.bool x.Keep]] [.agg x.tr]:=by
 obtain⟨b0,b1,b2,b3,b4⟩:=hx
 obtain⟨c1,E1,i1,e1,r1,w1,g1⟩:=qcz (qkwc (x.On) b1) (([]:List Entry)) (qam [.one (encL 1 eStr x.On)] _ _)
 obtain⟨c2,E2,i2,e2,r2,w2,g2⟩:=qcz (qkwc (x.Ins) b2) (([]:List Entry)++E1) (qam [.one (encL 1 eStr x.Ins)] _ _)
 obtain⟨c3,E3,i3,e3,r3,w3,g3⟩:=qcz (qkwc (x.Envs) b3) (([]:List Entry)++E1++E2) (qam [.one (encL 1 eStr x.Envs)] _ _)
 have hs:Sp (Rep (([]:List Entry)++E1++E2++E3) true true 2) (i1++(i2++(i3++([]:List Nat)))) [Cell.str (bs x.Task),c1,c2,c3,Cell.bool x.Keep] x.tr:=(Sp.append (Sp.leafD (H:=([]:List Entry)++E1++E2++E3) (w:=true) (q:=true) (n:=2) (by omega) (.string (bs x.Task))) (Sp.append (Sp.one1 (Rep.more (m:=2) (Rep.app E3 (Rep.app E2 r1)) (by omega))) (Sp.append (Sp.one1 (Rep.more (m:=2) (Rep.app E3 r2) (by omega))) (Sp.append (Sp.one1 (Rep.more (m:=2) r3 (by omega))) (Sp.append (Sp.leafD (H:=([]:List Entry)++E1++E2++E3) (w:=true) (q:=true) (n:=2) (by omega) (.bool x.Keep)) (Sp.nil))))) :)
 have hw:Mine 0 (([]:List Entry)++E1++E2++E3).length (i1++(i2++(i3++([]:List Nat)))):=Mine.app w1 (Mine.app w2 (Mine.app w3 (Mine.nil (Nat.le_refl _))))
 refine Fresh.agg (qcjc 0 ?_) hs hw.nd
 simp only[fds,e1,e2,e3,EV0]
theorem qbxe (xs:List MRule)(hb:bdL 1048576 (MRule.Bd 1048576) xs):Fresh qmf true 3 [.one (encL 5 MRule.enc xs)] [.one (trL 5 MRule.tr xs)]:=by
 have hxl:xs.length≤1048576:=hb.1
 have hM:=qag
 refine qhd (sz:=5) (n:=2) (z:=[Cell.str (bs []),.lst true 1 [],.lst true 1 [],.lst true 1 [],Cell.bool false]) rfl (by intro c hc;simp only[List.mem_cons,List.not_mem_nil,or_false] at hc;rcases hc with rfl | rfl | rfl | rfl | rfl<;>rfl) MRule.tr xs (fun m i H=>qetb (xs.length+1+1) (xs.length+1+1) m (encL 5 MRule.enc xs) (.vs 0 5 0 xs.length 0) i H) ?_ ?_ (xs.length+1+1) (by omega) ?_
 ·intro m i x H hi hm hx hg
  obtain⟨cs,E,ids,e0,r0,w0,g0⟩:=qbhc (f_fds x (hb.2 x hm)) H (qam [.agg [Cell.str (bs x.Task),encL 1 eStr x.On,encL 1 eStr x.Ins,encL 1 eStr x.Envs,Cell.bool x.Keep]] _ _)
  obtain⟨c1,c2,c3,rfl⟩:=MRule.open r0
  refine⟨_,E,ids,?_,rfl,r0,w0,g0 hg⟩
  simp only[qetb,qaf,Option.bind_some,qaj,hx,MRule.enc,e0,EV0]
  rw[decide_eq_true (by omega),cond_true,qgd _ _ _ _ _ hi,qae (by omega)]
  simp only[Option.bind_some]
 ·intro m H
  simp only[qetb,qaf,Option.bind_some]
  rw[decide_eq_false (by omega),cond_false]
 ·intro r hr
  refine qzhb (xs.length+1) ?_
  simp only[fdt,qaf,Option.bind_some]
  rw[if_pos (by unfold bound;refine⟨?_,?_,?_,?_⟩<;>omega)]
  exact hr
theorem qtqc (xs ys:List Str)(hx:bdL 1048576 (bdS 1048576) xs)(hy:bdL 1048576 (bdS 1048576) ys):out qdu [.one (encL 1 eStr xs),.one (encL 1 eStr ys)]=some [.one (Cell.bool (decide (xs=ys)))]:=by
 have hxl:xs.length≤1048576:=hx.1
 have hM:=qag
 have loop:xs.length=ys.length→∀ (us vs:List Str) (i n:Nat),xs.drop i=us→ys.drop i=vs→us.length < n→∀ k m,qggb k m n (encL 1 eStr xs) (encL 1 eStr ys) i=some ([.one (Cell.bool (decide (us=vs)))],[]):=by
  intro hlen us
  induction us with
  | nil=>
   intro vs i n hd he hn k m
   obtain⟨n,rfl⟩:∃ j,n=j+1:=⟨n - 1,by omega⟩
   have:=drop_nil hd
   have hv:vs=[]:=by rw[← he];exact List.drop_eq_nil_of_le (by omega)
   subst hv
   simp only[qggb,qaf,Option.bind_some]
   rw[decide_eq_false (by omega)]
   simp
  | cons x us ih=>
   intro vs i n hd he hn k m
   obtain⟨n,rfl⟩:∃ j,n=j+1:=⟨n - 1,by omega⟩
   obtain⟨hlt,hgx,hd'⟩:=qal hd
   cases vs with
   | nil=>have:=drop_nil he;omega
   | cons y vs=>
   obtain⟨hlt',hgy,he'⟩:=qal he
   simp only[List.length_cons] at hn
   simp only[qggb,qaj,hgx,hgy,eStr,EV0]
   rw[decide_eq_true (by omega)]
   simp only[EV0]
   rw[qae (by omega),ih vs (i+1) n hd' he' (by omega),qthb]
   congr 5
   rw[Bool.eq_iff_iff]
   simp
 refine qaw (H:=[]) (qbfc (xs.length+1) ?_)
 simp only[fcq,qaf,Option.bind_some]
 by_cases h:xs.length=ys.length
 ·rw[show(((xs.length:Nat):Int) != (ys.length:Int))=false by simp[h],cond_false]
  exact loop h xs ys 0 _ rfl rfl (by omega) _ _
 ·rw[show(((xs.length:Nat):Int) != (ys.length:Int))=true by simp only[bne_iff_ne,ne_eq];omega,cond_true]
  have:xs≠ys:=fun e=>h (by rw[e])
  simp[this]
theorem c_fcr (xs ys:List (List Str))(hx:bdL 1048576 (bdL 1048576 (bdS 1048576)) xs)(hy:bdL 1048576 (bdL 1048576 (bdS 1048576)) ys):out qxb [.one (encL 1 qdi xs),.one (encL 1 qdi ys)]=some [.one (Cell.bool (decide (xs=ys)))]:=by
 have hxl:xs.length≤1048576:=hx.1
 have hM:=qag
 have loop:xs.length=ys.length→∀ (us vs:List (List Str)) (i n:Nat),xs.drop i=us→ys.drop i=vs→us.length < n→∀ k m,qfxb k m n (encL 1 qdi xs) (encL 1 qdi ys) i=some ([.one (Cell.bool (decide (us=vs)))],[]):=by
  intro hlen us
  induction us with
  | nil=>
   intro vs i n hd he hn k m
   obtain⟨n,rfl⟩:∃ j,n=j+1:=⟨n - 1,by omega⟩
   have:=drop_nil hd
   have hv:vs=[]:=by rw[← he];exact List.drop_eq_nil_of_le (by omega)
   subst hv
   simp only[qfxb,qaf,Option.bind_some]
   rw[decide_eq_false (by omega)]
   simp
  | cons x us ih=>
   intro vs i n hd he hn k m
   obtain⟨n,rfl⟩:∃ j,n=j+1:=⟨n - 1,by omega⟩
   obtain⟨hlt,hgx,hd'⟩:=qal hd
   cases vs with
   | nil=>have:=drop_nil he;omega
   | cons y vs=>
   obtain⟨hlt',hgy,he'⟩:=qal he
   simp only[List.length_cons] at hn
   have hbx:=hx.2 x (List.mem_of_getElem? hgx)
   have hby:=hy.2 y (List.mem_of_getElem? hgy)
   simp only[qfxb,qaj,hgx,hgy,qdi,qtqc _ _ hbx hby,EV0]
   rw[decide_eq_true (by omega)]
   simp only[EV0]
   rw[qae (by omega),ih vs (i+1) n hd' he' (by omega),qthb]
   congr 5
   rw[Bool.eq_iff_iff]
   simp
 refine qaw (H:=[]) (qcec (xs.length+1) ?_)
 simp only[fcr,qaf,Option.bind_some]
 by_cases h:xs.length=ys.length
 ·rw[show(((xs.length:Nat):Int) != (ys.length:Int))=false by simp[h],cond_false]
  exact loop h xs ys 0 _ rfl rfl (by omega) _ _
 ·rw[show(((xs.length:Nat):Int) != (ys.length:Int))=true by simp only[bne_iff_ne,ne_eq];omega,cond_true]
  have:xs≠ys:=fun e=>h (by rw[e])
  simp[this]
theorem c_fcn (x y:MPlan)(hx:x.Bd 1048576)(hy:y.Bd 1048576):out qja [.agg [encL 1 eStr x.Tasks,encL 1 qdi x.Deps],.agg [encL 1 eStr y.Tasks,encL 1 qdi y.Deps]]=some [.one (Cell.bool (decide (x=y)))]:=by
 obtain⟨b0,b1⟩:=hx
 obtain⟨d0,d1⟩:=hy
 refine qaw (H:=[]) (qtxb 0 ?_)
 simp only[fcn,qtqc _ _ b0 d0,c_fcr _ _ b1 d1,EV0,qthb,quib]
 congr 5
 rw[Bool.eq_iff_iff]
 cases x;cases y
 simp[MPlan.mk.injEq]
theorem c_fcj (x y:MNeed)(hx:x.Bd 1048576)(hy:y.Bd 1048576):out qchb [.agg [Cell.str (bs x.Name),Cell.str (bs x.Range)],.agg [Cell.str (bs y.Name),Cell.str (bs y.Range)]]=some [.one (Cell.bool (decide (x=y)))]:=by
 obtain⟨b0,b1⟩:=hx
 obtain⟨d0,d1⟩:=hy
 refine qaw (H:=[]) (qtrb 0 ?_)
 simp only[fcj,EV0,qthb,quib]
 congr 5
 rw[Bool.eq_iff_iff]
 cases x;cases y
 simp[MNeed.mk.injEq]
theorem c_fck (xs ys:List MNeed)(hx:bdL 1048576 (MNeed.Bd 1048576) xs)(hy:bdL 1048576 (MNeed.Bd 1048576) ys):out qahb [.one (encL 2 MNeed.enc xs),.one (encL 2 MNeed.enc ys)]=some [.one (Cell.bool (decide (xs=ys)))]:=by
 have hxl:xs.length≤1048576:=hx.1
 have hM:=qag
 have loop:xs.length=ys.length→∀ (us vs:List MNeed) (i n:Nat),xs.drop i=us→ys.drop i=vs→us.length < n→∀ k m,qgfb k m n (encL 2 MNeed.enc xs) (encL 2 MNeed.enc ys) i=some ([.one (Cell.bool (decide (us=vs)))],[]):=by
  intro hlen us
  induction us with
  | nil=>
   intro vs i n hd he hn k m
   obtain⟨n,rfl⟩:∃ j,n=j+1:=⟨n - 1,by omega⟩
   have:=drop_nil hd
   have hv:vs=[]:=by rw[← he];exact List.drop_eq_nil_of_le (by omega)
   subst hv
   simp only[qgfb,qaf,Option.bind_some]
   rw[decide_eq_false (by omega)]
   simp
  | cons x us ih=>
   intro vs i n hd he hn k m
   obtain⟨n,rfl⟩:∃ j,n=j+1:=⟨n - 1,by omega⟩
   obtain⟨hlt,hgx,hd'⟩:=qal hd
   cases vs with
   | nil=>have:=drop_nil he;omega
   | cons y vs=>
   obtain⟨hlt',hgy,he'⟩:=qal he
   simp only[List.length_cons] at hn
   have hbx:=hx.2 x (List.mem_of_getElem? hgx)
   have hby:=hy.2 y (List.mem_of_getElem? hgy)
   simp only[qgfb,qaj,hgx,hgy,MNeed.enc,c_fcj _ _ hbx hby,EV0]
   rw[decide_eq_true (by omega)]
   simp only[EV0]
   rw[qae (by omega),ih vs (i+1) n hd' he' (by omega),qthb]
   congr 5
   rw[Bool.eq_iff_iff]
   simp
 refine qaw (H:=[]) (qvgb (xs.length+1) ?_)
 simp only[fck,qaf,Option.bind_some]
 by_cases h:xs.length=ys.length
 ·rw[show(((xs.length:Nat):Int) != (ys.length:Int))=false by simp[h],cond_false]
  exact loop h xs ys 0 _ rfl rfl (by omega) _ _
 ·rw[show(((xs.length:Nat):Int) != (ys.length:Int))=true by simp only[bne_iff_ne,ne_eq];omega,cond_true]
  have:xs≠ys:=fun e=>h (by rw[e])
  simp[this]
theorem c_fch (x y:MCmd)(hx:x.Bd 1048576)(hy:y.Bd 1048576):out qxs [.agg [Cell.str (bs x.Task),encL 1 eStr x.Acts],.agg [Cell.str (bs y.Task),encL 1 eStr y.Acts]]=some [.one (Cell.bool (decide (x=y)))]:=by
 obtain⟨b0,b1⟩:=hx
 obtain⟨d0,d1⟩:=hy
 refine qaw (H:=[]) (qbzc 0 ?_)
 simp only[fch,qtqc _ _ b1 d1,EV0,qthb,quib]
 congr 5
 rw[Bool.eq_iff_iff]
 cases x;cases y
 simp[MCmd.mk.injEq]
theorem c_fci (xs ys:List MCmd)(hx:bdL 1048576 (MCmd.Bd 1048576) xs)(hy:bdL 1048576 (MCmd.Bd 1048576) ys):out qdbb [.one (encL 2 MCmd.enc xs),.one (encL 2 MCmd.enc ys)]=some [.one (Cell.bool (decide (xs=ys)))]:=by
 have hxl:xs.length≤1048576:=hx.1
 have hM:=qag
 have loop:xs.length=ys.length→∀ (us vs:List MCmd) (i n:Nat),xs.drop i=us→ys.drop i=vs→us.length < n→∀ k m,qfzb k m n (encL 2 MCmd.enc xs) (encL 2 MCmd.enc ys) i=some ([.one (Cell.bool (decide (us=vs)))],[]):=by
  intro hlen us
  induction us with
  | nil=>
   intro vs i n hd he hn k m
   obtain⟨n,rfl⟩:∃ j,n=j+1:=⟨n - 1,by omega⟩
   have:=drop_nil hd
   have hv:vs=[]:=by rw[← he];exact List.drop_eq_nil_of_le (by omega)
   subst hv
   simp only[qfzb,qaf,Option.bind_some]
   rw[decide_eq_false (by omega)]
   simp
  | cons x us ih=>
   intro vs i n hd he hn k m
   obtain⟨n,rfl⟩:∃ j,n=j+1:=⟨n - 1,by omega⟩
   obtain⟨hlt,hgx,hd'⟩:=qal hd
   cases vs with
   | nil=>have:=drop_nil he;omega
   | cons y vs=>
   obtain⟨hlt',hgy,he'⟩:=qal he
   simp only[List.length_cons] at hn
   have hbx:=hx.2 x (List.mem_of_getElem? hgx)
   have hby:=hy.2 y (List.mem_of_getElem? hgy)
   simp only[qfzb,qaj,hgx,hgy,MCmd.enc,c_fch _ _ hbx hby,EV0]
   rw[decide_eq_true (by omega)]
   simp only[EV0]
   rw[qae (by omega),ih vs (i+1) n hd' he' (by omega),qthb]
   congr 5
   rw[Bool.eq_iff_iff]
   simp
 refine qaw (H:=[]) (qadc (xs.length+1) ?_)
 simp only[fci,qaf,Option.bind_some]
 by_cases h:xs.length=ys.length
 ·rw[show(((xs.length:Nat):Int) != (ys.length:Int))=false by simp[h],cond_false]
  exact loop h xs ys 0 _ rfl rfl (by omega) _ _
 ·rw[show(((xs.length:Nat):Int) != (ys.length:Int))=true by simp only[bne_iff_ne,ne_eq];omega,cond_true]
  have:xs≠ys:=fun e=>h (by rw[e])
  simp[this]
theorem c_fcl (x y:MPack)(hx:x.Bd 1048576)(hy:y.Bd 1048576):out qwq [.agg [Cell.str (bs x.Name),encL 1 eStr x.Uses,encL 2 MNeed.enc x.Needs,encL 2 MCmd.enc x.Cmds],.agg [Cell.str (bs y.Name),encL 1 eStr y.Uses,encL 2 MNeed.enc y.Needs,encL 2 MCmd.enc y.Cmds]]=some [.one (Cell.bool (decide (x=y)))]:=by
 obtain⟨b0,b1,b2,b3⟩:=hx
 obtain⟨d0,d1,d2,d3⟩:=hy
 refine qaw (H:=[]) (queb 0 ?_)
 simp only[fcl,qtqc _ _ b1 d1,c_fck _ _ b2 d2,c_fci _ _ b3 d3,EV0,qthb,quib]
 congr 5
 rw[Bool.eq_iff_iff]
 cases x;cases y
 simp[MPack.mk.injEq]
theorem c_fcm (xs ys:List MPack)(hx:bdL 1048576 (MPack.Bd 1048576) xs)(hy:bdL 1048576 (MPack.Bd 1048576) ys):out qtk [.one (encL 4 MPack.enc xs),.one (encL 4 MPack.enc ys)]=some [.one (Cell.bool (decide (xs=ys)))]:=by
 have hxl:xs.length≤1048576:=hx.1
 have hM:=qag
 have loop:xs.length=ys.length→∀ (us vs:List MPack) (i n:Nat),xs.drop i=us→ys.drop i=vs→us.length < n→∀ k m,qepb k m n (encL 4 MPack.enc xs) (encL 4 MPack.enc ys) i=some ([.one (Cell.bool (decide (us=vs)))],[]):=by
  intro hlen us
  induction us with
  | nil=>
   intro vs i n hd he hn k m
   obtain⟨n,rfl⟩:∃ j,n=j+1:=⟨n - 1,by omega⟩
   have:=drop_nil hd
   have hv:vs=[]:=by rw[← he];exact List.drop_eq_nil_of_le (by omega)
   subst hv
   simp only[qepb,qaf,Option.bind_some]
   rw[decide_eq_false (by omega)]
   simp
  | cons x us ih=>
   intro vs i n hd he hn k m
   obtain⟨n,rfl⟩:∃ j,n=j+1:=⟨n - 1,by omega⟩
   obtain⟨hlt,hgx,hd'⟩:=qal hd
   cases vs with
   | nil=>have:=drop_nil he;omega
   | cons y vs=>
   obtain⟨hlt',hgy,he'⟩:=qal he
   simp only[List.length_cons] at hn
   have hbx:=hx.2 x (List.mem_of_getElem? hgx)
   have hby:=hy.2 y (List.mem_of_getElem? hgy)
   simp only[qepb,qaj,hgx,hgy,MPack.enc,c_fcl _ _ hbx hby,EV0]
   rw[decide_eq_true (by omega)]
   simp only[EV0]
   rw[qae (by omega),ih vs (i+1) n hd' he' (by omega),qthb]
   congr 5
   rw[Bool.eq_iff_iff]
   simp
 refine qaw (H:=[]) (quqb (xs.length+1) ?_)
 simp only[fcm,qaf,Option.bind_some]
 by_cases h:xs.length=ys.length
 ·rw[show(((xs.length:Nat):Int) != (ys.length:Int))=false by simp[h],cond_false]
  exact loop h xs ys 0 _ rfl rfl (by omega) _ _
 ·rw[show(((xs.length:Nat):Int) != (ys.length:Int))=true by simp only[bne_iff_ne,ne_eq];omega,cond_true]
  have:xs≠ys:=fun e=>h (by rw[e])
  simp[this]
theorem c_fco (x y:MRule)(hx:x.Bd 1048576)(hy:y.Bd 1048576):out qys [.agg [Cell.str (bs x.Task),encL 1 eStr x.On,encL 1 eStr x.Ins,encL 1 eStr x.Envs,Cell.bool x.Keep],.agg [Cell.str (bs y.Task),encL 1 eStr y.On,encL 1 eStr y.Ins,encL 1 eStr y.Envs,Cell.bool y.Keep]]=some [.one (Cell.bool (decide (x=y)))]:=by
 obtain⟨b0,b1,b2,b3,b4⟩:=hx
 obtain⟨d0,d1,d2,d3,d4⟩:=hy
 refine qaw (H:=[]) (qvvb 0 ?_)
 simp only[fco,qtqc _ _ b1 d1,qtqc _ _ b2 d2,qtqc _ _ b3 d3,EV0,qthb,quib]
 congr 5
 rw[Bool.eq_iff_iff]
 cases x;cases y
 simp[MRule.mk.injEq]
theorem c_fcp (xs ys:List MRule)(hx:bdL 1048576 (MRule.Bd 1048576) xs)(hy:bdL 1048576 (MRule.Bd 1048576) ys):out qtu [.one (encL 5 MRule.enc xs),.one (encL 5 MRule.enc ys)]=some [.one (Cell.bool (decide (xs=ys)))]:=by
 have hxl:xs.length≤1048576:=hx.1
 have hM:=qag
 have loop:xs.length=ys.length→∀ (us vs:List MRule) (i n:Nat),xs.drop i=us→ys.drop i=vs→us.length < n→∀ k m,qgpb k m n (encL 5 MRule.enc xs) (encL 5 MRule.enc ys) i=some ([.one (Cell.bool (decide (us=vs)))],[]):=by
  intro hlen us
  induction us with
  | nil=>
   intro vs i n hd he hn k m
   obtain⟨n,rfl⟩:∃ j,n=j+1:=⟨n - 1,by omega⟩
   have:=drop_nil hd
   have hv:vs=[]:=by rw[← he];exact List.drop_eq_nil_of_le (by omega)
   subst hv
   simp only[qgpb,qaf,Option.bind_some]
   rw[decide_eq_false (by omega)]
   simp
  | cons x us ih=>
   intro vs i n hd he hn k m
   obtain⟨n,rfl⟩:∃ j,n=j+1:=⟨n - 1,by omega⟩
   obtain⟨hlt,hgx,hd'⟩:=qal hd
   cases vs with
   | nil=>have:=drop_nil he;omega
   | cons y vs=>
   obtain⟨hlt',hgy,he'⟩:=qal he
   simp only[List.length_cons] at hn
   have hbx:=hx.2 x (List.mem_of_getElem? hgx)
   have hby:=hy.2 y (List.mem_of_getElem? hgy)
   simp only[qgpb,qaj,hgx,hgy,MRule.enc,c_fco _ _ hbx hby,EV0]
   rw[decide_eq_true (by omega)]
   simp only[EV0]
   rw[qae (by omega),ih vs (i+1) n hd' he' (by omega),qthb]
   congr 5
   rw[Bool.eq_iff_iff]
   simp
 refine qaw (H:=[]) (qbxc (xs.length+1) ?_)
 simp only[fcp,qaf,Option.bind_some]
 by_cases h:xs.length=ys.length
 ·rw[show(((xs.length:Nat):Int) != (ys.length:Int))=false by simp[h],cond_false]
  exact loop h xs ys 0 _ rfl rfl (by omega) _ _
 ·rw[show(((xs.length:Nat):Int) != (ys.length:Int))=true by simp only[bne_iff_ne,ne_eq];omega,cond_true]
  have:xs≠ys:=fun e=>h (by rw[e])
  simp[this]
theorem qytc (k:Nat)(hk:k≤qcc):out qen [.one (Cell.int (k:Int))]=some [.one (Cell.str (bs (qevb k)))]:=by
 refine qaw (H:=[]) (qxzb k ?_)
 by_cases h:k=0
 ·subst h
  simp[fdc,qevb]
 ·simp only[fdc]
  rw[decide_eq_false (by omega),cond_false,qevb,if_neg h]
  refine qzqc (fun n i s=>qenb (k+1) (k+1) n i s) (fun n s=>?_) (fun n i s hi=>?_) (k+1) k k [] (by omega) (by omega) (by simpa using hk)
  ·simp[qenb]
  ·simp only[qenb]
   rw[decide_eq_true (by omega),cond_true]
theorem qsvc {H:List Entry}{w:Bool}{n:Nat}{ids:List Nat}{c:Cell}(xs:List Str)(k:Nat)(hx:bdL maxLen (bdS maxLen) xs)(h:Rep H w true n ids c (trL 1 qcx xs))(hn:ids.Nodup)(hk:k+cntL one1 xs≤qcc):
  ∃ H',qdt [.one c,.one (Cell.int (k:Int))] H=some ([.one (Cell.int ((k+cntL one1 xs:Nat):Int))],H')∧Upd ids H H'∧Rep H' w true n ids c (trL 1 qcx (mkL qlz one1 xs k)):=by
 cases n with
 | zero=>exact h.elim
 | succ n=>
 have hM:=qag
 have hlen:=h.lenC
 rw[List.length_map] at hlen
 have hxl:xs.length≤maxLen:=hx.1
 obtain⟨H',e1,u,r⟩:=qhy (sz:=1) (c:=c) qcx qlz one1 xs (fun m k i H=>qezb (xs.length+1+1) (xs.length+1+1) m c k i H) (by
  intro m i k x H trs hi hm hr hl hk h
  have h0:Rep H w true (n+1) ids c (.list 1 (trs.set i (qcx x))):=by rw[qjn hr];exact h
  have hi':i < trs.length:=by omega
  have hk0:=hk
  simp only[one1] at hk
  obtain⟨id0,p0,q0,row0,a0,d0,st0,sb0⟩:=h0.idxR hn hi'
  obtain⟨H0,s0,u0,h1⟩:=st0 0 _ (.string (bs (qevb k))) rfl
  have y0:IntKind.i64.wrap (((k:Nat):Int)+1)=((k+1:Nat):Int):=qtpc (by omega)
  have ek:k+one1 x=(k+1):=rfl
  refine⟨H0,?_,u0,h1⟩
  rw[ek]
  simp only[qezb,hlen,Option.bind_some]
  rw[decide_eq_true (by omega),cond_true]
  simp only[a0,s0,qytc k (by omega),y0,qjj,Nat.zero_add,Nat.reduceAdd,wrap_u8,EV0]
  rw[qae (by omega)]) (by
  intro m k H
  simp only[qezb,hlen,Option.bind_some]
  rw[decide_eq_false (by omega),cond_false]) (xs.length+1+1) k H (by omega) hk h
 exact⟨H',qxyb (xs.length+1) (by simp only[fda];exact e1),u,r⟩
theorem k_fcw {H:List Entry}{w:Bool}{n:Nat}{ids:List Nat}{c:Cell}(xs:List MNeed)(k:Nat)(hx:bdL maxLen (MNeed.Bd maxLen) xs)(h:Rep H w true n ids c (trL 2 MNeed.tr xs))(hn:ids.Nodup)(hk:k+cntL MNeed.cntR xs≤qcc):
  ∃ H',qcrb [.one c,.one (Cell.int (k:Int))] H=some ([.one (Cell.int ((k+cntL MNeed.cntR xs:Nat):Int))],H')∧Upd ids H H'∧Rep H' w true n ids c (trL 2 MNeed.tr (mkL MNeed.mkR MNeed.cntR xs k)):=by
 cases n with
 | zero=>exact h.elim
 | succ n=>
 have hM:=qag
 have hlen:=h.lenC
 rw[List.length_map] at hlen
 have hxl:xs.length≤maxLen:=hx.1
 obtain⟨H',e1,u,r⟩:=qhy (sz:=2) (c:=c) MNeed.tr MNeed.mkR MNeed.cntR xs (fun m k i H=>qfwb (xs.length+1+1) (xs.length+1+1) m c k i H) (by
  intro m i k x H trs hi hm hr hl hk h
  have h0:Rep H w true (n+1) ids c (.list 2 (trs.set i (MNeed.tr x))):=by rw[qjn hr];exact h
  have hi':i < trs.length:=by omega
  have hb:=hx.2 x hm
  have hk0:=hk
  simp only[MNeed.cntR] at hk
  obtain⟨id0,p0,q0,row0,a0,d0,st0,sb0⟩:=h0.idxR hn hi'
  obtain⟨H0,s0,u0,h1⟩:=st0 0 _ (.string (bs (qevb k))) rfl
  have y0:IntKind.i64.wrap (((k:Nat):Int)+1)=((k+1:Nat):Int):=qtpc (by omega)
  obtain⟨id1,p1,q1,row1,a1,d1,st1,sb1⟩:=h1.idxR hn hi'
  obtain⟨rfl,rfl,rfl⟩:=qgk a0 a1
  obtain⟨H1,s1,u1,h2⟩:=st1 1 _ (.string (bs (qevb (k+1)))) rfl
  have y1:IntKind.i64.wrap ((((k+1):Nat):Int)+1)=(((k+1)+1:Nat):Int):=qtpc (by omega)
  have ek:k+MNeed.cntR x=((k+1)+1):=(by simp only[MNeed.cntR]<;>omega)
  refine⟨H1,?_,u0.trans (u1),h2⟩
  rw[ek]
  simp only[qfwb,hlen,Option.bind_some]
  rw[decide_eq_true (by omega),cond_true]
  simp only[a0,s0,qytc k (by omega),y0,a1,s1,qytc (k+1) (by omega),y1,qjj,Nat.zero_add,Nat.reduceAdd,wrap_u8,EV0]
  rw[qae (by omega)]) (by
  intro m k H
  simp only[qfwb,hlen,Option.bind_some]
  rw[decide_eq_false (by omega),cond_false]) (xs.length+1+1) k H (by omega) hk h
 exact⟨H',qapc (xs.length+1) (by simp only[fcw];exact e1),u,r⟩
theorem k_fcv {H:List Entry}{w:Bool}{n:Nat}{ids:List Nat}{c:Cell}(xs:List MCmd)(k:Nat)(hx:bdL maxLen (MCmd.Bd maxLen) xs)(h:Rep H w true n ids c (trL 2 MCmd.tr xs))(hn:ids.Nodup)(hk:k+cntL MCmd.cntR xs≤qcc):
  ∃ H',qazb [.one c,.one (Cell.int (k:Int))] H=some ([.one (Cell.int ((k+cntL MCmd.cntR xs:Nat):Int))],H')∧Upd ids H H'∧Rep H' w true n ids c (trL 2 MCmd.tr (mkL MCmd.mkR MCmd.cntR xs k)):=by
 cases n with
 | zero=>exact h.elim
 | succ n=>
 have hM:=qag
 have hlen:=h.lenC
 rw[List.length_map] at hlen
 have hxl:xs.length≤maxLen:=hx.1
 obtain⟨H',e1,u,r⟩:=qhy (sz:=2) (c:=c) MCmd.tr MCmd.mkR MCmd.cntR xs (fun m k i H=>qffb (xs.length+1+1) (xs.length+1+1) m c k i H) (by
  intro m i k x H trs hi hm hr hl hk h
  have h0:Rep H w true (n+1) ids c (.list 2 (trs.set i (MCmd.tr x))):=by rw[qjn hr];exact h
  have hi':i < trs.length:=by omega
  have hb:=hx.2 x hm
  have hk0:=hk
  simp only[MCmd.cntR] at hk
  obtain⟨id0,p0,q0,row0,a0,d0,st0,sb0⟩:=h0.idxR hn hi'
  obtain⟨H0,s0,u0,h1⟩:=st0 0 _ (.string (bs (qevb k))) rfl
  have y0:IntKind.i64.wrap (((k:Nat):Int)+1)=((k+1:Nat):Int):=qtpc (by omega)
  obtain⟨id1,p1,q1,row1,a1,d1,st1,sb1⟩:=h1.idxR hn hi'
  obtain⟨rfl,rfl,rfl⟩:=qgk a0 a1
  obtain⟨cc1,sub1,g1,r1,nd1,bk1⟩:=sb1 1 _ rfl
  obtain⟨H1,s1,v1,z1⟩:=qsvc (x.Acts) (k+1) (hb.2) r1 nd1 (by omega)
  obtain⟨u1,h2⟩:=bk1 _ _ v1 z1
  have ek:k+MCmd.cntR x=((k+1)+cntL one1 x.Acts):=(by simp only[MCmd.cntR]<;>omega)
  refine⟨H1,?_,u0.trans (u1),h2⟩
  rw[ek]
  simp only[qffb,hlen,Option.bind_some]
  rw[decide_eq_true (by omega),cond_true]
  simp only[a0,s0,qytc k (by omega),y0,a1,d1,g1,s1,qjj,Nat.zero_add,Nat.reduceAdd,wrap_u8,EV0]
  rw[qae (by omega)]) (by
  intro m k H
  simp only[qffb,hlen,Option.bind_some]
  rw[decide_eq_false (by omega),cond_false]) (xs.length+1+1) k H (by omega) hk h
 exact⟨H',qwpb (xs.length+1) (by simp only[fcv];exact e1),u,r⟩
theorem k_fcx {H:List Entry}{w:Bool}{n:Nat}{ids:List Nat}{c:Cell}(xs:List MPack)(k:Nat)(hx:bdL maxLen (MPack.Bd maxLen) xs)(h:Rep H w true n ids c (trL 4 MPack.tr xs))(hn:ids.Nodup)(hk:k+cntL MPack.cntR xs≤qcc):
  ∃ H',quu [.one c,.one (Cell.int (k:Int))] H=some ([.one (Cell.int ((k+cntL MPack.cntR xs:Nat):Int))],H')∧Upd ids H H'∧Rep H' w true n ids c (trL 4 MPack.tr (mkL MPack.mkR MPack.cntR xs k)):=by
 cases n with
 | zero=>exact h.elim
 | succ n=>
 have hM:=qag
 have hlen:=h.lenC
 rw[List.length_map] at hlen
 have hxl:xs.length≤maxLen:=hx.1
 obtain⟨H',e1,u,r⟩:=qhy (sz:=4) (c:=c) MPack.tr MPack.mkR MPack.cntR xs (fun m k i H=>qfub (xs.length+1+1) (xs.length+1+1) m c k i H) (by
  intro m i k x H trs hi hm hr hl hk h
  have h0:Rep H w true (n+1) ids c (.list 4 (trs.set i (MPack.tr x))):=by rw[qjn hr];exact h
  have hi':i < trs.length:=by omega
  have hb:=hx.2 x hm
  have hk0:=hk
  simp only[MPack.cntR] at hk
  obtain⟨id0,p0,q0,row0,a0,d0,st0,sb0⟩:=h0.idxR hn hi'
  obtain⟨H0,s0,u0,h1⟩:=st0 0 _ (.string (bs (qevb k))) rfl
  have y0:IntKind.i64.wrap (((k:Nat):Int)+1)=((k+1:Nat):Int):=qtpc (by omega)
  obtain⟨id1,p1,q1,row1,a1,d1,st1,sb1⟩:=h1.idxR hn hi'
  obtain⟨rfl,rfl,rfl⟩:=qgk a0 a1
  obtain⟨cc1,sub1,g1,r1,nd1,bk1⟩:=sb1 1 _ rfl
  obtain⟨H1,s1,v1,z1⟩:=qsvc (x.Uses) (k+1) (hb.2.1) r1 nd1 (by omega)
  obtain⟨u1,h2⟩:=bk1 _ _ v1 z1
  obtain⟨id2,p2,q2,row2,a2,d2,st2,sb2⟩:=h2.idxR hn hi'
  obtain⟨rfl,rfl,rfl⟩:=qgk a0 a2
  obtain⟨cc2,sub2,g2,r2,nd2,bk2⟩:=sb2 2 _ rfl
  obtain⟨H2,s2,v2,z2⟩:=k_fcw (x.Needs) ((k+1)+cntL one1 x.Uses) (hb.2.2.1) r2 nd2 (by omega)
  obtain⟨u2,h3⟩:=bk2 _ _ v2 z2
  obtain⟨id3,p3,q3,row3,a3,d3,st3,sb3⟩:=h3.idxR hn hi'
  obtain⟨rfl,rfl,rfl⟩:=qgk a0 a3
  obtain⟨cc3,sub3,g3,r3,nd3,bk3⟩:=sb3 3 _ rfl
  obtain⟨H3,s3,v3,z3⟩:=k_fcv (x.Cmds) (((k+1)+cntL one1 x.Uses)+cntL MNeed.cntR x.Needs) (hb.2.2.2) r3 nd3 (by omega)
  obtain⟨u3,h4⟩:=bk3 _ _ v3 z3
  have ek:k+MPack.cntR x=((((k+1)+cntL one1 x.Uses)+cntL MNeed.cntR x.Needs)+cntL MCmd.cntR x.Cmds):=(by simp only[MPack.cntR]<;>omega)
  refine⟨H3,?_,u0.trans (u1.trans (u2.trans (u3))),h4⟩
  rw[ek]
  simp only[qfub,hlen,Option.bind_some]
  rw[decide_eq_true (by omega),cond_true]
  simp only[a0,s0,qytc k (by omega),y0,a1,d1,g1,s1,a2,d2,g2,s2,a3,d3,g3,s3,qjj,Nat.zero_add,Nat.reduceAdd,wrap_u8,EV0]
  rw[qae (by omega)]) (by
  intro m k H
  simp only[qfub,hlen,Option.bind_some]
  rw[decide_eq_false (by omega),cond_false]) (xs.length+1+1) k H (by omega) hk h
 exact⟨H',qvsb (xs.length+1) (by simp only[fcx];exact e1),u,r⟩
theorem k_fcz {H:List Entry}{w:Bool}{n:Nat}{ids:List Nat}{c:Cell}(xs:List MRule)(k:Nat)(hx:bdL maxLen (MRule.Bd maxLen) xs)(h:Rep H w true n ids c (trL 5 MRule.tr xs))(hn:ids.Nodup)(hk:k+cntL MRule.cntR xs≤qcc):
  ∃ H',qus [.one c,.one (Cell.int (k:Int))] H=some ([.one (Cell.int ((k+cntL MRule.cntR xs:Nat):Int))],H')∧Upd ids H H'∧Rep H' w true n ids c (trL 5 MRule.tr (mkL MRule.mkR MRule.cntR xs k)):=by
 cases n with
 | zero=>exact h.elim
 | succ n=>
 have hM:=qag
 have hlen:=h.lenC
 rw[List.length_map] at hlen
 have hxl:xs.length≤maxLen:=hx.1
 obtain⟨H',e1,u,r⟩:=qhy (sz:=5) (c:=c) MRule.tr MRule.mkR MRule.cntR xs (fun m k i H=>qfsb (xs.length+1+1) (xs.length+1+1) m c k i H) (by
  intro m i k x H trs hi hm hr hl hk h
  have h0:Rep H w true (n+1) ids c (.list 5 (trs.set i (MRule.tr x))):=by rw[qjn hr];exact h
  have hi':i < trs.length:=by omega
  have hb:=hx.2 x hm
  have hk0:=hk
  simp only[MRule.cntR] at hk
  obtain⟨id0,p0,q0,row0,a0,d0,st0,sb0⟩:=h0.idxR hn hi'
  obtain⟨H0,s0,u0,h1⟩:=st0 0 _ (.string (bs (qevb k))) rfl
  have y0:IntKind.i64.wrap (((k:Nat):Int)+1)=((k+1:Nat):Int):=qtpc (by omega)
  obtain⟨id1,p1,q1,row1,a1,d1,st1,sb1⟩:=h1.idxR hn hi'
  obtain⟨rfl,rfl,rfl⟩:=qgk a0 a1
  obtain⟨cc1,sub1,g1,r1,nd1,bk1⟩:=sb1 1 _ rfl
  obtain⟨H1,s1,v1,z1⟩:=qsvc (x.On) (k+1) (hb.2.1) r1 nd1 (by omega)
  obtain⟨u1,h2⟩:=bk1 _ _ v1 z1
  obtain⟨id2,p2,q2,row2,a2,d2,st2,sb2⟩:=h2.idxR hn hi'
  obtain⟨rfl,rfl,rfl⟩:=qgk a0 a2
  obtain⟨cc2,sub2,g2,r2,nd2,bk2⟩:=sb2 2 _ rfl
  obtain⟨H2,s2,v2,z2⟩:=qsvc (x.Ins) ((k+1)+cntL one1 x.On) (hb.2.2.1) r2 nd2 (by omega)
  obtain⟨u2,h3⟩:=bk2 _ _ v2 z2
  obtain⟨id3,p3,q3,row3,a3,d3,st3,sb3⟩:=h3.idxR hn hi'
  obtain⟨rfl,rfl,rfl⟩:=qgk a0 a3
  obtain⟨cc3,sub3,g3,r3,nd3,bk3⟩:=sb3 3 _ rfl
  obtain⟨H3,s3,v3,z3⟩:=qsvc (x.Envs) (((k+1)+cntL one1 x.On)+cntL one1 x.Ins) (hb.2.2.2.1) r3 nd3 (by omega)
  obtain⟨u3,h4⟩:=bk3 _ _ v3 z3
  obtain⟨id4,p4,q4,row4,a4,d4,st4,sb4⟩:=h4.idxR hn hi'
  obtain⟨rfl,rfl,rfl⟩:=qgk a0 a4
  obtain⟨H4,s4,u4,h5⟩:=st4 4 _ (.bool (((((((k+1)+cntL one1 x.On)+cntL one1 x.Ins)+cntL one1 x.Envs):Nat):Int).tmod 3==0)) rfl
  have y4:IntKind.i64.wrap (((((((k+1)+cntL one1 x.On)+cntL one1 x.Ins)+cntL one1 x.Envs):Nat):Int)+1)=((((((k+1)+cntL one1 x.On)+cntL one1 x.Ins)+cntL one1 x.Envs)+1:Nat):Int):=qtpc (by omega)
  have ek:k+MRule.cntR x=(((((k+1)+cntL one1 x.On)+cntL one1 x.Ins)+cntL one1 x.Envs)+1):=(by simp only[MRule.cntR]<;>omega)
  refine⟨H4,?_,u0.trans (u1.trans (u2.trans (u3.trans (u4)))),h5⟩
  rw[ek]
  simp only[qfsb,hlen,Option.bind_some]
  rw[decide_eq_true (by omega),cond_true]
  simp only[a0,s0,qytc k (by omega),y0,a1,d1,g1,s1,a2,d2,g2,s2,a3,d3,g3,s3,a4,s4,y4,qjj,Nat.zero_add,Nat.reduceAdd,wrap_u8,EV0]
  rw[qae (by omega)]) (by
  intro m k H
  simp only[qfsb,hlen,Option.bind_some]
  rw[decide_eq_false (by omega),cond_false]) (xs.length+1+1) k H (by omega) hk h
 exact⟨H',qamc (xs.length+1) (by simp only[fcz];exact e1),u,r⟩
theorem k_fdb {H:List Entry}{w:Bool}{n:Nat}{ids:List Nat}{c:Cell}(xs:List (List Str))(k:Nat)(hx:bdL maxLen (bdL maxLen (bdS maxLen)) xs)(h:Rep H w true n ids c (trL 1 (trLs 1 qcx) xs))(hn:ids.Nodup)(hk:k+cntL (cntL one1) xs≤qcc):
  ∃ H',qyu [.one c,.one (Cell.int (k:Int))] H=some ([.one (Cell.int ((k+cntL (cntL one1) xs:Nat):Int))],H')∧Upd ids H H'∧Rep H' w true n ids c (trL 1 (trLs 1 qcx) (mkL (mkL qlz one1) (cntL one1) xs k)):=by
 cases n with
 | zero=>exact h.elim
 | succ n=>
 have hM:=qag
 have hlen:=h.lenC
 rw[List.length_map] at hlen
 have hxl:xs.length≤maxLen:=hx.1
 obtain⟨H',e1,u,r⟩:=qhy (sz:=1) (c:=c) (trLs 1 qcx) (mkL qlz one1) (cntL one1) xs (fun m k i H=>qeib (xs.length+1+1) (xs.length+1+1) m c k i H) (by
  intro m i k x H trs hi hm hr hl hk h
  have h0:Rep H w true (n+1) ids c (.list 1 (trs.set i ((trLs 1 qcx) x))):=by rw[qjn hr];exact h
  have hi':i < trs.length:=by omega
  have hb:=hx.2 x hm
  have hk0:=hk
  obtain⟨id0,p0,q0,row0,a0,d0,st0,sb0⟩:=h0.idxR hn hi'
  obtain⟨cc0,sub0,g0,r0,nd0,bk0⟩:=sb0 0 _ rfl
  obtain⟨H0,s0,v0,z0⟩:=qsvc (x) k (hb) r0 nd0 (by omega)
  obtain⟨u0,h1⟩:=bk0 _ _ v0 z0
  have ek:k+(cntL one1) x=(k+cntL one1 x):=rfl
  refine⟨H0,?_,u0,h1⟩
  rw[ek]
  simp only[qeib,hlen,Option.bind_some]
  rw[decide_eq_true (by omega),cond_true]
  simp only[a0,d0,g0,s0,qjj,Nat.zero_add,Nat.reduceAdd,wrap_u8,EV0]
  rw[qae (by omega)]) (by
  intro m k H
  simp only[qeib,hlen,Option.bind_some]
  rw[decide_eq_false (by omega),cond_false]) (xs.length+1+1) k H (by omega) hk h
 exact⟨H',qzgb (xs.length+1) (by simp only[fdb];exact e1),u,r⟩
theorem k_fcy {H:List Entry}{w:Bool}{n:Nat}{ids:List Nat}{cs:List Cell}(x:MPlan)(k:Nat)(hx:x.Bd maxLen)(h0:Sp (Rep H w true n) ids cs x.tr)(hn:ids.Nodup)(hk:k+x.cntA≤qcc):
  ∃ H',qug [.agg cs,.one (Cell.int (k:Int))] H=some ([.one (Cell.int ((k+x.cntA:Nat):Int))],H')∧Upd ids H H'∧Sp (Rep H' w true n) ids cs (x.mkA k).tr:=by
 obtain⟨c0,c1,rfl⟩:=MPlan.open h0
 have hk0:=hk
 simp only[MPlan.cntA] at hk
 obtain⟨sub0,r0,nd0,bk0⟩:=Sp.field h0 hn 0 (cc:=c0) rfl rfl
 obtain⟨H0,s0,v0,z0⟩:=qsvc (x.Tasks) k (hx.1) r0 nd0 (by omega)
 obtain⟨u0,h1⟩:=bk0 _ _ v0 z0
 obtain⟨sub1,r1,nd1,bk1⟩:=Sp.field h1 hn 1 (cc:=c1) rfl rfl
 obtain⟨H1,s1,v1,z1⟩:=k_fdb (x.Deps) (k+cntL one1 x.Tasks) (hx.2) r1 nd1 (by omega)
 obtain⟨u1,h2⟩:=bk1 _ _ v1 z1
 have ek:k+x.cntA=((k+cntL one1 x.Tasks)+cntL (cntL one1) x.Deps):=by simp only[MPlan.cntA]<;>omega
 refine⟨H1,qavc 0 ?_,u0.trans (u1),h2⟩
 rw[ek]
 simp only[fcy,s0,s1,EV0]
theorem e_fct (xs:List Str)(k:Nat)(hx:bdL maxLen (bdS maxLen) xs)(hk:k+cntL one1 xs≤qcc):out qpj [.one (encL 1 eStr (mkL qlz one1 xs k)),.one (Cell.int (k:Int))]=some [.one (Cell.int ((k+cntL one1 xs:Nat):Int))]:=by
 have hM:=qag
 have hyl:(mkL qlz one1 xs k).length≤maxLen:=by rw[qabb];exact hx.1
 have loop:∀ (ys:List Str) (hyl:ys.length≤maxLen) (r:List Str) (i k n:Nat),ys.drop i=mkL qlz one1 r k→(∀ y∈r,True)→r.length < n→k+cntL one1 r≤qcc→∀ K m,qgwb K m n (encL 1 eStr ys) k i=some ([.one (Cell.int ((k+cntL one1 r:Nat):Int))],[]):=by
  intro ys hyl r
  induction r with
  | nil=>
   intro i k n hd hx hn hk K m
   obtain⟨n,rfl⟩:∃ j,n=j+1:=⟨n - 1,by omega⟩
   have:=drop_nil hd
   simp only[qgwb,qaf,Option.bind_some]
   rw[decide_eq_false (by omega),cond_false,qgsb,Nat.add_zero]
  | cons x r ih=>
   intro i k n hd hx hn hk K m
   obtain⟨n,rfl⟩:∃ j,n=j+1:=⟨n - 1,by omega⟩
   obtain⟨hlt,hg,hd'⟩:=qal hd
   simp only[List.length_cons] at hn
   rw[qgp,← Nat.add_assoc] at hk ⊢
   have hk0:=hk
   have ek:k+one1 x=(k+1):=rfl
   rw[ek] at hk hd' ⊢
   have y0:IntKind.i64.wrap (((k:Nat):Int)+1)=((k+1:Nat):Int):=qtpc (by omega)
   simp only[qgwb,qaf,Option.bind_some,qaj,hg,eStr,qlz,wrap_u8,bne_self_eq_false,Bool.not_true,qbr,Nat.zero_add,Nat.reduceAdd,qytc k (by omega),y0,EV0]
   rw[decide_eq_true (by omega),cond_true,qae (by omega)]
   exact ih _ _ _ hd' (fun y hy=>hx y (List.mem_cons_of_mem _ hy)) (by omega) (by omega) _ _
 refine qaw (H:=[]) (qznb (xs.length+1) ?_)
 simp only[fct]
 have:=loop _ hyl xs 0 k (xs.length+1+1) rfl (fun _ _=>trivial) (by omega) hk (xs.length+1+1) (xs.length+1+1)
 simp only[Int.natCast_zero] at this
 exact this
theorem e_fcu (xs:List (List Str))(k:Nat)(hx:bdL maxLen (bdL maxLen (bdS maxLen)) xs)(hk:k+cntL (cntL one1) xs≤qcc):out qxp [.one (encL 1 qdi (mkL (mkL qlz one1) (cntL one1) xs k)),.one (Cell.int (k:Int))]=some [.one (Cell.int ((k+cntL (cntL one1) xs:Nat):Int))]:=by
 have hM:=qag
 have hyl:(mkL (mkL qlz one1) (cntL one1) xs k).length≤maxLen:=by rw[qabb];exact hx.1
 have loop:∀ (ys:List (List Str)) (hyl:ys.length≤maxLen) (r:List (List Str)) (i k n:Nat),ys.drop i=mkL (mkL qlz one1) (cntL one1) r k→(∀ y∈r,bdL maxLen (bdS maxLen) y)→r.length < n→k+cntL (cntL one1) r≤qcc→∀ K m,qgbb K m n (encL 1 qdi ys) k i=some ([.one (Cell.int ((k+cntL (cntL one1) r:Nat):Int))],[]):=by
  intro ys hyl r
  induction r with
  | nil=>
   intro i k n hd hx hn hk K m
   obtain⟨n,rfl⟩:∃ j,n=j+1:=⟨n - 1,by omega⟩
   have:=drop_nil hd
   simp only[qgbb,qaf,Option.bind_some]
   rw[decide_eq_false (by omega),cond_false,qgsb,Nat.add_zero]
  | cons x r ih=>
   intro i k n hd hx hn hk K m
   obtain⟨n,rfl⟩:∃ j,n=j+1:=⟨n - 1,by omega⟩
   obtain⟨hlt,hg,hd'⟩:=qal hd
   simp only[List.length_cons] at hn
   rw[qgp,← Nat.add_assoc] at hk ⊢
   have hk0:=hk
   have hb:=hx x List.mem_cons_self
   have ek:k+(cntL one1) x=(k+cntL one1 x):=rfl
   rw[ek] at hk hd' ⊢
   have n0:decide ((((k+cntL one1 x):Nat):Int) < 0)=false:=decide_eq_false (by omega)
   simp only[qgbb,qaf,Option.bind_some,qaj,hg,qdi,wrap_u8,bne_self_eq_false,Bool.not_true,qbr,Nat.zero_add,Nat.reduceAdd,e_fct (x) k (hb) (by omega),n0,EV0]
   rw[decide_eq_true (by omega),cond_true,qae (by omega)]
   exact ih _ _ _ hd' (fun y hy=>hx y (List.mem_cons_of_mem _ hy)) (by omega) (by omega) _ _
 refine qaw (H:=[]) (qzjb (xs.length+1) ?_)
 simp only[fcu]
 have:=loop _ hyl xs 0 k (xs.length+1+1) rfl hx.2 (by omega) hk (xs.length+1+1) (xs.length+1+1)
 simp only[Int.natCast_zero] at this
 exact this
theorem e_fcs (x:MPlan)(k:Nat)(hx:x.Bd maxLen)(hk:k+x.cntA≤qcc):out qmo [.agg [encL 1 eStr (x.mkA k).Tasks,encL 1 qdi (x.mkA k).Deps],.one (Cell.int (k:Int))]=some [.one (Cell.int ((k+x.cntA:Nat):Int))]:=by
 have ek:k+x.cntA=((k+cntL one1 x.Tasks)+cntL (cntL one1) x.Deps):=by simp only[MPlan.cntA]<;>omega
 rw[ek] at hk ⊢
 have n0:decide ((((k+cntL one1 x.Tasks):Nat):Int) < 0)=false:=decide_eq_false (by omega)
 have n1:decide (((((k+cntL one1 x.Tasks)+cntL (cntL one1) x.Deps):Nat):Int) < 0)=false:=decide_eq_false (by omega)
 refine qaw (H:=[]) (qugb 0 ?_)
 simp only[fcs,MPlan.mkA,e_fct (x.Tasks) k (hx.1) (by omega),n0,e_fcu (x.Deps) (k+cntL one1 x.Tasks) (hx.2) (by omega),n1,EV0]
end Go.Ev
