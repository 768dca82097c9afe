/- What the functions come to. Conditions: none. -/
import Derived.Test.YteenbnljpddleaaGreatDoorKp0
set_option linter.unusedSimpArgs false
set_option linter.unusedVariables false
namespace Go.Ev
open Go
def qel (most:Nat)(s:Str):Bool:=s.all (fun b=>inR b.toNat 32 126)&&decide (s.length≤most)
def keyI {α:Type}(l:List α)(key:α→Str)(good:α→Bool)(i:Nat):Bool:=
 match l[i]? with
 | some f=>good f&&(decide (i=0)||(match l[i - 1]? with
  | some g=>lt (key g) (key f)
  | none=>true))
 | none=>true
theorem qku {α:Type}{l:List α}{key:α→Str}{good:α→Bool}{f:α}(h:l[0]?=some f):keyI l key good 0=good f:=by
 unfold keyI
 rw[h]
 simp
theorem qky {α:Type}{l:List α}{key:α→Str}{good:α→Bool}{i:Nat}{f g:α}(h:l[i+1]?=some f)(hg:l[i]?=some g):keyI l key good (i+1)=(good f&&lt (key g) (key f)):=by
 unfold keyI
 rw[h]
 simp[hg]
def qsdb (c:MCmd):Bool:=c.Acts.all (qel 40)&&(qcw c.Task&&inR c.Acts.length 1 5)
def qmk (n:MNeed):Bool:=(qbx n.Range).isSome&&(qcw n.Name&&decide (n.Range.length≤20))
def qiz (l:List MNeed):Bool:=(List.range l.length).all (keyI l (·.Name) qmk)&&decide (l.length≤4)
def qkgb (l:List MCmd):Bool:=(List.range l.length).all (keyI l (·.Task) qsdb)&&decide (l.length≤4)
def qqj (p:MPack):Bool:=qkgb p.Cmds&&(qcw p.Name&&((p.Uses.all qcw&&decide (p.Uses.length≤4))&&(asc p.Uses&&qiz p.Needs)))
theorem c_faz (b:UInt8):out qkd [.one (.sc (.int .u8 (b.toNat:Int)))]=some [.one (Cell.bool (inR b.toNat 32 126))]:=by
 refine qaw (H:=[]) (qxg 0 ?_)
 simp only[faz,inR]
 by_cases h:(32:Int)≤b.toNat
 ·rw[decide_eq_true (by omega:(b.toNat:Int)≥32),cond_true,Bool.true_and]
 ·rw[decide_eq_false (by omega:¬ (b.toNat:Int)≥32),cond_false,Bool.false_and]
theorem c_fdd (s:Str)(most:Nat)(hs:s.length≤1073741824):out qrs [.one (Cell.str (bs s)),.one (Cell.int most)]=some [.one (Cell.bool (qel most s))]:=by
 have hM:=qai
 refine qaw (H:=[]) (qnub (s.length+1) ?_)
 unfold qel
 simp only[fdd]
 rw[qgi s (fun n i=>qawb (s.length+1+1) (s.length+1+1) n (bs s) most i) (fun b=>inR b.toNat 32 126) (some ([.one (Cell.bool (decide (s.length≤most)))],[])) (some ([.one (Cell.bool false)],[])) ?_ ?_ _ (by omega)]
 ·exact qsgb _ _ _
 ·intro n i x hx hlt
  have:=qtjc x
  simp only[qawb,qcf,hx,wrap_small (n:=(x.toNat:Int)) (by omega) (by omega),qayb,EV0]
  rw[decide_eq_true (by omega),cond_true,qaf (by omega)]
  cases inR (x.toNat:Int) 32 126<;>rfl
 ·intro n
  simp only[qawb,qbi]
  rw[decide_eq_false (by omega),cond_false,show decide ((s.length:Int)≤(most:Int))=decide (s.length≤most) from n_le s.length most]
theorem c_fai (s:Str)(most:Nat)(hs:s.length≤1073741824):out qra [.one (Cell.str (bs s)),.one (Cell.int most)]=some [.one (Cell.bool (qel most s))]:=by
 have hM:=qai
 refine qaw (H:=[]) (qmmb (s.length+1) ?_)
 unfold qel
 simp only[fai]
 rw[qgi s (fun n i=>qzn (s.length+1+1) (s.length+1+1) n (bs s) most i) (fun b=>inR b.toNat 32 126) (some ([.one (Cell.bool (decide (s.length≤most)))],[])) (some ([.one (Cell.bool false)],[])) ?_ ?_ _ (by omega)]
 ·exact qsgb _ _ _
 ·intro n i x hx hlt
  simp only[qzn,qcf,hx,c_faz,EV0]
  rw[decide_eq_true (by omega),cond_true,qaf (by omega)]
  cases inR (x.toNat:Int) 32 126<;>rfl
 ·intro n
  simp only[qzn,qbi]
  rw[decide_eq_false (by omega),cond_false,show decide ((s.length:Int)≤(most:Int))=decide (s.length≤most) from n_le s.length most]
theorem c_far (c:MCmd)(hc:c.Bd 1048576):out qub [.agg [Cell.str (bs c.Task),qbu c.Acts]]=some [.one (Cell.bool (qsdb c))]:=by
 have hM:=qai
 have hl:=hc.2.1
 have h0:c.Task.length≤1048576:=hc.1
 refine qaw (H:=[]) (qmib (c.Acts.length+1) ?_)
 unfold qsdb
 simp only[far,EV0]
 rw[qgi c.Acts (fun n i=>qbsb (c.Acts.length+1+1) (c.Acts.length+1+1) n (qbu c.Acts) c.Acts.length i (bs c.Task) (qbu c.Acts)) (qel 40) (some ([.one (Cell.bool (qcw c.Task&&inR c.Acts.length 1 5))],[])) (some ([.one (Cell.bool false)],[])) ?_ ?_ _ (by omega)]
 ·exact qsgb _ _ _
 ·intro n i x hx hlt
  have hb:x.length≤1048576:=hc.2.2 x (List.mem_of_getElem? hx)
  have q:out qra [.one (Cell.str (bs x)),.one (Cell.int 40)]=some [.one (Cell.bool (qel 40 x))]:=c_fai x 40 (by omega)
  simp only[qbsb,qap,hx,eStr,q,EV0]
  rw[decide_eq_true (by omega),cond_true,qaf (by omega)]
  cases qel 40 x<;>rfl
 ·intro n
  simp only[qbsb,qfwd c.Task (by omega),qkpc,EV0]
  rw[decide_eq_false (by omega),cond_false]
  cases qcw c.Task<;>rfl
theorem c_fbe (n:MNeed)(hn:n.Bd 1048576):out qyy [.agg [Cell.str (bs n.Name),Cell.str (bs n.Range)]]=some [.one (Cell.bool (qmk n))]:=by
 have h0:n.Name.length≤1048576:=hn.1
 refine qaw (H:=[]) (qoob 0 ?_)
 simp only[fbe,c_fag n.Range hn.2,qfwd n.Name (by omega),EV0]
 rw[show decide ((n.Range.length:Int)≤20)=decide (n.Range.length≤20) from n_le _ 20]
 unfold qmk
 cases (qbx n.Range).isSome<;>cases qcw n.Name<;>rfl
theorem c_fee (n:MNeed)(hn:n.Bd 1048576):out qyn [.agg [Cell.str (bs n.Name),Cell.str (bs n.Range)]]=some [.one (Cell.bool (qmk n))]:=by
 have h0:n.Name.length≤1048576:=hn.1
 refine qaw (H:=[]) (qrob 0 ?_)
 simp only[fee,c_fdb n.Range hn.2,qgad n.Name (by omega),EV0]
 rw[show decide ((n.Range.length:Int)≤20)=decide (n.Range.length≤20) from n_le _ 20]
 unfold qmk
 cases (qbx n.Range).isSome<;>cases qcw n.Name<;>cases decide (n.Range.length≤20)<;>rfl
theorem c_fef (l:List MNeed)(hl:bdL 1048576 (MNeed.Bd 1048576) l):out qxn [.one (encL 2 MNeed.enc l)]=some [.one (Cell.bool (qiz l))]:=by
 have hM:=qai
 have hxl:=hl.1
 refine qaw (H:=[]) (qqyb (l.length+1) ?_)
 unfold qiz
 simp only[fef]
 rw[qif l.length (fun n i=>qxt (l.length+1+1) (l.length+1+1) n (encL 2 MNeed.enc l) i) (keyI l (·.Name) qmk) (some ([.one (Cell.bool (decide (l.length≤4)))],[])) (some ([.one (Cell.bool false)],[])) ?_ ?_ _ (by omega)]
 ·exact qsgb _ _ _
 ·intro n i hlt
  obtain⟨f,hf⟩:∃ f,l[i]?=some f:=⟨l[i],List.getElem?_eq_getElem hlt⟩
  have hb:=hl.2 f (List.mem_of_getElem? hf)
  simp only[qxt,qag,qap,hf,MNeed.enc,c_fee f hb,EV0]
  rw[decide_eq_true (by omega),cond_true,qaf (by omega)]
  cases i with
  | zero=>
   rw[qku hf,decide_eq_false (p:=((0:Nat):Int) > 0) (by omega)]
   cases qmk f<;>rfl
  | succ i=>
   obtain⟨g,hg⟩:∃ g,l[i]?=some g:=⟨l[i],List.getElem?_eq_getElem (by omega)⟩
   rw[qky hf hg,decide_eq_true (p:=((i+1:Nat):Int) > 0) (by omega),qdi (by omega)]
   simp only[qap,hf,hg,MNeed.enc,qcr,Nat.zero_add,qmhc,EV0]
   cases qmk f<;>cases lt g.Name f.Name<;>rfl
 ·intro n
  simp only[qxt,qag,EV0]
  rw[decide_eq_false (by omega),cond_false,show decide ((l.length:Int)≤4)=decide (l.length≤4) from n_le l.length 4]
theorem c_fbg (l:List MNeed)(hl:bdL 1048576 (MNeed.Bd 1048576) l):out quy [.one (encL 2 MNeed.enc l)]=some [.one (Cell.bool (qiz l))]:=by
 have hM:=qai
 have hxl:=hl.1
 refine qaw (H:=[]) (qpbb (l.length+1) ?_)
 unfold qiz
 simp only[fbg,qag,Option.bind_some]
 rw[qif l.length (fun n i=>qum (l.length+1+1) (l.length+1+1) n (encL 2 MNeed.enc l) (encL 2 MNeed.enc l) l.length i) (keyI l (·.Name) qmk) (some ([.one (Cell.bool (decide (l.length≤4)))],[])) (some ([.one (Cell.bool false)],[])) ?_ ?_ _ (by omega)]
 ·exact qsgb _ _ _
 ·intro n i hlt
  obtain⟨f,hf⟩:∃ f,l[i]?=some f:=⟨l[i],List.getElem?_eq_getElem hlt⟩
  have hb:=hl.2 f (List.mem_of_getElem? hf)
  simp only[qum,qag,qap,hf,MNeed.enc,Nat.zero_add,c_fbe f hb,EV0]
  rw[decide_eq_true (by omega),cond_true,qaf (by omega)]
  cases i with
  | zero=>
   rw[qku hf,decide_eq_false (p:=((0:Nat):Int) > 0) (by omega)]
   cases qmk f<;>rfl
  | succ i=>
   obtain⟨g,hg⟩:∃ g,l[i]?=some g:=⟨l[i],List.getElem?_eq_getElem (by omega)⟩
   rw[qky hf hg,decide_eq_true (p:=((i+1:Nat):Int) > 0) (by omega),qdi (by omega)]
   simp only[qap,hf,hg,MNeed.enc,qcr,Nat.zero_add,qmhc,qdtc,EV0]
   cases qmk f<;>cases lt g.Name f.Name<;>rfl
 ·intro n
  simp only[qum,qag,EV0]
  rw[decide_eq_false (by omega),cond_false,show decide ((l.length:Int)≤4)=decide (l.length≤4) from n_le l.length 4]
theorem c_fec (l:List MCmd)(hl:bdL 1048576 (MCmd.Bd 1048576) l):out qwf [.one (encL 2 MCmd.enc l)]=some [.one (Cell.bool (qkgb l))]:=by
 have hM:=qai
 have hxl:=hl.1
 refine qaw (H:=[]) (qmjb (l.length+1048577) ?_)
 unfold qkgb
 simp only[fec]
 rw[qif l.length (fun n i=>qyp (l.length+1048577+1) (l.length+1048577+1) n (encL 2 MCmd.enc l) i) (keyI l (·.Task) qsdb) (some ([.one (Cell.bool (decide (l.length≤4)))],[])) (some ([.one (Cell.bool false)],[])) ?_ ?_ _ (by omega)]
 ·exact qsgb _ _ _
 ·intro n i hlt
  obtain⟨f,hf⟩:∃ f,l[i]?=some f:=⟨l[i],List.getElem?_eq_getElem hlt⟩
  have hb:=hl.2 f (List.mem_of_getElem? hf)
  have hbl:=hb.2.1
  have h0:f.Task.length≤1048576:=hb.1
  have inner:∀ (bl:Cell→Int→Option Res) (k m:Nat),qsc k m bl (l.length+1048577+1) (encL 2 MCmd.enc l) i 0=cond (f.Acts.all (qel 40)) (bl (encL 2 MCmd.enc l) ((i+1:Nat):Int)) (some ([.one (Cell.bool false)],[])):=by
   intro bl k m
   rw[qgi f.Acts (fun n j=>qsc k m bl n (encL 2 MCmd.enc l) i j) (qel 40) (bl (encL 2 MCmd.enc l) ((i+1:Nat):Int)) (some ([.one (Cell.bool false)],[])) ?_ ?_ _ (by omega)]
   ·intro n j x hx hjl
    have hxb:x.length≤1048576:=hb.2.2 x (List.mem_of_getElem? hx)
    have q:out qrs [.one (Cell.str (bs x)),.one (Cell.int 40)]=some [.one (Cell.bool (qel 40 x))]:=c_fdd x 40 (by omega)
    simp only[qsc,qap,hf,hx,MCmd.enc,eStr,qcr,Nat.zero_add,q,EV0]
    rw[decide_eq_true (by omega),cond_true,qaf (by omega)]
    cases qel 40 x<;>rfl
   ·intro n
    simp only[qsc,qap,hf,MCmd.enc,qcr,Nat.zero_add,EV0]
    rw[decide_eq_false (by omega),cond_false,qaf (by omega)]
  simp only[qyp,qag,qap,hf,MCmd.enc,qcr,Nat.zero_add,qgad f.Task (by omega),qayb,inner,EV0]
  rw[decide_eq_true (by omega),cond_true]
  cases i with
  | zero=>
   rw[qku hf,decide_eq_false (p:=((0:Nat):Int) > 0) (by omega)]
   unfold qsdb
   cases qcw f.Task<;>cases inR (f.Acts.length:Int) 1 5<;>cases f.Acts.all (qel 40)<;>rfl
  | succ i=>
   obtain⟨g,hg⟩:∃ g,l[i]?=some g:=⟨l[i],List.getElem?_eq_getElem (by omega)⟩
   rw[qky hf hg,decide_eq_true (p:=((i+1:Nat):Int) > 0) (by omega),qdi (by omega)]
   simp only[qap,hf,hg,MCmd.enc,qcr,Nat.zero_add,qmhc,EV0]
   unfold qsdb
   cases qcw f.Task<;>cases inR (f.Acts.length:Int) 1 5<;>cases f.Acts.all (qel 40)<;>cases lt g.Task f.Task<;>rfl
 ·intro n
  simp only[qyp,qag,EV0]
  rw[decide_eq_false (by omega),cond_false,show decide ((l.length:Int)≤4)=decide (l.length≤4) from n_le l.length 4]
theorem c_fcz (p:MPack)(hp:p.Bd 1048576):out qrf [.agg [Cell.str (bs p.Name),qbu p.Uses,encL 2 MNeed.enc p.Needs,encL 2 MCmd.enc p.Cmds]]=some [.one (Cell.bool (qqj p))]:=by
 obtain⟨b0,b1,b2,b3⟩:=hp
 have h0:p.Name.length≤1048576:=b0
 have h1:=b1.1
 refine qaw (H:=[]) (qrfb 0 ?_)
 simp only[fcz,qgad p.Name (by omega),c_fed p.Uses b1,c_feb p.Uses (by omega),c_fef p.Needs b2,c_fec p.Cmds b3,EV0]
 rw[show decide ((p.Uses.length:Int)≤4)=decide (p.Uses.length≤4) from n_le _ 4]
 unfold qqj
 cases qcw p.Name<;>cases decide (p.Uses.length≤4)<;>cases p.Uses.all qcw<;>cases asc p.Uses<;>cases qiz p.Needs<;>cases qkgb p.Cmds<;>rfl
theorem c_fad (p:MPack)(hp:p.Bd 1048576):out qrd [.agg [Cell.str (bs p.Name),qbu p.Uses,encL 2 MNeed.enc p.Needs,encL 2 MCmd.enc p.Cmds]]=some [.one (Cell.bool (qqj p))]:=by
 have hM:=qai
 obtain⟨b0,b1,b2,b3⟩:=hp
 have h0:p.Name.length≤1048576:=b0
 have h1:=b1.1
 have h3:=b3.1
 refine qaw (H:=[]) (qpob (p.Cmds.length+1) ?_)
 unfold qqj qkgb
 simp only[fad,qag,Option.bind_some]
 rw[qif p.Cmds.length (fun n i=>qyk (p.Cmds.length+1+1) (p.Cmds.length+1+1) n (encL 2 MCmd.enc p.Cmds) p.Cmds.length i (bs p.Name) (qbu p.Uses) (encL 2 MNeed.enc p.Needs) (encL 2 MCmd.enc p.Cmds)) (keyI p.Cmds (·.Task) qsdb)
  (some ([.one (Cell.bool (qcw p.Name&&((p.Uses.all qcw&&decide (p.Uses.length≤4))&&(asc p.Uses&&(qiz p.Needs&&decide (p.Cmds.length≤4))))))],[])) (some ([.one (Cell.bool false)],[])) ?_ ?_ _ (by omega)]
 ·generalize (List.range p.Cmds.length).all (keyI p.Cmds (·.Task) qsdb)=a
  cases a<;>cases qcw p.Name<;>cases decide (p.Uses.length≤4)<;>cases p.Uses.all qcw<;>cases asc p.Uses<;>cases qiz p.Needs<;>cases decide (p.Cmds.length≤4)<;>rfl
 ·intro n i hlt
  obtain⟨f,hf⟩:∃ f,p.Cmds[i]?=some f:=⟨p.Cmds[i],List.getElem?_eq_getElem hlt⟩
  have hb:=b3.2 f (List.mem_of_getElem? hf)
  simp only[qyk,qag,qap,hf,MCmd.enc,Nat.zero_add,c_far f hb,EV0]
  rw[decide_eq_true (by omega),cond_true,qaf (by omega)]
  cases i with
  | zero=>
   rw[qku hf,decide_eq_false (p:=((0:Nat):Int) > 0) (by omega)]
   cases qsdb f<;>rfl
  | succ i=>
   obtain⟨g,hg⟩:∃ g,p.Cmds[i]?=some g:=⟨p.Cmds[i],List.getElem?_eq_getElem (by omega)⟩
   rw[qky hf hg,decide_eq_true (p:=((i+1:Nat):Int) > 0) (by omega),qdi (by omega)]
   simp only[qap,hf,hg,MCmd.enc,qcr,Nat.zero_add,qmhc,qdtc,EV0]
   cases qsdb f<;>cases lt g.Task f.Task<;>rfl
 ·intro n
  simp only[qyk,qfwd p.Name (by omega),show out qrt [.one (qbu p.Uses),.one (Cell.int 4)]=_ from c_fbd p.Uses b1 4,c_fav p.Uses (by omega),c_fbg p.Needs b2,EV0]
  rw[decide_eq_false (by omega),cond_false,show decide ((p.Cmds.length:Int)≤4)=decide (p.Cmds.length≤4) from n_le _ 4]
  cases qcw p.Name<;>cases decide (p.Uses.length≤4)<;>cases p.Uses.all qcw<;>cases asc p.Uses<;>cases qiz p.Needs<;>rfl
structure MVal where
 K:Int
 N:Int
 S:Str
 L:List MVal
 Keys:List Str
noncomputable instance:DecidableEq MVal:=fun a b=>Classical.propDecidable (a=b)
mutual
def MVal.enc:MVal→List Cell
 | ⟨K,N,S,L,Keys⟩=>[Cell.int K,Cell.int N,Cell.str (bs S),.lst false 5 (encVs L),encL 1 eStr Keys]
def encVs:List MVal→List (List Cell)
 | []=>[]
 | x::xs=>x.enc::encVs xs
end
mutual
def MVal.tr:MVal→List Tr
 | ⟨K,N,S,L,Keys⟩=>[.leaf (.int .i64 K),.leaf (.int .i64 N),.leaf (.string (bs S)),.list 5 (trVs L),trL 1 qdj Keys]
def trVs:List MVal→List (List Tr)
 | []=>[]
 | x::xs=>x.tr::trVs xs
end
mutual
def MVal.Bd (N:Nat):MVal→Prop
 | ⟨_,_,S,L,Keys⟩=>bdS N S∧(L.length≤N∧bdVs N L)∧bdL N (bdS N) Keys
def bdVs (N:Nat):List MVal→Prop
 | []=>True
 | x::xs=>x.Bd N∧bdVs N xs
end
mutual
def MVal.cntR:MVal→Nat
 | ⟨_,_,_,L,Keys⟩=>3+cntVs L+cntL one1 Keys
def cntVs:List MVal→Nat
 | []=>0
 | x::xs=>x.cntR+cntVs xs
end
mutual
def MVal.mkR:MVal→Nat→MVal
 | ⟨_,_,_,L,Keys⟩,k=>⟨(k:Int),((k+1:Nat):Int),qtz (k+2),mkVs L (k+3),mkL qlw one1 Keys (k+3+cntVs L)⟩
def mkVs:List MVal→Nat→List MVal
 | [],_=>[]
 | x::xs,k=>x.mkR k::mkVs xs (k+x.cntR)
end
mutual
def MVal.fu:MVal→Nat
 | ⟨_,_,_,L,_⟩=>fuVs L
def fuVs:List MVal→Nat
 | []=>0
 | x::xs=>x.fu+fuVs xs+1
end
def MVal.cntA (x:MVal):Nat:=cntL MVal.cntR x.L+cntL one1 x.Keys
def MVal.mkA (x:MVal)(k:Nat):MVal:=⟨x.K,x.N,x.S,mkL MVal.mkR MVal.cntR x.L k,mkL qlw one1 x.Keys (k+cntL MVal.cntR x.L)⟩
theorem qoib:∀ xs,encVs xs=xs.map MVal.enc
 | []=>rfl
 | x::xs=>by rw[encVs,qoib xs];rfl
theorem qenc:∀ xs,trVs xs=xs.map MVal.tr
 | []=>rfl
 | x::xs=>by rw[trVs,qenc xs];rfl
theorem qsw:∀ xs,cntVs xs=cntL MVal.cntR xs
 | []=>rfl
 | x::xs=>by rw[cntVs,qsw xs,qej]
theorem qepc:∀ xs k,mkVs xs k=mkL MVal.mkR MVal.cntR xs k
 | [],_=>rfl
 | x::xs,k=>by rw[mkVs,qepc xs];rfl
theorem qqxb {N:Nat}:∀ {xs:List MVal},bdVs N xs↔∀ x∈xs,x.Bd N
 | []=>by simp[bdVs]
 | x::xs=>by rw[bdVs,qqxb (xs:=xs)];simp
theorem enc_V (x:MVal):x.enc=[Cell.int x.K,Cell.int x.N,Cell.str (bs x.S),encL 5 MVal.enc x.L,encL 1 eStr x.Keys]:=by
 obtain⟨K,N,S,L,Keys⟩:=x
 rw[MVal.enc,qoib]
 rfl
theorem tr_V (x:MVal):x.tr=[.leaf (.int .i64 x.K),.leaf (.int .i64 x.N),.leaf (.string (bs x.S)),trL 5 MVal.tr x.L,trL 1 qdj x.Keys]:=by
 obtain⟨K,N,S,L,Keys⟩:=x
 rw[MVal.tr,qenc]
 rfl
theorem bd_V {N:Nat}(x:MVal):x.Bd N↔bdS N x.S∧bdL N (MVal.Bd N) x.L∧bdL N (bdS N) x.Keys:=by
 obtain⟨K,N',S,L,Keys⟩:=x
 rw[MVal.Bd,qqxb]
 exact Iff.rfl
theorem qzbc (x:MVal):x.cntR=3+cntL MVal.cntR x.L+cntL one1 x.Keys:=by
 obtain⟨K,N,S,L,Keys⟩:=x
 rw[MVal.cntR,qsw]
theorem mkR_V (x:MVal)(k:Nat):x.mkR k=⟨(k:Int),((k+1:Nat):Int),qtz (k+2),mkL MVal.mkR MVal.cntR x.L (k+3),mkL qlw one1 x.Keys (k+3+cntL MVal.cntR x.L)⟩:=by
 obtain⟨K,N,S,L,Keys⟩:=x
 rw[MVal.mkR,qepc,qsw]
theorem fu_V (x:MVal):x.fu=fuVs x.L:=by
 obtain⟨K,N,S,L,Keys⟩:=x
 rw[MVal.fu]
theorem qhu:∀ xs:List MVal,xs.length≤fuVs xs
 | []=>by simp[fuVs]
 | x::xs=>by have:=qhu xs;simp only[fuVs,List.length_cons];omega
theorem qfl:∀ {xs:List MVal} {x:MVal},x∈xs→fuVs x.L+1≤fuVs xs
 | y::xs,x,h=>by
  rw[fuVs]
  rcases List.mem_cons.1 h with rfl | h
  ·rw[fu_V];omega
  ·have:=qfl h;omega
mutual
theorem canonV:∀ x:MVal,qih x.enc
 | ⟨K,N,S,L,Keys⟩=>by
  rw[MVal.enc]
  exact .cons inferInstance (.cons inferInstance (.cons inferInstance (.cons (qfsb (canonVs L)) (.cons inferInstance .nil))))
theorem canonVs:∀ xs:List MVal,∀ r∈encVs xs,qih r
 | []=>by simp[encVs]
 | x::xs=>by
  intro r hr
  rw[encVs] at hr
  rcases List.mem_cons.1 hr with rfl | hr
  ·exact canonV x
  ·exact canonVs xs r hr
end
instance:CanonE MVal.enc:=⟨canonV⟩
mutual
theorem trE_V:∀ x:MVal,x.tr.map Tr.cell=x.enc
 | ⟨K,N,S,L,Keys⟩=>by
  rw[MVal.enc,MVal.tr]
  simp only[List.map_cons,List.map_nil,qbl,qbs]
  rw[Tr.cell,Tr.rowsC_eq,trE_Vs L]
theorem trE_Vs:∀ xs:List MVal,(trVs xs).map (List.map Tr.cell)=encVs xs
 | []=>rfl
 | x::xs=>by rw[trVs,encVs,List.map_cons,trE_V x,trE_Vs xs]
end
instance:TrE MVal.tr MVal.enc:=⟨trE_V⟩
theorem MVal.open {H:List Entry}{w q:Bool}{n:Nat}{ids:List Nat}{cs:List Cell}{x:MVal}(h0:Sp (Rep H w q n) ids cs x.tr):∃ c3 c4,cs=[Cell.int x.K,Cell.int x.N,Cell.str (bs x.S),c3,c4]:=by
 rw[tr_V] at h0
 obtain⟨cs,rfl,h1⟩:=Sp.leaf_inv h0
 obtain⟨cs,rfl,h2⟩:=Sp.leaf_inv h1
 obtain⟨cs,rfl,h3⟩:=Sp.leaf_inv h2
 obtain⟨c3,cs,rfl,_,h4⟩:=Sp.list_inv h3
 obtain⟨c4,cs,rfl,_,h5⟩:=Sp.list_inv h4
 obtain⟨_,rfl⟩:=h5.nil_inv
 exact⟨c3,c4,rfl⟩
abbrev avV (x:MVal):AV:=.agg [Cell.int x.K,Cell.int x.N,Cell.str (bs x.S),encL 5 MVal.enc x.L,encL 1 eStr x.Keys]
theorem Fresh.outL {run:Run}{w:Bool}{n:Nat}{args:List AV}{ts:List AT}(h:Fresh run w n args ts)(hn:n≤4194304:=by omega):Ev.outL run args=some (ts.map AT.av):=by
 obtain⟨_,xs,E,ids,h1,h2,_⟩:=h
 exact qbn h1 (qcyb hn h2 fun h=>by simp at h)
theorem qpib (F:Nat)(hS:∀ xs:List MVal,fuVs xs≤F→bdL 1048576 (MVal.Bd 1048576) xs→∀ k,2*F+1≤k→evF qqk (k+2) qwl [.one (encL 5 MVal.enc xs),.one (encL 5 MVal.enc xs)] []=some ([.one (Cell.bool true)],[]))
  (x:MVal) (hf:fuVs x.L≤F) (hx:x.Bd 1048576) (k:Nat) (hk:2*F+2≤k):evF qqk (k+2) qjs [avV x,avV x] []=some ([.one (Cell.bool true)],[]):=by
 obtain⟨b2,b3,b4⟩:=(bd_V x).1 hx
 obtain⟨k,rfl⟩:∃ j,k=j+1:=⟨k - 1,by omega⟩
 have e1:out (evF qqk (k+1+1) qwl) [.one (encL 5 MVal.enc x.L),.one (encL 5 MVal.enc x.L)]=some [.one (Cell.bool true)]:=qaw (hS x.L hf b3 k (by omega))
 rw[fcc_eq]
 simp only[fcc,e1,c_fcb _ _ b4 b4,bne_self_eq_false,decide_true,Bool.not_true,EV0]
theorem q_fcd:∀ (F:Nat) (xs:List MVal),fuVs xs≤F→bdL 1048576 (MVal.Bd 1048576) xs→∀ k,2*F+1≤k→evF qqk (k+2) qwl [.one (encL 5 MVal.enc xs),.one (encL 5 MVal.enc xs)] []=some ([.one (Cell.bool true)],[]):=by
 intro F
 induction F using Nat.strongRecOn with
 | ind F ih=>
 intro xs hf hx R hR
 have hM:=qai
 have hxl:=hx.1
 have hlen:=qhu xs
 have loop:∀ (r:List MVal) (i n:Nat),xs.drop i=r→r.length < n→∀ m,qbhb (R+1) m n (encL 5 MVal.enc xs) (encL 5 MVal.enc xs) i=some ([.one (Cell.bool true)],[]):=by
  intro r
  induction r with
  | nil=>
   intro i n hd hn m
   obtain⟨n,rfl⟩:∃ j,n=j+1:=⟨n - 1,by omega⟩
   have:=drop_nil hd
   simp only[qbhb,qag,Option.bind_some]
   rw[decide_eq_false (by omega),cond_false]
  | cons x r ihr=>
   intro i n hd hn m
   obtain⟨n,rfl⟩:∃ j,n=j+1:=⟨n - 1,by omega⟩
   obtain⟨hlt,hg,hd'⟩:=qao hd
   simp only[List.length_cons] at hn
   have hm:=List.mem_of_getElem? hg
   have hfx:=qfl hm
   obtain⟨R',rfl⟩:∃ j,R=j+1:=⟨R - 1,by omega⟩
   have e1:out (evF qqk (R'+1+1) qjs) [avV x,avV x]=some [.one (Cell.bool true)]:=qaw (qpib (fuVs x.L) (fun ys h1 h2 k h3=>ih (fuVs x.L) (by omega) ys h1 h2 k h3) x (Nat.le_refl _) (hx.2 x hm) R' (by omega))
   simp only[avV] at e1
   simp only[qbhb,qag,qap,hg,enc_V x,e1,Nat.zero_add,Nat.reduceAdd,Bool.not_true,EV0]
   rw[decide_eq_true (by omega),cond_true,qaf (by omega)]
   exact ihr (i+1) n hd' (by omega) m
 rw[fcd_eq]
 simp only[fcd,qag,bne_self_eq_false,EV0]
 exact loop xs 0 (R+1) rfl (by omega) _
theorem c_fcc (x y:MVal)(hx:x.Bd 1048576)(hy:y.Bd 1048576)(e:x=y:=by rfl):out qyi [.agg [Cell.int x.K,Cell.int x.N,Cell.str (bs x.S),encL 5 MVal.enc x.L,encL 1 eStr x.Keys],.agg [Cell.int y.K,Cell.int y.N,Cell.str (bs y.S),encL 5 MVal.enc y.L,encL 1 eStr y.Keys]]=some [.one (Cell.bool (decide (x=y)))]:=by
 subst e
 rw[show decide (x=x)=true by simp]
 exact qaw (qas (qpib (fuVs x.L) (q_fcd (fuVs x.L)) x (Nat.le_refl _) hx (2*fuVs x.L+2) (Nat.le_refl _)))
theorem q_fco:∀ (F:Nat) (xs:List MVal),fuVs xs≤F→bdL maxLen (MVal.Bd maxLen) xs→∀ (R:Nat),F≤R→∀ {H:List Entry} {w:Bool} {n:Nat} {ids:List Nat} {c:Cell} (k:Nat),Rep H w true n ids c (trL 5 MVal.tr xs)→ids.Nodup→k+cntL MVal.cntR xs≤qby→
  ∃ H',evF qkab (R+2) qkh [.one c,.one (Cell.int (k:Int))] H=some ([.one (Cell.int ((k+cntL MVal.cntR xs:Nat):Int))],H')∧Upd ids H H'∧Rep H' w true n ids c (trL 5 MVal.tr (mkL MVal.mkR MVal.cntR xs k)):=by
 intro F
 induction F using Nat.strongRecOn with
 | ind F ihF=>
 intro xs hf hx R hR H w n ids c k h hn hk
 cases n with
 | zero=>exact h.elim
 | succ n=>
 have hM:=qai
 have hlen:=h.lenC
 rw[List.length_map] at hlen
 have hxl:xs.length≤maxLen:=hx.1
 have hlx:=qhu xs
 obtain⟨H',e1,u,r⟩:=qla (sz:=5) (c:=c) MVal.tr MVal.mkR MVal.cntR xs (fun m k i H=>qzo (R+1) (R+1) m c k i H) (by
  intro m i k x H trs hi hm hr hl hk h
  have h0:Rep H w true (n+1) ids c (.list 5 (trs.set i [.leaf (.int .i64 x.K),.leaf (.int .i64 x.N),.leaf (.string (bs x.S)),trL 5 MVal.tr x.L,trL 1 qdj x.Keys])):=by rw[← tr_V x,qnj hr];exact h
  have hi':i < trs.length:=by omega
  obtain⟨hb2,hb3,hb4⟩:=(bd_V x).1 (hx.2 x hm)
  have hfx:=qfl hm
  obtain⟨R',rfl⟩:∃ j,R=j+1:=⟨R - 1,by omega⟩
  have hk0:=hk
  rw[qzbc] at hk
  obtain⟨id0,p0,q0,row0,a0,d0,st0,sb0⟩:=h0.idxR hn hi'
  obtain⟨H0,s0,u0,h1⟩:=st0 0 _ (.int .i64 ((k:Nat):Int)) rfl
  have y0:IntKind.i64.wrap (((k:Nat):Int)+1)=((k+1:Nat):Int):=qlnb (by omega)
  obtain⟨id1,p1,q1,row1,a1,d1,st1,sb1⟩:=h1.idxR hn hi'
  obtain⟨rfl,rfl,rfl⟩:=qjm a0 a1
  obtain⟨H1,s1,u1,h2⟩:=st1 1 _ (.int .i64 (((k+1):Nat):Int)) rfl
  have y1:IntKind.i64.wrap ((((k+1):Nat):Int)+1)=(((k+1)+1:Nat):Int):=qlnb (by omega)
  obtain⟨id2,p2,q2,row2,a2,d2,st2,sb2⟩:=h2.idxR hn hi'
  obtain⟨rfl,rfl,rfl⟩:=qjm a0 a2
  obtain⟨H2,s2,u2,h3⟩:=st2 2 _ (.string (bs (qtz ((k+1)+1)))) rfl
  have y2:IntKind.i64.wrap (((((k+1)+1):Nat):Int)+1)=((((k+1)+1)+1:Nat):Int):=qlnb (by omega)
  obtain⟨id3,p3,q3,row3,a3,d3,st3,sb3⟩:=h3.idxR hn hi'
  obtain⟨rfl,rfl,rfl⟩:=qjm a0 a3
  obtain⟨cc3,sub3,g3,r3,nd3,bk3⟩:=sb3 3 _ rfl
  obtain⟨H3,s3,v3,z3⟩:=ihF (fuVs x.L) (by omega) x.L (Nat.le_refl _) hb3 R' (by omega) (((k+1)+1)+1) r3 nd3 (by omega)
  have s3:evF qkab (R'+1+1) qkh [.one cc3,.one (Cell.int ((((k+1)+1)+1:Nat):Int))] H2=_:=s3
  obtain⟨u3,h4⟩:=bk3 _ _ v3 z3
  obtain⟨id4,p4,q4,row4,a4,d4,st4,sb4⟩:=h4.idxR hn hi'
  obtain⟨rfl,rfl,rfl⟩:=qjm a0 a4
  obtain⟨cc4,sub4,g4,r4,nd4,bk4⟩:=sb4 4 _ rfl
  obtain⟨H4,s4,v4,z4⟩:=qftd (x.Keys) ((((k+1)+1)+1)+cntL MVal.cntR x.L) hb4 r4 nd4 (by omega)
  obtain⟨u4,h5⟩:=bk4 _ _ v4 z4
  have ek:k+MVal.cntR x=(((((k+1)+1)+1)+cntL MVal.cntR x.L)+cntL one1 x.Keys):=by rw[qzbc];omega
  have em:MVal.tr (MVal.mkR x k)=[.leaf (.int .i64 ((k:Nat):Int)),.leaf (.int .i64 (((k+1):Nat):Int)),.leaf (.string (bs (qtz ((k+1)+1)))),trL 5 MVal.tr (mkL MVal.mkR MVal.cntR x.L (((k+1)+1)+1)),trL 1 qdj (mkL qlw one1 x.Keys ((((k+1)+1)+1)+cntL MVal.cntR x.L))]:=by rw[tr_V,mkR_V]
  refine⟨H4,?_,u0.trans (u1.trans (u2.trans (u3.trans (u4)))),by rw[em];exact h5⟩
  rw[ek]
  simp only[qzo,hlen,Option.bind_some]
  rw[decide_eq_true (by omega),cond_true]
  simp only[a0,s0,y0,a1,s1,y1,a2,s2,qcfc ((k+1)+1) (by omega),y2,a3,d3,g3,s3,a4,d4,g4,s4,qfg,Nat.zero_add,Nat.reduceAdd,wrap_u8,EV0]
  rw[qaf (by omega)]) (by
  intro m k H
  simp only[qzo,hlen,Option.bind_some]
  rw[decide_eq_false (by omega),cond_false]) (R+1) k H (by omega) hk h
 refine⟨H',?_,u,r⟩
 rw[fco_eq]
 simp only[fco]
 exact e1
theorem k_fco {H:List Entry}{w:Bool}{n:Nat}{ids:List Nat}{c:Cell}(xs:List MVal)(k:Nat)(hx:bdL maxLen (MVal.Bd maxLen) xs)(h:Rep H w true n ids c (trL 5 MVal.tr xs))(hn:ids.Nodup)(hk:k+cntL MVal.cntR xs≤qby):
  ∃ H',qeub [.one c,.one (Cell.int (k:Int))] H=some ([.one (Cell.int ((k+cntL MVal.cntR xs:Nat):Int))],H')∧Upd ids H H'∧Rep H' w true n ids c (trL 5 MVal.tr (mkL MVal.mkR MVal.cntR xs k)):=by
 obtain⟨H',e,u,r⟩:=q_fco (fuVs xs) xs (Nat.le_refl _) hx (fuVs xs) (Nat.le_refl _) k h hn hk
 exact⟨H',qas e,u,r⟩
theorem k_fcn {H:List Entry}{w:Bool}{n:Nat}{ids:List Nat}{cs:List Cell}(x:MVal)(k:Nat)(hx:x.Bd maxLen)(h0:Sp (Rep H w true n) ids cs x.tr)(hn:ids.Nodup)(hk:k+x.cntA≤qby):
  ∃ H',qqm [.agg cs,.one (Cell.int (k:Int))] H=some ([.one (Cell.int ((k+x.cntA:Nat):Int))],H')∧Upd ids H H'∧Sp (Rep H' w true n) ids cs (x.mkA k).tr:=by
 obtain⟨c3,c4,rfl⟩:=MVal.open h0
 obtain⟨hb2,hb3,hb4⟩:=(bd_V x).1 hx
 have hk0:=hk
 simp only[MVal.cntA] at hk
 rw[tr_V] at h0
 obtain⟨sub0,r0,nd0,bk0⟩:=Sp.field h0 hn 3 (cc:=c3) rfl rfl
 obtain⟨H0,s0,v0,z0⟩:=k_fco (x.L) k hb3 r0 nd0 (by omega)
 obtain⟨u0,h1⟩:=bk0 _ _ v0 z0
 obtain⟨sub1,r1,nd1,bk1⟩:=Sp.field h1 hn 4 (cc:=c4) rfl rfl
 obtain⟨H1,s1,v1,z1⟩:=qftd (x.Keys) (k+cntL MVal.cntR x.L) hb4 r1 nd1 (by omega)
 obtain⟨u1,h2⟩:=bk1 _ _ v1 z1
 have ek:k+x.cntA=((k+cntL MVal.cntR x.L)+cntL one1 x.Keys):=by simp only[MVal.cntA]<;>omega
 have em:(x.mkA k).tr=[.leaf (.int .i64 x.K),.leaf (.int .i64 x.N),.leaf (.string (bs x.S)),trL 5 MVal.tr (mkL MVal.mkR MVal.cntR x.L k),trL 1 qdj (mkL qlw one1 x.Keys (k+cntL MVal.cntR x.L))]:=tr_V _
 refine⟨H1,qpvb 0 ?_,u0.trans (u1),by rw[em];exact h2⟩
 rw[ek]
 simp only[fcn,s0,s1,EV0]
mutual
def MVal.wt:MVal→Nat
 | ⟨_,_,S,L,Keys⟩=>wtS S+(L.length+wtVs L)+wtL wtS Keys
def wtVs:List MVal→Nat
 | []=>0
 | x::xs=>x.wt+wtVs xs
end
theorem qejb:∀ xs,wtVs xs=(xs.map MVal.wt).sum
 | []=>rfl
 | x::xs=>by rw[wtVs,qejb xs];simp
theorem wt_V (x:MVal):x.wt=wtS x.S+wtL MVal.wt x.L+wtL wtS x.Keys:=by
 obtain⟨K,N,S,L,Keys⟩:=x
 rw[MVal.wt,qejb]
 rfl
mutual
theorem fu_wt:∀ x:MVal,x.fu≤x.wt
 | ⟨K,N,S,L,Keys⟩=>by
  have:=fuVs_wt L
  rw[MVal.fu,MVal.wt]
  omega
theorem fuVs_wt:∀ xs:List MVal,fuVs xs≤xs.length+wtVs xs
 | []=>by simp[fuVs]
 | x::xs=>by
  have h1:=fu_wt x
  have h2:=fuVs_wt xs
  rw[fuVs,wtVs,List.length_cons]
  omega
end
theorem qifc (xs:List MVal):fuVs xs≤wtL MVal.wt xs:=by
 have:=fuVs_wt xs
 rw[qejb] at this
 exact this
mutual
theorem cntR_wt:∀ x:MVal,x.cntR≤8+8*x.wt
 | ⟨K,N,S,L,Keys⟩=>by
  have h1:=cntVs_wt L
  have h2:=qdc (w:=wtS) qei Keys
  rw[MVal.cntR,MVal.wt]
  omega
theorem cntVs_wt:∀ xs:List MVal,cntVs xs≤8*(xs.length+wtVs xs)
 | []=>by simp[cntVs]
 | x::xs=>by
  have h1:=cntR_wt x
  have h2:=cntVs_wt xs
  rw[cntVs,wtVs,List.length_cons]
  omega
end
theorem MVal.cntA_le (x:MVal):x.cntA≤8*x.wt:=by
 have h1:=cntVs_wt x.L
 have h2:=qdc (w:=wtS) qei x.Keys
 rw[qsw,qejb] at h1
 rw[MVal.cntA,wt_V]
 unfold wtL at h2 ⊢
 omega
theorem qbmd {N M:Nat}:∀ (F:Nat) (x:MVal),fuVs x.L≤F→x.Bd M→x.wt≤N→x.Bd N:=by
 intro F
 induction F with
 | zero=>
  intro x hf hx hw
  rw[bd_V] at hx ⊢
  rw[wt_V] at hw
  obtain⟨h1,⟨h2,h3⟩,h4⟩:=hx
  refine⟨(by unfold bdS;unfold wtS at hw;omega),⟨by unfold wtL at hw;omega,fun y hy=>?_⟩,qpz (w:=wtS) h4 (by omega) (fun y h hw=>hw)⟩
  have:=qfl hy
  omega
 | succ F ih=>
  intro x hf hx hw
  rw[bd_V] at hx ⊢
  rw[wt_V] at hw
  obtain⟨h1,h2,h4⟩:=hx
  refine⟨(by unfold bdS;unfold wtS at hw;omega),⟨by unfold wtL at hw;omega,fun y hy=>?_⟩,qpz (w:=wtS) h4 (by omega) (fun y h hw=>hw)⟩
  have hs:y.wt≤(x.L.map MVal.wt).sum:=qfhc hy
  exact ih y (by have:=qfl hy;omega) (h2.2 y hy) (by unfold wtL at hw;omega)
theorem MVal.bd_wt {N M:Nat}{x:MVal}(h:x.Bd M)(hw:x.wt≤N):x.Bd N:=qbmd _ x (Nat.le_refl _) h hw
theorem qiub {α:Type}{e0:α→List Cell}{b:α→Prop}{Γ:Ctx}{n:Nat}{t e:TypeId}{cs:List Cell}{r q:Ty}(h:WT Γ n t cs)(hr:Γ.ty t=some r)(hk:r.kd=.slice e)(hq:Γ.ty e=some q)
  (hh:∀ (m:Nat) (row:List Cell),m < n→WT Γ m e row→∃ x:α,row=e0 x∧b x):∃ xs:List α,cs=[encL q.size e0 xs]∧bdL Go.maxLen b xs:=by
 obtain⟨n,rfl⟩:=qhh h
 simp only[WT,hr,hk] at h
 obtain⟨q',rows,h1,h2,h3,h4⟩:=h
 rw[hq] at h2
 simp only[Option.some.injEq] at h2
 subst h2
 obtain⟨xs,hxs,hb⟩:∃ xs:List α,rows=xs.map e0∧∀ x∈xs,b x:=by
  clear h1 h3
  induction rows with
  | nil=>exact⟨[],rfl,by simp⟩
  | cons row rows ih=>
   obtain⟨x,hx,hbx⟩:=hh n row (by omega) (h4 row (by simp))
   obtain⟨xs,h1,h2⟩:=ih fun r hr=>h4 r (by simp[hr])
   exact⟨x::xs,by rw[List.map_cons,hx,h1],fun y hy=>by
    rcases List.mem_cons.1 hy with rfl | hy
    ·exact hbx
    ·exact h2 y hy⟩
 subst hxs
 exact⟨xs,h1,by simpa using h3,hb⟩
theorem MVal.of_wt:∀ (n:Nat) (cs:List Cell),WT Γ0 n 48 cs→∃ x:MVal,cs=x.enc∧x.Bd maxLen:=by
 intro n
 induction n using Nat.strongRecOn with
 | ind n ih=>
 intro cs h
 obtain⟨n,rfl⟩:=qhh h
 have h:=qii h (by kernel_rfl:Γ0.ty 48=some ty48) rfl
 simp only[List.map_cons,List.map_nil,WTs] at h
 obtain⟨a0,b0,e0,h0,a1,b1,e1,h1,a2,b2,e2,h2,a3,b3,e3,h3,a4,b4,e4,h4,e5⟩:=h
 obtain⟨x0,f0,g0⟩:=qcwd h0 (by kernel_rfl:Γ0.ty 3=some ty3) rfl
 obtain⟨x1,f1,g1⟩:=qcwd h1 (by kernel_rfl:Γ0.ty 3=some ty3) rfl
 obtain⟨x2,f2,g2⟩:=qko h2 (by kernel_rfl:Γ0.ty 9=some ty9) rfl
 obtain⟨x3,f3,g3⟩:=qiub (e0:=MVal.enc) (b:=(MVal.Bd maxLen)) h3 (by kernel_rfl:Γ0.ty 46=some ty46) rfl (by kernel_rfl:Γ0.ty 48=some ty48) (fun m r hm h=>ih m (by omega) r h)
 obtain⟨x4,f4,g4⟩:=qft (e0:=eStr) (b:=(bdS maxLen)) h4 (by kernel_rfl:Γ0.ty 24=some ty24) rfl (by kernel_rfl:Γ0.ty 9=some ty9) (fun n r h=>qko h (by kernel_rfl:Γ0.ty 9=some ty9) rfl)
 refine⟨⟨x0,x1,x2,x3,x4⟩,?_,(bd_V _).2 ⟨g2,g3,g4⟩⟩
 rw[enc_V]
 subst f0 f1 f2 f3 f4
 rw[e0,e1,e2,e3,e4,e5]
 rfl
theorem qrzb (F:Nat)(hS:∀ xs:List MVal,fuVs xs≤F→bdL maxLen (MVal.Bd maxLen) xs→∀ (l:Int),0≤l→l≤1099511627776→∀ k,2*F+1≤k→evF qpv (k+2) qyf [.one (encL 5 MVal.enc xs),.one (Cell.int l)] []=some ([.one (Cell.int (szI (wtL MVal.wt xs) l))],[]))
  (x:MVal) (hf:fuVs x.L≤F) (hx:x.Bd maxLen) (l:Int) (h0:0≤l) (h1:l≤1099511627776) (k:Nat) (hk:2*F+2≤k):evF qpv (k+2) qkf [avV x,.one (Cell.int l)] []=some ([.one (Cell.int (szI x.wt l))],[]):=by
 obtain⟨b2,b3,b4⟩:=(bd_V x).1 hx
 have hM:=qai
 have k0:x.S.length≤maxLen:=b2
 obtain⟨k,rfl⟩:∃ j,k=j+1:=⟨k - 1,by omega⟩
 rw[fcq_eq]
 have q0:wtS x.S=x.S.length:=rfl
 simp only[fcq,wt_V x,EV0]
 rw[wrap_small (by omega) (by omega)]
 by_cases g0:(x.S.length:Int)≤l
 ·rw[decide_eq_false (by omega),cond_false]
  have e1:out (evF qpv (k+1+1) qyf) [.one (encL 5 MVal.enc x.L),.one (Cell.int (l - (x.S.length:Int)))]=some [.one (Cell.int (szI (wtL MVal.wt x.L) (l - (x.S.length:Int))))]:=qaw (hS x.L hf b3 _ (by omega) (by omega) k (by omega))
  simp only[e1,EV0]
  by_cases g1:((wtL MVal.wt x.L:Nat):Int)≤l - (x.S.length:Int)
  ·rw[quz g1,decide_eq_false (by omega),cond_false,c_fcp _ _ b4 (by omega) (by omega)]
   simp only[EV0,qhec]
   by_cases g2:((wtL wtS x.Keys:Nat):Int)≤l - (x.S.length:Int) - ((wtL MVal.wt x.L:Nat):Int)
   ·rw[if_pos g2,quz g2,quz (by omega)]
    congr 5
    omega
   ·rw[if_neg g2,qrz (by omega)]
  ·rw[qrz g1,decide_eq_true (by omega),cond_true,qrz (by omega)]
 ·rw[decide_eq_true (by omega),cond_true,qrz (by omega)]
theorem q_fcr:∀ (F:Nat) (xs:List MVal),fuVs xs≤F→bdL maxLen (MVal.Bd maxLen) xs→∀ (l:Int),0≤l→l≤1099511627776→∀ k,2*F+1≤k→evF qpv (k+2) qyf [.one (encL 5 MVal.enc xs),.one (Cell.int l)] []=some ([.one (Cell.int (szI (wtL MVal.wt xs) l))],[]):=by
 intro F
 induction F using Nat.strongRecOn with
 | ind F ih=>
 intro xs hf hx l h0 h1 R hR
 have hM:=qai
 have hxl:=hx.1
 have hlen:=qhu xs
 have loop:∀ (ys:List MVal) (i n:Nat) (l:Int),xs.drop i=ys→ys.length < n→0≤l→l≤1099511627776→∀ m,qadb (R+1) m n (encL 5 MVal.enc xs) l i=some ([.one (Cell.int (szI (ys.map MVal.wt).sum l))],[]):=by
  intro ys
  induction ys with
  | nil=>
   intro i n l hd hn h0 h1 m
   obtain⟨n,rfl⟩:∃ j,n=j+1:=⟨n - 1,by omega⟩
   have:=drop_nil hd
   simp only[qadb,qag,Option.bind_some]
   rw[decide_eq_false (by omega)]
   simp only[List.map_nil,List.sum_nil]
   rw[qneb h0,cond_false]
  | cons x ys ihy=>
   intro i n l hd hn h0 h1 m
   obtain⟨n,rfl⟩:∃ j,n=j+1:=⟨n - 1,by omega⟩
   obtain⟨hlt,hg,hd'⟩:=qao hd
   have hm:=List.mem_of_getElem? hg
   have hfx:=qfl hm
   obtain⟨R',rfl⟩:∃ j,R=j+1:=⟨R - 1,by omega⟩
   have e1:out (evF qpv (R'+1+1) qkf) [avV x,.one (Cell.int l)]=some [.one (Cell.int (szI x.wt l))]:=qaw (qrzb (fuVs x.L) (fun ys h1 h2 l h3 h4 k h5=>ih (fuVs x.L) (by omega) ys h1 h2 l h3 h4 k h5) x (Nat.le_refl _) (hx.2 x hm) l h0 h1 R' (by omega))
   simp only[avV] at e1
   simp only[qadb,qag,qap,hg,enc_V x,e1,Nat.zero_add,Nat.reduceAdd,EV0]
   rw[decide_eq_true (by omega),cond_true]
   rw[qaf (by omega)]
   simp only[List.map_cons,List.sum_cons]
   simp only[List.length_cons] at hn
   by_cases g:(((MVal.wt x):Nat):Int)≤l
   ·rw[quz g,decide_eq_false (by omega),cond_false,ihy _ _ _ hd' (by omega) (by omega) (by omega),qhdb g]
   ·rw[qrz g,decide_eq_true (by omega),cond_true,qsv g]
 rw[fcr_eq]
 simp only[fcr,qag,Option.bind_some]
 rw[wrap_small (by omega) (by omega)]
 by_cases g:(xs.length:Int)≤l
 ·rw[decide_eq_false (by omega),cond_false]
  have:=loop xs 0 (R+1) (l - xs.length) rfl (by omega) (by omega) (by omega) (R+1)
  simp only[Int.natCast_zero] at this
  rw[this,qhdb g]
  rfl
 ·rw[decide_eq_true (by omega),cond_true]
  have:szI (wtL MVal.wt xs) l=-1:=qsv g
  rw[this]
theorem c_fcq (x:MVal)(l:Int)(hx:x.Bd maxLen)(h0:0≤l)(h1:l≤1099511627776):out qcdb [.agg [Cell.int x.K,Cell.int x.N,Cell.str (bs x.S),encL 5 MVal.enc x.L,encL 1 eStr x.Keys],.one (Cell.int l)]=some [.one (Cell.int (szI x.wt l))]:=
 qaw (qas (qrzb (fuVs x.L) (q_fcr (fuVs x.L)) x (Nat.le_refl _) hx l h0 h1 (2*fuVs x.L+2) (Nat.le_refl _)))
theorem Fresh.more {run:Run}{w:Bool}{n m:Nat}{args:List AV}{ts:List AT}(h:Fresh run w n args ts)(hm:n≤m)(h8:m≤4194306:=by omega):Fresh run w m args ts:=by
 obtain⟨_,xs,E,ids,h1,h2,h3⟩:=h
 refine⟨h8,xs,E,ids,h1,h2.mono fun i x t _ h=>?_,h3⟩
 cases x<;>cases t<;>first | exact h.elim | exact Rep.more h hm | exact Rep.more2 h hm
theorem qphb (F:Nat)(hF:F≤1048576)(hS:∀ xs:List MVal,fuVs xs≤F→bdL 1048576 (MVal.Bd 1048576) xs→∀ R,2*F+1≤R→Fresh (evF qqh (R+2) qxc) true (F+2) [.one (encL 5 MVal.enc xs)] [.one (trL 5 MVal.tr xs)])
  (x:MVal) (hf:fuVs x.L≤F) (hx:x.Bd 1048576) (R:Nat) (hR:2*F+2≤R):Fresh (evF qqh (R+2) qjy) true (F+2) [avV x] [.agg x.tr]:=by
 obtain⟨b2,b3,b4⟩:=(bd_V x).1 hx
 obtain⟨R,rfl⟩:∃ j,R=j+1:=⟨R - 1,by omega⟩
 obtain⟨c1,E1,i1,e1,r1,w1,g1⟩:=qaeb (hS x.L hf b3 R (by omega)) ([]:List Entry) (qau [.one (encL 5 MVal.enc x.L)] _ _)
 obtain⟨c2,E2,i2,e2,r2,w2,g2⟩:=qaeb (f_fcs x.Keys b4) (([]:List Entry)++E1) (qau [.one (encL 1 eStr x.Keys)] _ _)
 have hs:Sp (Rep (([]:List Entry)++E1++E2) true true (F+2)) (i1++(i2++([]:List Nat))) [Cell.int x.K,Cell.int x.N,Cell.str (bs x.S),c1,c2] x.tr:=by
  rw[tr_V]
  exact(Sp.append (Sp.leafD (H:=([]:List Entry)++E1++E2) (w:=true) (q:=true) (n:=F+2) (by omega) (.int .i64 x.K)) (Sp.append (Sp.leafD (by omega) (.int .i64 x.N)) (Sp.append (Sp.leafD (by omega) (.string (bs x.S))) (Sp.append (Sp.one1 (Rep.app E2 r1)) (Sp.append (Sp.one1 (Rep.more (m:=F+2) r2 (by omega))) Sp.nil)))) :)
 have hw:Mine 0 (([]:List Entry)++E1++E2).length (i1++(i2++([]:List Nat))):=Mine.app w1 (Mine.app w2 (Mine.nil (Nat.le_refl _)))
 refine Fresh.agg ?_ hs hw.nd
 rw[fct_eq]
 have e1:qek (evF qqh (R+1+1) qxc) [.one (encL 5 MVal.enc x.L)] []=some ([.one c1],[]++E1):=e1
 simp only[fct,e1,e2,EV0]
theorem q_fcu:∀ (F:Nat),F≤1048576→∀ (xs:List MVal),fuVs xs≤F→bdL 1048576 (MVal.Bd 1048576) xs→∀ R,2*F+1≤R→Fresh (evF qqh (R+2) qxc) true (F+2) [.one (encL 5 MVal.enc xs)] [.one (trL 5 MVal.tr xs)]:=by
 intro F
 induction F using Nat.strongRecOn with
 | ind F ih=>
 intro hF xs hf hb R hR
 have hxl:xs.length≤1048576:=hb.1
 have hM:=qai
 have hlen:=qhu xs
 refine qur (sz:=5) (n:=F+1) (z:=[Cell.int 0,Cell.int 0,Cell.str (bs []),.lst true 5 [],.lst true 1 []]) rfl (by intro c hc;simp only[List.mem_cons,List.not_mem_nil,or_false] at hc;rcases hc with rfl | rfl | rfl | rfl | rfl<;>rfl) MVal.tr xs (fun m i H=>qbpb (R+1) (R+1) m (encL 5 MVal.enc xs) (.vs 0 5 0 xs.length 0) i H) ?_ ?_ (R+1) (by omega) ?_
 ·intro m i x H hi hm hx hg
  have hfx:=qfl hm
  obtain⟨R',rfl⟩:∃ j,R=j+1:=⟨R - 1,by omega⟩
  obtain⟨cs,E,ids,e0,r0,w0,g0⟩:=qlqb (qphb (fuVs x.L) (by omega) (fun ys h1 h2 k h3=>ih (fuVs x.L) (by omega) (by omega) ys h1 h2 k h3) x (Nat.le_refl _) (hb.2 x hm) R' (by omega)) H (qau [avV x] _ _)
  obtain⟨c3,c4,rfl⟩:=MVal.open r0
  have e0:qek (evF qqh (R'+1+1) qjy) [.agg [Cell.int x.K,Cell.int x.N,Cell.str (bs x.S),encL 5 MVal.enc x.L,encL 1 eStr x.Keys]] H=_:=e0
  refine⟨_,E,ids,?_,rfl,Rep.more2 r0 (by omega),w0,g0 hg⟩
  simp only[qbpb,qag,Option.bind_some,qap,hx,Option.map_some]
  rw[decide_eq_true (by omega),cond_true]
  simp only[qik,Option.bind_some]
  rw[enc_V x]
  simp only[qceb,qre,qcub,qrn,qfqb,qeyb,Option.bind_some,Nat.zero_add]
  rw[e0]
  simp only[Option.bind_some]
  refine qbt rfl ?_
  simp only[qsk,qti,qceb,qre,qcub,qrn,qfqb,qeyb,Option.bind_some]
  rw[qjd _ _ _ _ _ hi,qaf (by omega),Option.bind_some]
 ·intro m H
  simp only[qbpb,qag,Option.bind_some]
  rw[decide_eq_false (by omega),cond_false]
 ·intro r hr
  rw[fcu_eq]
  simp only[fcu,qag,Option.bind_some]
  rw[if_pos (by unfold bound;refine⟨?_,?_,?_,?_⟩<;>omega)]
  exact hr
theorem qfrd (x:MVal)(hx:x.Bd 1048576)(hw:x.wt≤1048576):Fresh qny true 2097152 [.agg [Cell.int x.K,Cell.int x.N,Cell.str (bs x.S),encL 5 MVal.enc x.L,encL 1 eStr x.Keys]] [.agg x.tr]:=by
 have hF:fuVs x.L≤1048576:=by
  have h1:=qifc x.L
  rw[wt_V] at hw
  omega
 have h:=qphb (fuVs x.L) hF (fun ys h1 h2 R h3=>q_fcu (fuVs x.L) hF ys h1 h2 R h3) x (Nat.le_refl _) hx (2*fuVs x.L+2) (Nat.le_refl _)
 obtain⟨h8,xs,E,ids,h1,h2,h3⟩:=h
 exact Fresh.more ⟨h8,xs,E,ids,qas h1,h2,h3⟩ (by omega)
def qgec (b:UInt8):Bool:=inR b.toNat 32 126||(b==10||b==9)
def qpt (s:Str):Bool:=s.all qgec&&decide (s.length≤60)
def qqs (x:MVal):Bool:=x.L.length==0&&x.Keys.length==0
def qdz (x:MVal):Bool:=cond (x.K==0) (qqs x&&(x.N==0&&x.S==[])) (cond (x.K==1) (qqs x&&(inR x.N 0 1&&x.S==[])) (cond (x.K==2) (qqs x&&(inR x.N (-999999) 999999&&x.S==[])) (cond (x.K==3) (qqs x&&(x.N==0&&qpt x.S)) (cond (x.K==4) (x.N==0&&(x.S==[]&&x.Keys.length==0)) (cond (x.K==5) (x.N==0&&(x.S==[]&&(x.Keys.length==x.L.length&&(asc x.Keys&&x.Keys.all qpt)))) false)))))
theorem qqa (b:UInt8):out qkd [.one (.sc (.int .u8 (b.toNat:Int)))]=some [.one (Cell.bool (inR b.toNat 32 126))]:=by
 refine qaw (H:=[]) (qxg 0 ?_)
 simp only[faz,inR]
 by_cases h:(32:Int)≤b.toNat
 ·rw[decide_eq_true (by omega:(b.toNat:Int)≥32),cond_true,Bool.true_and]
 ·rw[decide_eq_false (by omega:¬ (b.toNat:Int)≥32),cond_false,Bool.false_and]
theorem c_fbb (b:UInt8):out qxv [.one (.sc (.int .u8 (b.toNat:Int)))]=some [.one (Cell.bool (qgec b))]:=by
 have h1:=qewc b 10 (by omega)
 have h2:=qewc b 9 (by omega)
 rw[show((10:Nat):Int)=10 from rfl] at h1
 rw[show((9:Nat):Int)=9 from rfl] at h2
 refine qaw (H:=[]) (qnhb 0 ?_)
 simp only[fbb,qqa,h1,h2,EV0]
 unfold qgec
 have h3:(UInt8.ofNat 10)=10:=rfl
 have h4:(UInt8.ofNat 9)=9:=rfl
 rw[h3,h4]
 cases inR (b.toNat:Int) 32 126<;>cases b==10<;>cases b==9<;>rfl
theorem c_fbl (s:Str)(hs:s.length≤1073741824):out qmb [.one (Cell.str (bs s))]=some [.one (Cell.bool (qpt s))]:=by
 have hM:=qai
 refine qaw (H:=[]) (qrrb (s.length+1) ?_)
 unfold qpt
 simp only[fbl]
 rw[qgi s (fun n i=>qbwb (s.length+1+1) (s.length+1+1) n (bs s) i) qgec (some ([.one (Cell.bool (decide (s.length≤60)))],[])) (some ([.one (Cell.bool false)],[])) ?_ ?_ _ (by omega)]
 ·exact qsgb _ _ _
 ·intro n i x hx hlt
  simp only[qbwb,qcf,hx,c_fbb,EV0]
  rw[decide_eq_true (by omega),cond_true,qaf (by omega)]
  cases qgec x<;>rfl
 ·intro n
  simp only[qbwb,qbi]
  rw[decide_eq_false (by omega),cond_false,show decide ((s.length:Int)≤60)=decide (s.length≤60) from n_le s.length 60]
theorem c_fdm (s:Str)(hs:s.length≤1073741824):out qbd [.one (Cell.str (bs s))]=some [.one (Cell.bool (qpt s))]:=by
 have hM:=qai
 refine qaw (H:=[]) (qmab (s.length+1) ?_)
 unfold qpt
 simp only[fdm]
 rw[qgi s (fun n i=>qtb (s.length+1+1) (s.length+1+1) n (bs s) i) qgec (some ([.one (Cell.bool (decide (s.length≤60)))],[])) (some ([.one (Cell.bool false)],[])) ?_ ?_ _ (by omega)]
 ·exact qsgb _ _ _
 ·intro n i x hx hlt
  have hu:=qtjc x
  have h1:=qspb x 10 (by omega)
  have h2:=qspb x 9 (by omega)
  rw[show((10:Nat):Int)=10 from rfl] at h1
  rw[show((9:Nat):Int)=9 from rfl] at h2
  have h3:(UInt8.ofNat 10)=10:=rfl
  have h4:(UInt8.ofNat 9)=9:=rfl
  rw[h3] at h1
  rw[h4] at h2
  simp only[qtb,qcf,hx,wrap_small (n:=(x.toNat:Int)) (by omega) (by omega),qayb,h1,h2,EV0]
  rw[decide_eq_true (by omega),cond_true,qaf (by omega)]
  unfold qgec
  simp only[bne]
  cases inR (x.toNat:Int) 32 126<;>cases x==10<;>cases x==9<;>rfl
 ·intro n
  simp only[qtb,qbi]
  rw[decide_eq_false (by omega),cond_false,show decide ((s.length:Int)≤60)=decide (s.length≤60) from n_le s.length 60]
theorem c_fay (s:Str)(hs:s.length≤1073741824):out qnh [.one (Cell.str (bs s))]=some [.one (Cell.bool (!qpt s))]:=by
 refine qaw (H:=[]) (qpdb 0 ?_)
 simp only[fay,c_fbl s hs,EV0]
theorem qlac (xs:List Str)(hx:bdL 1048576 (bdS 1048576) xs):qrb [.one (qbu xs),.one (.fn qdp [] [])] []=some ([.one (Cell.bool (!xs.all qpt))],[]):=by
 have hM:=qai
 have hxl:=hx.1
 have loop:∀ (r:List Str) (i n:Nat),xs.drop i=r→r.length < n→∀ k m,∃ j:Int,qat k m n (qbu xs) xs.length i []=some ([.one (Cell.int j)],[])∧decide (j≥0)=!r.all qpt:=by
  intro r
  induction r with
  | nil=>
   intro i n hd hn k m
   obtain⟨n,rfl⟩:∃ j,n=j+1:=⟨n - 1,by omega⟩
   have:=drop_nil hd
   refine⟨-1,?_,rfl⟩
   simp only[qat]
   rw[decide_eq_false (by omega),cond_false]
  | cons x r ih=>
   intro i n hd hn k m
   obtain⟨n,rfl⟩:∃ j,n=j+1:=⟨n - 1,by omega⟩
   obtain⟨hlt,hg,hd'⟩:=qao hd
   simp only[List.length_cons] at hn
   have hb:x.length≤1048576:=hx.2 x (List.mem_of_getElem? hg)
   simp only[qat]
   rw[decide_eq_true (by omega),cond_true]
   simp only[qap,hg,eStr,c_fay x (by omega),qaf (show i < maxLen by omega),List.all_cons,EV0]
   cases hv:qpt x with
   | true=>exact ih (i+1) n hd' (by omega) k m
   | false=>exact⟨i,rfl,by rw[decide_eq_true (by omega)];rfl⟩
 obtain⟨j,h1,h2⟩:=loop xs 0 (xs.length+1+1) rfl (by omega) (xs.length+1+1) (xs.length+1+1)
 have e1:qyw [.one (qbu xs),.one (.fn qdp [] [])] []=some ([.one (Cell.int j)],[]):=by
  refine qcz (xs.length+1) ?_
  simp only[qbj,qag,Option.bind_some]
  exact h1
 refine qcj 0 ?_
 simp only[qbr,e1,h2,EV0]
theorem qil (a b:Nat):(((a:Nat):Int)==((b:Nat):Int))=(a==b):=by
 rw[Bool.eq_iff_iff]
 simp only[beq_iff_eq]
 omega
theorem qjxb (a:Nat):(((a:Nat):Int)==0)=(a==0):=qil a 0
theorem c_fam (x:MVal)(hx:x.Bd 1048576):out qul [avV x]=some [.one (Cell.bool (qdz x))]:=by
 obtain⟨b2,b3,b4⟩:=(bd_V x).1 hx
 have hsl:x.S.length≤1048576:=b2
 have hkl:=b4.1
 refine qaw (H:=[]) (qmlb 0 ?_)
 simp only[fam,qag,Option.bind_some,qjxb,qil,qbf]
 unfold qdz qqs
 have e1:=c_fbl x.S (by omega)
 have e2:=c_fav x.Keys (by omega)
 have e3:=qlac x.Keys b4
 have nn:∀ b:Bool,(!!b)=b:=Bool.not_not
 cases a0:(x.L.length==0)<;>cases h0:(x.K==0)<;>try (cases h1:(x.K==1)<;>try (cases h2:(x.K==2)<;>try (cases h3:(x.K==3)<;>try (cases h4:(x.K==4)<;>try cases h5:(x.K==5)))))
 all_goals simp only[cond_true,cond_false,e1,e2,e3,qkpc,nn,Bool.false_and,Bool.true_and,EV0]
 all_goals first | rfl | skip
 all_goals (cases (x.Keys.length==0)<;>cases (x.N==0)<;>cases (x.S==[])<;>first | rfl | skip)
 all_goals first | (cases (inR x.N 0 1)<;>rfl) | (cases (inR x.N (-999999) 999999)<;>rfl) | (cases (qpt x.S)<;>rfl) | (cases (x.Keys.length==x.L.length)<;>cases (asc x.Keys)<;>cases (x.Keys.all qpt)<;>rfl)
def qpp:Option Str→List Str→Bool | _,[]=>true | p,k::r=>qpt k&&((match p with | none=>true | some p=>lt p k)&&qpp (some k) r)
theorem qhrb:∀ (r:List Str) (p:Str),qpp (some p) r=(asc (p::r)&&r.all qpt):=by
 intro r
 induction r with
 | nil=>intro p;rfl
 | cons k r ih=>
  intro p
  simp only[qpp,ih,asc,List.all_cons]
  cases qpt k<;>cases lt p k<;>cases asc (k::r)<;>rfl
theorem qhob (r:List Str):qpp none r=(asc r&&r.all qpt):=by
 cases r with
 | nil=>rfl
 | cons k r=>
  simp only[qpp,qhrb,List.all_cons]
  cases qpt k<;>cases asc (k::r)<;>rfl
theorem qmd (x:MVal)(hx:x.Bd 1048576)(K:Int):∀ (r:List Str) (i n:Nat),x.Keys.drop i=r→r.length < n→∀ k m,qbw k m n i K x.N (bs x.S) (encL 5 MVal.enc x.L) (qbu x.Keys)=some ([.one (Cell.bool (qpp (if i=0 then none else x.Keys[i - 1]?) r&&(x.N==0&&x.Keys.length==x.L.length)))],[]):=by
 obtain⟨b2,b3,b4⟩:=(bd_V x).1 hx
 have hM:=qai
 have hkl:=b4.1
 intro r
 induction r with
 | nil=>
  intro i n hd hn k m
  obtain⟨n,rfl⟩:∃ j,n=j+1:=⟨n - 1,by omega⟩
  have:=drop_nil hd
  simp only[qbw,qag,Option.bind_some,qil,qpp,Bool.true_and]
  rw[decide_eq_false (by omega),cond_false]
  cases x.N==0<;>rfl
 | cons s r ih=>
  intro i n hd hn k m
  obtain⟨n,rfl⟩:∃ j,n=j+1:=⟨n - 1,by omega⟩
  obtain⟨hlt,hg,hd'⟩:=qao hd
  simp only[List.length_cons] at hn
  have hb:s.length≤1048576:=b4.2 s (List.mem_of_getElem? hg)
  have hih:=ih (i+1) n hd' (by omega) k m
  rw[if_neg (by omega),Nat.add_sub_cancel,hg] at hih
  simp only[qbw,qag,qap,hg,eStr,c_fdm s (by omega),qaf (show i < maxLen by omega),EV0]
  rw[decide_eq_true (by omega),cond_true,hih]
  cases i with
  | zero=>
   rw[decide_eq_false (by omega),cond_false]
   simp only[qpp,if_true]
   cases qpt s<;>cases qpp (some s) r<;>rfl
  | succ i=>
   obtain⟨p,hp⟩:∃ p,x.Keys[i]?=some p:=⟨x.Keys[i]'(by omega),List.getElem?_eq_getElem _⟩
   rw[decide_eq_true (by omega),cond_true,qdi (by omega),if_neg (by omega),Nat.add_sub_cancel,hp]
   simp only[qap,hp,eStr,qmhc,EV0,qpp]
   cases qpt s<;>cases lt p s<;>cases qpp (some s) r<;>rfl
theorem c_fdl (x:MVal)(hx:x.Bd 1048576):out qxl [avV x]=some [.one (Cell.bool (qdz x))]:=by
 have hb:=(bd_V x).1 hx
 obtain⟨b2,b3,b4⟩:=hb
 have hsl:x.S.length≤1048576:=b2
 refine qaw (H:=[]) (qnlb (x.Keys.length+1) ?_)
 have q1:=c_fdm x.S (by omega)
 have q2:=qmd x hx x.K x.Keys 0 (x.Keys.length+1+1) rfl (by omega) (x.Keys.length+1+1) (x.Keys.length+1+1)
 rw[if_pos rfl,qhob] at q2
 have g1:∀ a:Nat,decide (((a:Nat):Int) > 0)=!(a==0):=fun a=>by
  rw[Bool.eq_iff_iff]
  simp only[decide_eq_true_eq,Bool.not_eq_true',beq_eq_false_iff_ne]
  omega
 have hv:(x.S==[])=true→qpt x.S=true:=fun h=>by
  rw[show x.S=[] by simpa using h]
  rfl
 have q2':qbw (x.Keys.length+1+1) (x.Keys.length+1+1) (x.Keys.length+1+1) 0 x.K x.N (bs x.S) (encL 5 MVal.enc x.L) (qbu x.Keys)=_:=q2
 unfold qdz qqs
 by_cases h0:x.K=0
 ·rw[h0] at q2' ⊢
  simp only[fdl,Int.reduceBEq,Int.reduceBNe,g1,q1,EV0]
  cases hs:x.S==[]<;>cases x.Keys.length==0<;>cases x.L.length==0<;>cases x.N==0<;>first | rfl | (rw[hv hs];rfl)
 by_cases h1:x.K=1
 ·rw[h1] at q2' ⊢
  simp only[fdl,Int.reduceBEq,Int.reduceBNe,g1,qayb,EV0]
  cases hs:x.S==[]<;>cases x.Keys.length==0<;>cases x.L.length==0<;>cases inR x.N 0 1<;>rfl
 by_cases h2:x.K=2
 ·rw[h2] at q2' ⊢
  simp only[fdl,Int.reduceBEq,Int.reduceBNe,g1,qayb,EV0]
  cases hs:x.S==[]<;>cases x.Keys.length==0<;>cases x.L.length==0<;>cases inR x.N (-999999) 999999<;>rfl
 by_cases h3:x.K=3
 ·rw[h3] at q2' ⊢
  simp only[fdl,Int.reduceBEq,Int.reduceBNe,g1,q1,EV0]
  cases x.Keys.length==0<;>cases x.L.length==0<;>cases x.N==0<;>cases qpt x.S<;>rfl
 by_cases h4:x.K=4
 ·rw[h4] at q2' ⊢
  simp only[fdl,Int.reduceBEq,Int.reduceBNe,g1,q1,EV0]
  cases hs:x.S==[]<;>cases x.Keys.length==0<;>cases x.N==0<;>first | rfl | (rw[hv hs];rfl)
 by_cases h5:x.K=5
 ·rw[h5] at q2' ⊢
  simp only[fdl,Int.reduceBEq,Int.reduceBNe,g1,q2',EV0]
  cases hs:x.S==[]<;>cases x.N==0<;>cases x.Keys.length==x.L.length<;>cases asc x.Keys<;>cases x.Keys.all qpt<;>rfl
 ·have k0:(x.K==0)=false:=by simpa using h0
  have k1:(x.K==1)=false:=by simpa using h1
  have k2:(x.K==2)=false:=by simpa using h2
  have k3:(x.K==3)=false:=by simpa using h3
  have k4:(x.K==4)=false:=by simpa using h4
  have k5:(x.K==5)=false:=by simpa using h5
  simp only[fdl,bne,k0,k1,k2,k3,k4,k5,Bool.not_false,g1,EV0]
  cases hs:x.S==[]<;>cases x.Keys.length==0<;>cases x.L.length==0<;>rfl
mutual
def MVal.meas:MVal→Nat→Nat
 | ⟨K,N,S,L,Keys⟩,d=>if 6 < d then 81 else if qdz ⟨K,N,S,L,Keys⟩=true then measVs L (d+1) 1 else 81
def measVs:List MVal→Nat→Nat→Nat
 | [],_,n=>n
 | x::xs,d,n=>if 80 < n+x.meas d then 81 else measVs xs d (n+x.meas d)
end
theorem qilb (x:MVal)(d:Nat):x.meas d=if 6 < d then 81 else if qdz x=true then measVs x.L (d+1) 1 else 81:=by
 obtain⟨K,N,S,L,Keys⟩:=x
 rw[MVal.meas]
theorem qyeb:∀ (xs:List MVal) (d n:Nat),n≤81→measVs xs d n≤81:=by
 intro xs
 induction xs with
 | nil=>intro d n h;rw[measVs];exact h
 | cons x xs ih=>
  intro d n h
  rw[measVs]
  split
  ·omega
  ·exact ih d _ (by omega)
theorem qbid (x:MVal)(d:Nat):x.meas d≤81:=by
 rw[qilb]
 split
 ·omega
 ·split
  ·exact qyeb _ _ _ (by omega)
  ·omega
def qlbb (x:MVal):Bool:=decide (x.meas 1≤80)
theorem qsr:∀ (F:Nat) (x:MVal),fuVs x.L≤F→x.Bd 1048576→∀ (d:Nat),d≤7→∀ R,F≤R→evF qjnb (R+2) qkb [avV x,.one (Cell.int d)] []=some ([.one (Cell.int (x.meas d))],[]):=by
 intro F
 induction F using Nat.strongRecOn with
 | ind F ihF=>
 intro x hf hx d hd R hR
 have hM:=qai
 obtain⟨b2,b3,b4⟩:=(bd_V x).1 hx
 have hxl:=b3.1
 have hlen:=qhu x.L
 have e1:=c_fam x hx
 rw[fal_eq,qilb]
 by_cases h6:6 < d
 ·rw[if_pos h6]
  simp only[fal]
  rw[decide_eq_true (by omega),cond_true]
  rfl
 rw[if_neg h6]
 simp only[fal]
 rw[decide_eq_false (by omega),cond_false]
 simp only[avV] at e1
 simp only[e1,qag,EV0]
 cases hp:qdz x with
 | false=>rfl
 | true=>
  rw[Bool.not_true,cond_false,if_pos rfl]
  have loop:∀ (r:List MVal) (i n c:Nat),x.L.drop i=r→r.length < n→c≤80→∀ m,qzm (R+1) m n d c (encL 5 MVal.enc x.L) x.L.length i=some ([.one (Cell.int (measVs r (d+1) c))],[]):=by
   intro r
   induction r with
   | nil=>
    intro i n c hdr hn hc m
    obtain⟨n,rfl⟩:∃ j,n=j+1:=⟨n - 1,by omega⟩
    have:=drop_nil hdr
    simp only[qzm]
    rw[decide_eq_false (by omega),cond_false,measVs]
   | cons y r ih=>
    intro i n c hdr hn hc m
    obtain⟨n,rfl⟩:∃ j,n=j+1:=⟨n - 1,by omega⟩
    obtain⟨hlt,hg,hd'⟩:=qao hdr
    simp only[List.length_cons] at hn
    have hm:=List.mem_of_getElem? hg
    have hfy:=qfl hm
    have hle:=qbid y (d+1)
    obtain⟨R',rfl⟩:∃ j,R=j+1:=⟨R - 1,by omega⟩
    have e2:out (evF qjnb (R'+1+1) qkb) [avV y,.one (Cell.int ((d+1:Nat):Int))]=some [.one (Cell.int (y.meas (d+1)))]:=qaw (ihF (fuVs y.L) (by omega) y (Nat.le_refl _) (b3.2 y hm) (d+1) (by omega) R' (by omega))
    simp only[avV] at e2
    simp only[qzm]
    rw[decide_eq_true (by omega),cond_true]
    simp only[qap,hg,enc_V y,qaf (show d < maxLen by omega),e2,Nat.zero_add,Nat.reduceAdd,EV0]
    rw[wrap_small (n:=(c:Int)+(y.meas (d+1):Int)) (by omega) (by omega),measVs]
    by_cases h80:80 < c+y.meas (d+1)
    ·rw[decide_eq_true (by omega),cond_true,if_pos h80]
     rfl
    ·rw[decide_eq_false (by omega),cond_false,if_neg h80,qaf (by omega)]
     have:=ih (i+1) n (c+y.meas (d+1)) hd' (by omega) (by omega) m
     rw[← this]
     rfl
  have:=loop x.L 0 (R+1) 1 rfl (by omega) (by omega) (R+1)
  exact this
theorem c_faj (x:MVal)(hx:x.Bd 1048576):out qun [avV x]=some [.one (Cell.bool (qlbb x))]:=by
 have e1:out qgqb [avV x,.one (Cell.int 1)]=some [.one (Cell.int (x.meas 1))]:=qaw (qas (qsr (fuVs x.L) x (Nat.le_refl _) hx 1 (by omega) (fuVs x.L) (Nat.le_refl _)))
 refine qaw (H:=[]) (qohb 0 ?_)
 simp only[avV] at e1
 simp only[faj,e1,EV0]
 rw[show decide (((x.meas 1:Nat):Int)≤80)=decide (x.meas 1≤80) from n_le _ 80]
 rfl
def qdxc (v m:Nat):Prop:=(v≤80∧v=m)∨(80 < v∧m=81)
theorem q_fdk:∀ (F:Nat) (x:MVal),fuVs x.L≤F→x.Bd 1048576→∀ (d:Nat),d≤7→∀ R,F≤R→∃ v:Nat,evF qiib (R+2) qju [avV x,.one (Cell.int d)] []=some ([.one (Cell.int v)],[])∧qdxc v (x.meas d)∧v≤100+80*(7 - d):=by
 intro F
 induction F using Nat.strongRecOn with
 | ind F ihF=>
 intro x hf hx d hd R hR
 have hM:=qai
 obtain⟨b2,b3,b4⟩:=(bd_V x).1 hx
 have hxl:=b3.1
 have hlen:=qhu x.L
 have e1:=c_fdl x hx
 rw[fdk_eq,qilb]
 by_cases h6:6 < d
 ·rw[if_pos h6]
  refine⟨100,?_,.inr ⟨by omega,rfl⟩,by omega⟩
  simp only[fdk]
  rw[decide_eq_true (by omega),cond_true]
  rfl
 rw[if_neg h6]
 simp only[fdk]
 rw[decide_eq_false (by omega),cond_false]
 simp only[avV] at e1
 simp only[e1,EV0]
 cases hp:qdz x with
 | false=>exact⟨100,rfl,.inr ⟨by omega,rfl⟩,by omega⟩
 | true=>
  rw[Bool.not_true,cond_false,if_pos rfl]
  have loop:∀ (r:List MVal) (i n c:Nat),x.L.drop i=r→r.length < n→c≤80→∀ m,∃ v:Nat,qmq (R+1) m n d c i x.K x.N (bs x.S) (encL 5 MVal.enc x.L) (encL 1 eStr x.Keys)=some ([.one (Cell.int v)],[])∧qdxc v (measVs r (d+1) c)∧v≤100+80*(7 - d):=by
   intro r
   induction r with
   | nil=>
    intro i n c hdr hn hc m
    obtain⟨n,rfl⟩:∃ j,n=j+1:=⟨n - 1,by omega⟩
    have:=drop_nil hdr
    refine⟨c,?_,.inl ⟨hc,by rw[measVs]⟩,by omega⟩
    simp only[qmq,qag,Option.bind_some]
    rw[decide_eq_false (by omega),cond_false]
   | cons y r ih=>
    intro i n c hdr hn hc m
    obtain⟨n,rfl⟩:∃ j,n=j+1:=⟨n - 1,by omega⟩
    obtain⟨hlt,hg,hd'⟩:=qao hdr
    simp only[List.length_cons] at hn
    have hm:=List.mem_of_getElem? hg
    have hfy:=qfl hm
    obtain⟨R',rfl⟩:∃ j,R=j+1:=⟨R - 1,by omega⟩
    obtain⟨v,z1,z2,z3⟩:=ihF (fuVs y.L) (by omega) y (Nat.le_refl _) (b3.2 y hm) (d+1) (by omega) R' (by omega)
    have e2:out (evF qiib (R'+1+1) qju) [avV y,.one (Cell.int ((d+1:Nat):Int))]=some [.one (Cell.int v)]:=qaw z1
    simp only[avV] at e2
    have hstep:∀ v',qmq (R'+1+1) m n d ((c+v:Nat):Int) ((i+1:Nat):Int) x.K x.N (bs x.S) (encL 5 MVal.enc x.L) (encL 1 eStr x.Keys)=some ([.one (Cell.int v')],[])→qmq (R'+1+1) m (n+1) d c i x.K x.N (bs x.S) (encL 5 MVal.enc x.L) (encL 1 eStr x.Keys)=some ([.one (Cell.int v')],[]):=fun v' hv=>by
     rw[← hv]
     rw[qmq]
     simp only[qag,Option.bind_some]
     rw[decide_eq_true (by omega),cond_true,decide_eq_true (by omega),cond_true]
     simp only[qap,hg,enc_V y,qaf (show d < maxLen by omega),e2,Nat.zero_add,Nat.reduceAdd,EV0]
     rw[wrap_small (n:=(c:Int)+(v:Int)) (by omega) (by omega),qaf (by omega)]
     rfl
    rw[measVs]
    rcases z2 with⟨y1,y2⟩ | ⟨y1,y2⟩
    ·by_cases h80:80 < c+y.meas (d+1)
     ·rw[if_pos h80]
      refine⟨c+v,hstep _ ?_,.inr ⟨by omega,rfl⟩,by omega⟩
      obtain⟨n,rfl⟩:∃ j,n=j+1:=⟨n - 1,by omega⟩
      simp only[qmq,qag,Option.bind_some]
      rw[decide_eq_false (p:=((c+v:Nat):Int)≤80) (by omega),cond_false]
      cases decide (((i+1:Nat):Int) < (x.L.length:Int))<;>rfl
     ·rw[if_neg h80]
      obtain⟨v',w1,w2,w3⟩:=ih (i+1) n (c+v) hd' (by omega) (by omega) m
      exact⟨v',hstep _ w1,by rw[← y2];exact w2,w3⟩
    ·rw[if_pos (by omega)]
     refine⟨c+v,hstep _ ?_,.inr ⟨by omega,rfl⟩,by omega⟩
     obtain⟨n,rfl⟩:∃ j,n=j+1:=⟨n - 1,by omega⟩
     simp only[qmq,qag,Option.bind_some]
     rw[decide_eq_false (p:=((c+v:Nat):Int)≤80) (by omega),cond_false]
     cases decide (((i+1:Nat):Int) < (x.L.length:Int))<;>rfl
  exact loop x.L 0 (R+1) 1 rfl (by omega) (by omega) (R+1)
theorem c_fdf (x:MVal)(hx:x.Bd 1048576):out qwj [avV x]=some [.one (Cell.bool (qlbb x))]:=by
 obtain⟨v,z1,z2,z3⟩:=q_fdk (fuVs x.L) x (Nat.le_refl _) hx 1 (by omega) (fuVs x.L) (Nat.le_refl _)
 have e1:out qfib [avV x,.one (Cell.int 1)]=some [.one (Cell.int v)]:=qaw (qas z1)
 refine qaw (H:=[]) (qnxb 0 ?_)
 simp only[avV] at e1
 simp only[fdf,e1,EV0]
 have:decide ((v:Int)≤80)=qlbb x:=by
  unfold qlbb
  rw[decide_eq_decide]
  rcases z2 with⟨h1,h2⟩ | ⟨h1,h2⟩<;>omega
 rw[this]
def qff (v:MVal):List Str×Bool:=if v.L.all (fun x=>x.K==3) then (v.L.map (·.S),v.K==4) else ([],false)
def qgn (b:Bool):List Str→List MVal→List Str×Bool | acc,[]=>(acc,b) | acc,x::r=>if x.K==3 then qgn b (acc++[x.S]) r else ([],false)
theorem qnab (b:Bool):∀ (r:List MVal) (acc:List Str),qgn b acc r=if r.all (fun x=>x.K==3) then (acc++r.map (·.S),b) else ([],false):=by
 intro r
 induction r with
 | nil=>intro acc;simp[qgn]
 | cons x r ih=>
  intro acc
  rw[qgn,List.all_cons]
  cases h:x.K==3 with
  | true=>rw[if_pos rfl,ih,Bool.true_and];simp
  | false=>rw[if_neg (by simp),Bool.false_and,if_neg (by simp)]
theorem qfnb (v:MVal):qff v=qgn (v.K==4) [] v.L:=by rw[qnab];rfl
theorem f_fbk (v:MVal)(hv:v.Bd 1048576):Fresh qmg true 2 [avV v] [.one (trL 1 qdj (qff v).1),.one (.leaf (.bool (qff v).2))]:=by
 have hM:=qai
 obtain⟨b2,b3,b4⟩:=(bd_V v).1 hv
 have hxl:=b3.1
 have loop:∀ (r:List MVal) (i n:Nat) (acc:List Str) (c:Cell) (H:List Entry),v.L.drop i=r→r.length < n→acc.length≤i→Grow 1 c H (acc.map eStr)→∀ k m,
   ∃ c' H' ids,qaab k m n c (encL 5 MVal.enc v.L) v.L.length i v.K v.N (bs v.S) (encL 5 MVal.enc v.L) (encL 1 eStr v.Keys) H=some ([.one c',.one (Cell.bool (qgn (v.K==4) acc r).2)],H')∧Rep H' true true 2 ids c' (trL 1 qdj (qgn (v.K==4) acc r).1)∧ids.Nodup:=by
  intro r
  induction r with
  | nil=>
   intro i n acc c H hd hn ha hg k m
   obtain⟨n,rfl⟩:∃ j,n=j+1:=⟨n - 1,by omega⟩
   have:=drop_nil hd
   obtain⟨ids,r1,r2,_⟩:=hg.rep (tr:=qdj) (fun _ _=>rfl) (fun x _ H'=>Sp.leaf1 _)
   refine⟨c,H,ids,?_,r1,r2⟩
   simp only[qaab]
   rw[decide_eq_false (by omega),cond_false]
   rfl
  | cons x r ih=>
   intro i n acc c H hd hn ha hg k m
   obtain⟨n,rfl⟩:∃ j,n=j+1:=⟨n - 1,by omega⟩
   obtain⟨hlt,hx,hd'⟩:=qao hd
   simp only[List.length_cons] at hn
   simp only[qaab]
   rw[decide_eq_true (by omega),cond_true]
   simp only[qap,hx,enc_V x,qaf (show i < maxLen by omega),bne,Nat.zero_add,Nat.reduceAdd,EV0]
   rw[qgn]
   cases h:x.K==3 with
   | false=>
    rw[if_neg (by simp)]
    exact⟨_,H,[],rfl,.inl ⟨rfl,rfl,true,rfl⟩,by simp⟩
   | true=>
    rw[if_pos rfl]
    obtain⟨q,a1,a2⟩:=hg.app (by':=16) [[Cell.str (bs x.S)]] (by unfold bound;simp;omega) (by unfold bound;simp;omega)
    simp only[Bool.not_true,cond_false,a1,Option.bind_some]
    exact ih (i+1) n (acc++[x.S]) q.1 q.2 hd' (by omega) (by simp;omega) (by simpa[eStr] using a2) k m
 obtain⟨c',H',ids,z1,z2,z3⟩:=loop v.L 0 (v.L.length+1+1) [] (.lst true 1 []) [] rfl (by omega) (by simp) (Grow.nil 1) (v.L.length+1+1) (v.L.length+1+1)
 rw[qfnb]
 refine Fresh.one1 (n:=1) (qobb (v.L.length+1) ?_) z2 z3
 simp only[fbk,qag,Option.bind_some]
 exact z1
theorem f_feh (v:MVal)(hv:v.Bd 1048576):Fresh qrm true 2 [avV v] [.one (trL 1 qdj (qff v).1),.one (.leaf (.bool (qff v).2))]:=by
 have hM:=qai
 obtain⟨b2,b3,b4⟩:=(bd_V v).1 hv
 have hxl:=b3.1
 have loop:∀ (r:List MVal) (i n:Nat) (acc:List Str) (c:Cell) (H:List Entry),v.L.drop i=r→r.length < n→acc.length≤i→Grow 1 c H (acc.map eStr)→∀ k m,
   ∃ c' H' ids,qbfb k m n c i v.K v.N (bs v.S) (encL 5 MVal.enc v.L) (encL 1 eStr v.Keys) H=some ([.one c',.one (Cell.bool (qgn (v.K==4) acc r).2)],H')∧Rep H' true true 2 ids c' (trL 1 qdj (qgn (v.K==4) acc r).1)∧ids.Nodup:=by
  intro r
  induction r with
  | nil=>
   intro i n acc c H hd hn ha hg k m
   obtain⟨n,rfl⟩:∃ j,n=j+1:=⟨n - 1,by omega⟩
   have:=drop_nil hd
   obtain⟨ids,r1,r2,_⟩:=hg.rep (tr:=qdj) (fun _ _=>rfl) (fun x _ H'=>Sp.leaf1 _)
   refine⟨c,H,ids,?_,r1,r2⟩
   simp only[qbfb,qag,Option.bind_some]
   rw[decide_eq_false (by omega),cond_false]
   rfl
  | cons x r ih=>
   intro i n acc c H hd hn ha hg k m
   obtain⟨n,rfl⟩:∃ j,n=j+1:=⟨n - 1,by omega⟩
   obtain⟨hlt,hx,hd'⟩:=qao hd
   simp only[List.length_cons] at hn
   simp only[qbfb,qag,Option.bind_some]
   rw[decide_eq_true (by omega),cond_true]
   simp only[qap,hx,enc_V x,qcr,qaf (show i < maxLen by omega),bne,Nat.zero_add,Nat.reduceAdd,EV0]
   rw[qgn]
   cases h:x.K==3 with
   | false=>
    rw[if_neg (by simp)]
    exact⟨_,H,[],rfl,.inl ⟨rfl,rfl,true,rfl⟩,by simp⟩
   | true=>
    rw[if_pos rfl]
    obtain⟨q,a1,a2⟩:=hg.app (by':=16) [[Cell.str (bs x.S)]] (by unfold bound;simp;omega) (by unfold bound;simp;omega)
    simp only[Bool.not_true,cond_false,a1,Option.bind_some]
    exact ih (i+1) n (acc++[x.S]) q.1 q.2 hd' (by omega) (by simp;omega) (by simpa[eStr] using a2) k m
 obtain⟨c',H',ids,z1,z2,z3⟩:=loop v.L 0 (v.L.length+1+1) [] (.lst true 1 []) [] rfl (by omega) (by simp) (Grow.nil 1) (v.L.length+1+1) (v.L.length+1+1)
 rw[qfnb]
 refine Fresh.one1 (n:=1) (qoqb (v.L.length+1) ?_) z2 z3
 simp only[feh]
 exact z1
theorem qemb {v:MVal}(hv:v.Bd 1048576):bdL 1048576 (bdS 1048576) (qff v).1:=by
 obtain⟨b2,b3,b4⟩:=(bd_V v).1 hv
 unfold qff
 split
 ·refine⟨by simpa using b3.1,fun s hs=>?_⟩
  obtain⟨x,hx,rfl⟩:=List.mem_map.1 hs
  exact((bd_V x).1 (b3.2 x hx)).1
 ·exact⟨by simp,by simp⟩
theorem qjp {v:MVal}(h:qlbb v=true):qdz v=true:=by
 unfold qlbb at h
 rw[qilb,if_neg (by omega)] at h
 cases hp:qdz v with
 | true=>rfl
 | false=>
  rw[hp,if_neg (by simp)] at h
  simp at h
theorem qfub {v:MVal}(h:qlbb v=true)(hk:(v.K==5)=true):v.Keys.length=v.L.length:=by
 have h1:=qjp h
 have hk:v.K=5:=by simpa using hk
 unfold qdz at h1
 rw[hk] at h1
 simp only[Int.reduceBEq,cond_false,cond_true,Bool.and_eq_true,beq_iff_eq] at h1
 exact h1.2.2.1
def kName:Str:=[110,97,109,101]
def qvw:Str:=[110,101,101,100,115]
def qyu:Str:=[116,97,115,107,115]
def kUses:Str:=[117,115,101,115]
def qsp (p:Str×MVal):MNeed:=⟨p.1,p.2.S⟩
def qldb (p:Str×MVal):MCmd:=⟨p.1,(qff p.2).1⟩
def qrhb (v:MVal):List MNeed:=(v.Keys.zip v.L).map qsp
def qymc (v:MVal):List MCmd:=(v.Keys.zip v.L).map qldb
def qdw (p:MPack)(key:Str)(v:MVal):MPack×Bool:=if key==kName then ({p with Name:=v.S},v.K==3) else if key==qvw then ({p with Needs:=qrhb v},v.K==5&&v.L.all fun x=>x.K==3) else if key==qyu then ({p with Cmds:=qymc v},v.K==5&&v.L.all fun x=>(qff x).2) else if key==kUses then ({p with Uses:=(qff v).1},(qff v).2) else (p,false)
def qck:MPack→List (Str×MVal)→Option MPack | p,[]=>some p | p,(k,v)::l=>if (qdw p k v).2=true then qck (qdw p k v).1 l else none
def noPack:MPack:=⟨[],[],[],[]⟩
def endP (o:Option MPack):MPack×Bool:=match o with
 | some p=>if qqj p=true then (p,true) else (noPack,false)
 | none=>(noPack,false)
def qbq (v:MVal):MPack×Bool:=if (qlbb v&&v.K==5)=true then endP (qck noPack (v.Keys.zip v.L)) else (noPack,false)
theorem qvnb {v:MVal}(hv:v.Bd 1048576):bdL 1048576 (MNeed.Bd 1048576) (qrhb v):=by
 obtain⟨b2,b3,b4⟩:=(bd_V v).1 hv
 refine⟨by have:=b3.1;simp[qrhb];omega,fun n hn=>?_⟩
 obtain⟨p,hp,rfl⟩:=List.mem_map.1 hn
 obtain⟨h1,h2⟩:=List.of_mem_zip (show(p.1,p.2)∈v.Keys.zip v.L from hp)
 exact⟨b4.2 _ h1,((bd_V p.2).1 (b3.2 _ h2)).1⟩
theorem qhxc {v:MVal}(hv:v.Bd 1048576):bdL 1048576 (MCmd.Bd 1048576) (qymc v):=by
 obtain⟨b2,b3,b4⟩:=(bd_V v).1 hv
 refine⟨by have:=b3.1;simp[qymc];omega,fun n hn=>?_⟩
 obtain⟨p,hp,rfl⟩:=List.mem_map.1 hn
 obtain⟨h1,h2⟩:=List.of_mem_zip (show(p.1,p.2)∈v.Keys.zip v.L from hp)
 exact⟨b4.2 _ h1,qemb (b3.2 _ h2)⟩
theorem qsz {p:MPack}(hp:p.Bd 1048576)(key:Str){v:MVal}(hv:v.Bd 1048576):(qdw p key v).1.Bd 1048576:=by
 obtain⟨h0,h1,h2,h3⟩:=hp
 unfold qdw
 split
 ·exact⟨((bd_V v).1 hv).1,h1,h2,h3⟩
 ·split
  ·exact⟨h0,h1,qvnb hv,h3⟩
  ·split
   ·exact⟨h0,h1,h2,qhxc hv⟩
   ·split
    ·exact⟨h0,qemb hv,h2,h3⟩
    ·exact⟨h0,h1,h2,h3⟩
theorem qgz:noPack.Bd 1048576:=⟨by simp[noPack,bdS],⟨by simp[noPack],by simp[noPack]⟩,⟨by simp[noPack],by simp[noPack]⟩,by simp[noPack],by simp[noPack]⟩
theorem qntb:∀ {l:List (Str×MVal)} {r r':MPack},r.Bd 1048576→(∀ p∈l,p.2.Bd 1048576)→qck r l=some r'→r'.Bd 1048576:=by
 intro l
 induction l with
 | nil=>
  intro r r' hr _ h
  simp only[qck,Option.some.injEq] at h
  rw[← h]
  exact hr
 | cons p l ih=>
  intro r r' hr hl h
  obtain⟨k,v⟩:=p
  rw[qck] at h
  split at h
  ·exact ih (qsz hr k (hl (k,v) List.mem_cons_self)) (fun q hq=>hl q (List.mem_cons_of_mem _ hq)) h
  ·simp at h
theorem qqub (v:MVal)(hv:v.Bd 1048576)(hw:v.wt≤1048576):(qbq v).1.Bd 1048576:=by
 obtain⟨b2,b3,b4⟩:=(bd_V v).1 hv
 unfold qbq endP
 split
 ·split
  ·rename_i r hr
   have:=qntb (r:=noPack) qgz (fun p hp=>b3.2 p.2 (List.of_mem_zip hp).2) hr
   split
   ·exact this
   ·exact qgz
  ·exact qgz
 ·exact qgz
theorem qclb {α:Type}{c:α→Nat}{m:Nat}:∀ (xs:List α),(∀ x∈xs,c x≤m)→cntL c xs≤1+xs.length*m+xs.length:=by
 intro xs
 induction xs with
 | nil=>intro _;simp[cntL]
 | cons x xs ih=>
  intro h
  have h1:=ih fun y hy=>h y (List.mem_cons_of_mem _ hy)
  have h2:=h x List.mem_cons_self
  simp only[cntL,List.map_cons,List.sum_cons,List.length_cons,Nat.add_mul] at h1 ⊢
  omega
theorem qqpb (v:MVal)(hv:v.Bd 1048576)(hw:v.wt≤1048576):(qbq v).1.cntA≤1099511627776:=by
 have hb:=qqub v hv hw
 have hz:noPack.cntA≤1099511627776:=by simp[noPack,MPack.cntA,cntL]
 unfold qbq endP at hb ⊢
 split
 ·rename_i hvk
  rw[if_pos hvk] at hb
  split
  ·rename_i r hr
   rw[hr] at hb
   dsimp only at hb
   split
   ·rename_i ho
    rw[if_pos ho] at hb
    have hb:r.Bd 1048576:=hb
    have h1:=hb.2.1.1
    have h2:=hb.2.2.1.1
    have h3:=hb.2.2.2
    simp only[qqj,qkgb,Bool.and_eq_true,decide_eq_true_eq] at ho
    have h4:=ho.1.2
    have e1:=qclb (c:=MCmd.cntR) (m:=2097160) r.Cmds fun c hc=>by
     have:=(h3.2 c hc).2.1
     simp only[MCmd.cntR,qexb]
     omega
    have e2:=qclb (c:=MNeed.cntR) (m:=8) r.Needs fun c hc=>by simp only[MNeed.cntR];omega
    simp only[MPack.cntA,qexb]
    omega
   ·exact hz
  ·exact hz
 ·exact hz
structure PSc (H:List Entry)(nm:Str)(t1 t2 t3:Tr)(c1 c2 c3:Cell)(i1 i2 i3:List Nat):Prop where
 e0:H[0]?=some ⟨4,[[Cell.str (bs nm),c1,c2,c3]],0,false⟩
 r1:Rep H true true 3 i1 c1 t1
 r2:Rep H true true 3 i2 c2 t2
 r3:Rep H true true 3 i3 c3 t3
 n1:i1.Nodup
 n2:i2.Nodup
 n3:i3.Nodup
 d1:∀ j∈i1,j∉i2∧j∉i3∧1≤j
 d2:∀ j∈i2,j∉i3∧1≤j
 d3:∀ j∈i3,1≤j
def PS (H:List Entry)(p:MPack):Prop:=∃ c1 c2 c3 i1 i2 i3,PSc H p.Name (trL 1 qdj p.Uses) (trL 2 MNeed.tr p.Needs) (trL 2 MCmd.tr p.Cmds) c1 c2 c3 i1 i2 i3∧qgk c2∧qgk c3
def PSi (H:List Entry)(p:MPack):Prop:=∃ c1 c2 c3 i1 i2 i3,PSc H p.Name (trL 1 qdj p.Uses) (trL 2 MNeed.tr p.Needs) (trL 2 MCmd.tr p.Cmds) c1 c2 c3 i1 i2 i3
theorem qfo {H:List Entry}{e:Entry}{j:Nat}(h:1≤j):(H.set 0 e)[j]?=H[j]?:=by rw[List.getElem?_set_ne (by omega)]
theorem qggb {H:List Entry}{e e0:Entry}(h:H[0]?=some e0):(H.set 0 e)[0]?=some e:=by rw[List.getElem?_set_self (List.getElem?_eq_some_iff.1 h).1]
theorem PSc.pos {H:List Entry}{nm:Str}{t1 t2 t3:Tr}{c1 c2 c3:Cell}{i1 i2 i3:List Nat}(h:PSc H nm t1 t2 t3 c1 c2 c3 i1 i2 i3):0 < H.length:=(List.getElem?_eq_some_iff.1 h.e0).1
theorem PSc.app {H:List Entry}{nm:Str}{t1 t2 t3:Tr}{c1 c2 c3:Cell}{i1 i2 i3:List Nat}(h:PSc H nm t1 t2 t3 c1 c2 c3 i1 i2 i3)(E:List Entry):PSc (H++E) nm t1 t2 t3 c1 c2 c3 i1 i2 i3:=
 ⟨by rw[List.getElem?_append_left h.pos];exact h.e0,h.r1.app E,h.r2.app E,h.r3.app E,h.n1,h.n2,h.n3,h.d1,h.d2,h.d3⟩
theorem PS.app {H:List Entry}{p:MPack}(h:PS H p)(E:List Entry):PS (H++E) p:=by
 obtain⟨c1,c2,c3,i1,i2,i3,h,k⟩:=h
 exact⟨c1,c2,c3,i1,i2,i3,h.app E,k⟩
theorem PSi.app {H:List Entry}{p:MPack}(h:PSi H p)(E:List Entry):PSi (H++E) p:=by
 obtain⟨c1,c2,c3,i1,i2,i3,h⟩:=h
 exact⟨c1,c2,c3,i1,i2,i3,h.app E⟩
theorem PS.i {H:List Entry}{p:MPack}(h:PS H p):PSi H p:=by
 obtain⟨c1,c2,c3,i1,i2,i3,h,k⟩:=h
 exact⟨c1,c2,c3,i1,i2,i3,h⟩
theorem PSc.set0 {H:List Entry}{nm:Str}{t1 t2 t3:Tr}{c1 c2 c3:Cell}{i1 i2 i3:List Nat}(h:PSc H nm t1 t2 t3 c1 c2 c3 i1 i2 i3)(nm':Str):∃ H',qbm H (.ptr 0 4 0 0 0) [Cell.str (bs nm')]=some H'∧PSc H' nm' t1 t2 t3 c1 c2 c3 i1 i2 i3:=
 ⟨H.set 0 ⟨4,[[Cell.str (bs nm'),c1,c2,c3]],0,false⟩,by simp[qbm,entry?,h.e0,splice],qggb h.e0,h.r1.frame fun j hj=>qfo (h.d1 j hj).2.2,h.r2.frame fun j hj=>qfo (h.d2 j hj).2,h.r3.frame fun j hj=>qfo (h.d3 j hj),h.n1,h.n2,h.n3,h.d1,h.d2,h.d3⟩
theorem PSc.set1 {H H1:List Entry}{nm:Str}{t1 t2 t3 t:Tr}{c1 c2 c3 c:Cell}{i1 i2 i3 is:List Nat}(h:PSc H nm t1 t2 t3 c1 c2 c3 i1 i2 i3)(hl:H.length≤H1.length)(hf:∀ j,j < H.length→j∉i1→H1[j]?=H[j]?)(hc:Rep H1 true true 3 is c t)(hn:is.Nodup)(hi:∀ j∈is,j∈i1∨H.length≤j):
  ∃ H',qbm H1 (.ptr 0 4 0 1 0) [c]=some H'∧PSc H' nm t t2 t3 c c2 c3 is i2 i3:=by
 have hp:=h.pos
 have l2:=h.r2.lt
 have l3:=h.r3.lt
 have h0':H1[0]?=some ⟨4,[[Cell.str (bs nm),c1,c2,c3]],0,false⟩:=by rw[hf 0 hp fun h0=>by have:=(h.d1 0 h0).2.2;omega];exact h.e0
 refine⟨H1.set 0 ⟨4,[[Cell.str (bs nm),c,c2,c3]],0,false⟩,by simp[qbm,entry?,h0',splice],qggb h0',?_,?_,?_,hn,h.n2,h.n3,?_,h.d2,h.d3⟩
 ·exact hc.frame fun j hj=>qfo (by
   rcases hi j hj with h1 | h1
   ·exact(h.d1 j h1).2.2
   ·omega)
 ·exact h.r2.frame fun j hj=>by rw[qfo (h.d2 j hj).2];exact hf j (l2 j hj) fun h1=>(h.d1 j h1).1 hj
 ·exact h.r3.frame fun j hj=>by rw[qfo (h.d3 j hj)];exact hf j (l3 j hj) fun h1=>(h.d1 j h1).2.1 hj
 ·intro j hj
  rcases hi j hj with h1 | h1
  ·exact h.d1 j h1
  ·exact⟨fun h2=>by have:=l2 j h2;omega,fun h2=>by have:=l3 j h2;omega,by omega⟩
theorem PSc.set2 {H H1:List Entry}{nm:Str}{t1 t2 t3 t:Tr}{c1 c2 c3 c:Cell}{i1 i2 i3 is:List Nat}(h:PSc H nm t1 t2 t3 c1 c2 c3 i1 i2 i3)(hl:H.length≤H1.length)(hf:∀ j,j < H.length→j∉i2→H1[j]?=H[j]?)(hc:Rep H1 true true 3 is c t)(hn:is.Nodup)(hi:∀ j∈is,j∈i2∨H.length≤j):
  ∃ H',qbm H1 (.ptr 0 4 0 2 0) [c]=some H'∧PSc H' nm t1 t t3 c1 c c3 i1 is i3:=by
 have hp:=h.pos
 have l1:=h.r1.lt
 have l3:=h.r3.lt
 have h0':H1[0]?=some ⟨4,[[Cell.str (bs nm),c1,c2,c3]],0,false⟩:=by rw[hf 0 hp fun h0=>by have:=(h.d2 0 h0).2;omega];exact h.e0
 refine⟨H1.set 0 ⟨4,[[Cell.str (bs nm),c1,c,c3]],0,false⟩,by simp[qbm,entry?,h0',splice],qggb h0',?_,?_,?_,h.n1,hn,h.n3,?_,?_,h.d3⟩
 ·exact h.r1.frame fun j hj=>by rw[qfo (h.d1 j hj).2.2];exact hf j (l1 j hj) fun h1=>(h.d1 j hj).1 h1
 ·exact hc.frame fun j hj=>qfo (by
   rcases hi j hj with h1 | h1
   ·exact(h.d2 j h1).2
   ·omega)
 ·exact h.r3.frame fun j hj=>by rw[qfo (h.d3 j hj)];exact hf j (l3 j hj) fun h1=>(h.d2 j h1).1 hj
 ·exact fun j hj=>⟨fun h1=>by
   rcases hi j h1 with h2 | h2
   ·exact(h.d1 j hj).1 h2
   ·have:=l1 j hj;omega,(h.d1 j hj).2⟩
 ·intro j hj
  rcases hi j hj with h1 | h1
  ·exact h.d2 j h1
  ·exact⟨fun h2=>by have:=l3 j h2;omega,by omega⟩
theorem PSc.set3 {H H1:List Entry}{nm:Str}{t1 t2 t3 t:Tr}{c1 c2 c3 c:Cell}{i1 i2 i3 is:List Nat}(h:PSc H nm t1 t2 t3 c1 c2 c3 i1 i2 i3)(hl:H.length≤H1.length)(hf:∀ j,j < H.length→j∉i3→H1[j]?=H[j]?)(hc:Rep H1 true true 3 is c t)(hn:is.Nodup)(hi:∀ j∈is,j∈i3∨H.length≤j):
  ∃ H',qbm H1 (.ptr 0 4 0 3 0) [c]=some H'∧PSc H' nm t1 t2 t c1 c2 c i1 i2 is:=by
 have hp:=h.pos
 have l1:=h.r1.lt
 have l2:=h.r2.lt
 have h0':H1[0]?=some ⟨4,[[Cell.str (bs nm),c1,c2,c3]],0,false⟩:=by rw[hf 0 hp fun h0=>by have:=h.d3 0 h0;omega];exact h.e0
 refine⟨H1.set 0 ⟨4,[[Cell.str (bs nm),c1,c2,c]],0,false⟩,by simp[qbm,entry?,h0',splice],qggb h0',?_,?_,?_,h.n1,h.n2,hn,?_,?_,?_⟩
 ·exact h.r1.frame fun j hj=>by rw[qfo (h.d1 j hj).2.2];exact hf j (l1 j hj) fun h1=>(h.d1 j hj).2.1 h1
 ·exact h.r2.frame fun j hj=>by rw[qfo (h.d2 j hj).2];exact hf j (l2 j hj) fun h1=>(h.d2 j hj).1 h1
 ·exact hc.frame fun j hj=>qfo (by
   rcases hi j hj with h1 | h1
   ·exact h.d3 j h1
   ·omega)
 ·exact fun j hj=>⟨(h.d1 j hj).1,fun h1=>by
   rcases hi j h1 with h2 | h2
   ·exact(h.d1 j hj).2.1 h2
   ·have:=l1 j hj;omega,(h.d1 j hj).2.2⟩
 ·exact fun j hj=>⟨fun h1=>by
   rcases hi j h1 with h2 | h2
   ·exact(h.d2 j hj).1 h2
   ·have:=l2 j hj;omega,(h.d2 j hj).2⟩
 ·intro j hj
  rcases hi j hj with h1 | h1
  ·exact h.d3 j h1
  ·omega
theorem PSi.cells {H:List Entry}{p:MPack}(h:PSi H p):∃ c1 c2 c3 ids,deref H (.ptr 0 4 0 0 0)=some ([Cell.str (bs p.Name),c1,c2,c3],0)∧Sp (Rep H true true 3) ids [Cell.str (bs p.Name),c1,c2,c3] p.tr∧ids.Nodup∧
  qam false H (.agg [Cell.str (bs p.Name),c1,c2,c3])=some (.agg [Cell.str (bs p.Name),qbu p.Uses,encL 2 MNeed.enc p.Needs,encL 2 MCmd.enc p.Cmds]):=by
 obtain⟨c1,c2,c3,i1,i2,i3,h⟩:=h
 have hs:Sp (Rep H true true 3) (i1++(i2++(i3++[]))) [Cell.str (bs p.Name),c1,c2,c3] p.tr:=by
  simp only[MPack.tr]
  exact .cons (i:=[]) ⟨rfl,rfl⟩ (.cons h.r1 (.cons h.r2 (.cons h.r3 .nil)))
 refine⟨c1,c2,c3,_,by simp[deref,entry?,h.e0],hs,?_,?_⟩
 ·rw[List.append_nil,List.nodup_append,List.nodup_append]
  refine⟨h.n1,⟨h.n2,h.n3,fun a ha b hb e=>?_⟩,fun a ha b hb e=>?_⟩
  ·subst e
   exact(h.d2 a ha).1 hb
  ·subst e
   rcases List.mem_append.1 hb with hb | hb
   ·exact(h.d1 a ha).1 hb
   ·exact(h.d1 a ha).2.1 hb
 ·have:=qch hs (by omega)
  simpa only[MPack.tr,List.map_cons,List.map_nil,qbl,qbs] using this
theorem PS.start:PS [Entry.mk 4 [[Cell.str (bs []),.lst true 1 [],.lst true 2 [],.lst true 2 []]] 0 false] noPack:=
 ⟨.lst true 1 [],.lst true 2 [],.lst true 2 [],[],[],[],⟨rfl,.inl ⟨rfl,rfl,true,rfl⟩,.inl ⟨rfl,rfl,true,rfl⟩,.inl ⟨rfl,rfl,true,rfl⟩,by simp,by simp,by simp,by simp,by simp,by simp⟩,qcn 2,qcn 2⟩
theorem qtm (H:List Entry):Sp (Rep H true true 3) [] [Cell.str (bs []),.lst true 1 [],.lst true 2 [],.lst true 2 []] noPack.tr:=by
 simp only[noPack,MPack.tr]
 exact .cons (i:=[]) (is:=[]) ⟨rfl,rfl⟩ (.cons (i:=[]) (is:=[]) (.inl ⟨rfl,rfl,true,rfl⟩) (.cons (i:=[]) (is:=[]) (.inl ⟨rfl,rfl,true,rfl⟩) (.cons (i:=[]) (is:=[]) (.inl ⟨rfl,rfl,true,rfl⟩) .nil)))
theorem qbjb:∀ (xs:List MVal) (d n:Nat),measVs xs d n≤80→∀ x∈xs,qdz x=true:=by
 intro xs
 induction xs with
 | nil=>intro d n _ x hx;simp at hx
 | cons y xs ih=>
  intro d n h x hx
  rw[measVs] at h
  split at h
  ·omega
  ·rename_i h1
   rcases List.mem_cons.1 hx with rfl | hx
   ·rw[qilb] at h1
    split at h1
    ·omega
    ·split at h1
     ·assumption
     ·omega
   ·exact ih d _ h x hx
theorem qqw {v:MVal}(h:qlbb v=true):∀ x∈v.L,qdz x=true:=by
 have h1:=qjp h
 unfold qlbb at h
 rw[qilb,if_neg (by omega),if_pos h1] at h
 exact qbjb _ _ _ (by simpa using h)
theorem qfi {v:MVal}(h1:qdz v=true)(hk:(v.K==5)=true):v.Keys.length=v.L.length∧asc v.Keys=true:=by
 have hk:v.K=5:=by simpa using hk
 unfold qdz at h1
 rw[hk] at h1
 simp only[Int.reduceBEq,cond_false,cond_true,Bool.and_eq_true,beq_iff_eq] at h1
 exact⟨h1.2.2.1,h1.2.2.2.1⟩
theorem qyub:∀ (l:List Str),asc l=true→l.Nodup∧∀ a r,l=a::r→∀ b∈r,a < b:=by
 intro l
 induction l with
 | nil=>intro _;exact⟨by simp,fun a r h=>by simp at h⟩
 | cons a l ih=>
  intro h
  have h2:asc l=true∧∀ b∈l,a < b:=by
   cases l with
   | nil=>exact⟨rfl,by simp⟩
   | cons b r=>
    rw[asc,Bool.and_eq_true] at h
    have hab:=(lt_iff a b).1 h.1
    refine⟨h.2,fun x hx=>?_⟩
    rcases List.mem_cons.1 hx with rfl | hx
    ·exact hab
    ·exact List.lt_trans hab ((ih h.2).2 b r rfl x hx)
  refine⟨List.nodup_cons.2 ⟨fun hm=>List.lt_irrefl _ (h2.2 a hm),(ih h2.1).1⟩,fun a' r e=>?_⟩
  simp only[List.cons.injEq] at e
  rw[← e.1,← e.2]
  exact h2.2
theorem qgx {ks:List Str}{vs:List MVal}{i:Nat}(h:ks.length=vs.length)(hlt:i < ks.length):∃ k v,ks[i]?=some k∧vs[i]?=some v∧(ks.zip vs).drop i=(k,v)::(ks.zip vs).drop (i+1)∧(ks.zip vs).take (i+1)=(ks.zip vs).take i++[(k,v)]:=by
 have h2:i < vs.length:=by omega
 refine⟨ks[i],vs[i],List.getElem?_eq_getElem hlt,List.getElem?_eq_getElem h2,?_,?_⟩
 ·rw[List.drop_eq_getElem_cons (by rw[List.length_zip];omega),List.getElem_zip]
 ·rw[← List.take_append_getElem (by rw[List.length_zip];omega),List.getElem_zip]
theorem quw (id sz idx off ep:Nat):ptrC (.ptr id sz idx off ep)=some (.ptr id sz idx off ep):=rfl
theorem qdo (v:MVal):out qib [.agg [Cell.int v.K,Cell.int v.N,Cell.str (bs v.S),encL 5 MVal.enc v.L,encL 1 eStr v.Keys]]=some [.one (Cell.bool (v.K==5&&v.L.length==v.Keys.length))]:=by
 refine qaw (H:=[]) (qpyb 0 ?_)
 simp only[fak,qag,Option.bind_some,qil]
 cases v.K==5<;>rfl
def goN:List MNeed→List (Str×MVal)→List MNeed×Bool | acc,[]=>(acc,true) | acc,p::r=>if p.2.K==3 then goN (acc++[qsp p]) r else ([],false)
theorem goN_eq:∀ (r:List (Str×MVal)) (acc:List MNeed),goN acc r=if r.all (fun p=>p.2.K==3) then (acc++r.map qsp,true) else ([],false):=by
 intro r
 induction r with
 | nil=>intro acc;simp[goN]
 | cons x r ih=>
  intro acc
  rw[goN,List.all_cons]
  cases h:x.2.K==3 with
  | true=>rw[if_pos rfl,ih,Bool.true_and];simp
  | false=>rw[if_neg (by simp),Bool.false_and,if_neg (by simp)]
def goC:List MCmd→List (Str×MVal)→List MCmd×Bool | acc,[]=>(acc,true) | acc,p::r=>if (qff p.2).2=true then goC (acc++[qldb p]) r else ([],false)
theorem goC_eq:∀ (r:List (Str×MVal)) (acc:List MCmd),goC acc r=if r.all (fun p=>(qff p.2).2) then (acc++r.map qldb,true) else ([],false):=by
 intro r
 induction r with
 | nil=>intro acc;simp[goC]
 | cons x r ih=>
  intro acc
  rw[goC,List.all_cons]
  cases h:(qff x.2).2 with
  | true=>rw[if_pos rfl,ih,Bool.true_and];simp
  | false=>rw[if_neg (by simp),Bool.false_and,if_neg (by simp)]
theorem qefc {q:MVal→Bool}:∀ {ks:List Str} {vs:List MVal},ks.length=vs.length→(ks.zip vs).all (fun p=>q p.2)=vs.all q:=by
 intro ks
 induction ks with
 | nil=>intro vs h;cases vs with
  | nil=>rfl
  | cons v vs=>simp at h
 | cons k ks ih=>intro vs h;cases vs with
  | nil=>simp at h
  | cons v vs=>rw[List.zip_cons_cons,List.all_cons,List.all_cons,ih (by simpa using h)]
def qkr (v:MVal):List MNeed×Bool:=if v.K==5 then goN [] (v.Keys.zip v.L) else ([],false)
def qlcb (v:MVal):List MCmd×Bool:=if v.K==5 then goC [] (v.Keys.zip v.L) else ([],false)
theorem qenb {v:MVal}(hp:qdz v=true):(qkr v).2=(v.K==5&&v.L.all fun x=>x.K==3)∧((qkr v).2=true→(qkr v).1=qrhb v):=by
 unfold qkr
 cases hk:v.K==5 with
 | false=>rw[if_neg (by simp)];exact⟨rfl,fun h=>by simp at h⟩
 | true=>
  rw[if_pos rfl,goN_eq,qefc (q:=fun x=>x.K==3) (qfi hp hk).1,Bool.true_and]
  cases hv:v.L.all fun x=>x.K==3 with
  | false=>exact⟨rfl,fun h=>by simp at h⟩
  | true=>exact⟨rfl,fun _=>by simp[qrhb]⟩
theorem qqob {v:MVal}(hp:qdz v=true):(qlcb v).2=(v.K==5&&v.L.all fun x=>(qff x).2)∧((qlcb v).2=true→(qlcb v).1=qymc v):=by
 unfold qlcb
 cases hk:v.K==5 with
 | false=>rw[if_neg (by simp)];exact⟨rfl,fun h=>by simp at h⟩
 | true=>
  rw[if_pos rfl,goC_eq,qefc (q:=fun x=>(qff x).2) (qfi hp hk).1,Bool.true_and]
  cases hv:v.L.all fun x=>(qff x).2 with
  | false=>exact⟨rfl,fun h=>by simp at h⟩
  | true=>exact⟨rfl,fun _=>by simp[qymc]⟩
theorem f_fbf (v:MVal)(hv:v.Bd 1048576)(hp:qdz v=true):Fresh qup true 2 [avV v] [.one (trL 2 MNeed.tr (qkr v).1),.one (.leaf (.bool (qkr v).2))]:=by
 have hM:=qai
 obtain⟨b2,b3,b4⟩:=(bd_V v).1 hv
 have hkl:=b4.1
 have em:=qdo v
 cases hk:v.K==5 with
 | false=>
  rw[hk,Bool.false_and] at em
  have e:qkr v=([],false):=by unfold qkr;rw[hk,if_neg (by simp)]
  rw[e]
  refine Fresh.one1 (n:=1) (ids:=[]) (H:=[]) (qyz 0 ?_) (.inl ⟨rfl,rfl,true,rfl⟩) (by simp)
  simp only[fbf,em,Bool.not_false,EV0]
 | true=>
  have hl:=(qfi hp hk).1
  rw[hk,Bool.true_and,show(v.L.length==v.Keys.length)=true by simp[hl]] at em
  have e:qkr v=goN [] (v.Keys.zip v.L):=by unfold qkr;rw[hk,if_pos rfl]
  rw[e]
  have loop:∀ (d i n:Nat) (acc:List MNeed) (c:Cell) (H:List Entry),i+d=v.Keys.length→d < n→acc.length≤i→Grow 2 c H (acc.map MNeed.enc)→∀ k m,
    ∃ c' H' ids,qbrb k m n c (encL 1 eStr v.Keys) v.Keys.length i v.K v.N (bs v.S) (encL 5 MVal.enc v.L) (encL 1 eStr v.Keys) H=some ([.one c',.one (Cell.bool (goN acc ((v.Keys.zip v.L).drop i)).2)],H')∧Rep H' true true 2 ids c' (trL 2 MNeed.tr (goN acc ((v.Keys.zip v.L).drop i)).1)∧ids.Nodup:=by
   intro d
   induction d with
   | zero=>
    intro i n acc c H hi hn ha hg k m
    obtain⟨n,rfl⟩:∃ j,n=j+1:=⟨n - 1,by omega⟩
    have hd:(v.Keys.zip v.L).drop i=[]:=List.drop_eq_nil_of_le (by rw[List.length_zip];omega)
    obtain⟨ids,r1,r2,_⟩:=hg.rep (tr:=MNeed.tr) (fun _ _=>rfl) (fun x _ H'=>by
     unfold MNeed.tr MNeed.enc
     exact .cons (i:=[]) (is:=[]) ⟨rfl,rfl⟩ (Sp.leaf1 _))
    rw[hd,goN]
    refine⟨c,H,ids,?_,r1,r2⟩
    simp only[qbrb]
    rw[decide_eq_false (by omega),cond_false]
   | succ d ih=>
    intro i n acc c H hi hn ha hg k m
    obtain⟨n,rfl⟩:∃ j,n=j+1:=⟨n - 1,by omega⟩
    obtain⟨key,x,z1,z2,z3,_⟩:=qgx (i:=i) hl (by omega)
    rw[z3,goN]
    simp only[qbrb]
    rw[decide_eq_true (by omega),cond_true]
    simp only[qap,z1,z2,eStr,enc_V x,qcr,qaf (show i < maxLen by omega),bne,Nat.zero_add,Nat.reduceAdd,EV0]
    cases h:x.K==3 with
    | false=>
     rw[if_neg (by simp)]
     exact⟨_,H,[],rfl,.inl ⟨rfl,rfl,true,rfl⟩,by simp⟩
    | true=>
     rw[if_pos rfl]
     obtain⟨q,a1,a2⟩:=hg.app (by':=32) [[Cell.str (bs key),Cell.str (bs x.S)]] (by unfold bound;simp;omega) (by unfold bound;simp;omega)
     simp only[Bool.not_true,cond_false,a1,Option.bind_some]
     exact ih (i+1) n (acc++[qsp (key,x)]) q.1 q.2 (by omega) (by omega) (by simp;omega) (by simpa[qsp,MNeed.enc] using a2) k m
  obtain⟨c',H',ids,z1,z2,z3⟩:=loop v.Keys.length 0 (v.Keys.length+1+1) [] (.lst true 2 []) [] (by omega) (by omega) (by simp) (Grow.nil 2) (v.Keys.length+1+1) (v.Keys.length+1+1)
  rw[List.drop_zero] at z1 z2
  refine Fresh.one1 (n:=1) (qyz (v.Keys.length+1) ?_) z2 z3
  simp only[fbf,em,qag,Bool.not_true,EV0]
  exact z1
theorem qpfb (G:List Entry)(row:List Cell):qcy (G++[Entry.mk 2 [row] 0 false]) 2 (.vs G.length 2 0 1 0)=some [row]:=by simp[qcy,rowsOf,entry?]
theorem f_fas (v:MVal)(hv:v.Bd 1048576)(hp:qdz v=true):Fresh qxf true 3 [avV v] [.one (trL 2 MCmd.tr (qlcb v).1),.one (.leaf (.bool (qlcb v).2))]:=by
 have hM:=qai
 obtain⟨b2,b3,b4⟩:=(bd_V v).1 hv
 have hkl:=b4.1
 have em:=qdo v
 cases hk:v.K==5 with
 | false=>
  rw[hk,Bool.false_and] at em
  have e:qlcb v=([],false):=by unfold qlcb;rw[hk,if_neg (by simp)]
  rw[e]
  refine Fresh.one1 (n:=2) (ids:=[]) (H:=[]) (quc 0 ?_) (.inl ⟨rfl,rfl,true,rfl⟩) (by simp)
  simp only[fas,em,Bool.not_false,EV0]
 | true=>
  have hl:=(qfi hp hk).1
  rw[hk,Bool.true_and,show(v.L.length==v.Keys.length)=true by simp[hl]] at em
  have e:qlcb v=goC [] (v.Keys.zip v.L):=by unfold qlcb;rw[hk,if_pos rfl]
  rw[e]
  have loop:∀ (d i n:Nat) (acc:List MCmd) (c:Cell) (H:List Entry) (ids:List Nat),i+d=v.Keys.length→d < n→acc.length≤i→Rep H true true 3 ids c (trL 2 MCmd.tr acc)→qgk c→ids.Nodup→∀ k m,
    ∃ c' H' ids',qaob k m n c (encL 1 eStr v.Keys) v.Keys.length i v.K v.N (bs v.S) (encL 5 MVal.enc v.L) (encL 1 eStr v.Keys) H=some ([.one c',.one (Cell.bool (goC acc ((v.Keys.zip v.L).drop i)).2)],H')∧Rep H' true true 3 ids' c' (trL 2 MCmd.tr (goC acc ((v.Keys.zip v.L).drop i)).1)∧ids'.Nodup:=by
   intro d
   induction d with
   | zero=>
    intro i n acc c H ids hi hn ha hrep hnl hnd k m
    obtain⟨n,rfl⟩:∃ j,n=j+1:=⟨n - 1,by omega⟩
    have hd:(v.Keys.zip v.L).drop i=[]:=List.drop_eq_nil_of_le (by rw[List.length_zip];omega)
    rw[hd,goC]
    refine⟨c,H,ids,?_,hrep,hnd⟩
    simp only[qaob]
    rw[decide_eq_false (by omega),cond_false]
   | succ d ih=>
    intro i n acc c H ids hi hn ha hrep hnl hnd k m
    obtain⟨n,rfl⟩:∃ j,n=j+1:=⟨n - 1,by omega⟩
    obtain⟨key,x,z1,z2,z3,_⟩:=qgx (i:=i) hl (by omega)
    have hxb:=b3.2 x (List.mem_of_getElem? z2)
    obtain⟨c2,E,i2,e2,r2,w2,_⟩:=qqt (f_fbk x hxb) H (qau [avV x] _ _)
    simp only[avV] at e2
    rw[z3,goC]
    simp only[qaob]
    rw[decide_eq_true (by omega),cond_true]
    simp only[qap,z1,z2,eStr,enc_V x,qaf (show i < maxLen by omega),Nat.zero_add,Nat.reduceAdd,EV0]
    simp only[e2,EV0]
    cases h:(qff x).2 with
    | false=>
     rw[if_neg (by simp)]
     exact⟨_,H++E,[],rfl,.inl ⟨rfl,rfl,true,rfl⟩,by simp⟩
    | true=>
     rw[if_pos rfl]
     have rA:=(hrep.app E).app [Entry.mk 2 [[Cell.str (bs key),c2]] 0 false]
     have rC:Sp (Rep (H++E++[Entry.mk 2 [[Cell.str (bs key),c2]] 0 false]) true true 2) (i2++[]) [Cell.str (bs key),c2] (qldb (key,x)).tr:=by
      unfold MCmd.tr
      exact Sp.cons (i:=[]) ⟨rfl,rfl⟩ (.cons (r2.app _) .nil)
     obtain⟨d',H',ids',a1,r3,nl3,nd3,_⟩:=rA.append (by':=40) (ys:=[[Cell.str (bs key),c2]]) (tys:=[(qldb (key,x)).tr]) (js:=(i2++[])++[]) hnl hnd (Sp.cons rC .nil) (by simp) (by simpa using w2.nd) (fun j hj h=>by
      have h1:=hrep.lt j hj
      have h2:=w2.lo j (by simpa using h)
      omega) (by simp[bound];omega) (by simp[bound];omega)
     simp only[Bool.not_true,cond_false,qpfb,a1,Option.bind_some]
     have hr3:Rep H' true true 3 ids' d' (trL 2 MCmd.tr (acc++[qldb (key,x)])):=by
      rw[trL,List.map_append]
      exact r3
     exact ih (i+1) n (acc++[qldb (key,x)]) d' H' ids' (by omega) (by omega) (by simp;omega) hr3 nl3 nd3 k m
  obtain⟨c',H',ids,z1,z2,z3⟩:=loop v.Keys.length 0 (v.Keys.length+1+1) [] (.lst true 2 []) [] [] (by omega) (by omega) (by simp) (.inl ⟨rfl,rfl,true,rfl⟩) (qcn 2) (by simp) (v.Keys.length+1+1) (v.Keys.length+1+1)
  rw[List.drop_zero] at z1 z2
  refine Fresh.one1 (n:=2) (quc (v.Keys.length+1) ?_) z2 z3
  simp only[fas,em,qag,Bool.not_true,EV0]
  exact z1
theorem r_fae {H:List Entry}{p:MPack}(h:PSi H p)(key:Str)(v:MVal)(hv:v.Bd 1048576)(hp:qdz v=true):∃ H',qus [.one (.ptr 0 4 0 0 0),.one (Cell.str (bs key)),avV v] H=some ([.one (Cell.bool (qdw p key v).2)],H')∧((qdw p key v).2=true→PSi H' (qdw p key v).1):=by
 have ef:∀ f,fldA (.ptr 0 4 0 0 0) f=some (.ptr 0 4 0 f 0):=fun f=>by rw[qfg,Nat.zero_add]
 obtain⟨c1,c2,c3,i1,i2,i3,hs⟩:=h
 unfold qdw
 cases k1:key==kName with
 | true=>
  obtain⟨H',s1,s2⟩:=hs.set0 v.S
  refine⟨H',qgl 0 ?_,fun _=>⟨_,_,_,_,_,_,s2⟩⟩
  have k1:(key==([110,97,109,101]:Str))=true:=k1
  simp only[fae,qbf,k1,quw,ef,s1,EV0]
  rfl
 | false=>
  have k1':(key==([110,97,109,101]:Str))=false:=k1
  cases k2:key==qvw with
  | true=>
   obtain⟨n1,n2⟩:=qenb hp
   obtain⟨c,E,is,e1,r1,w1,_⟩:=qqt (f_fbf v hv hp) H (qau [avV v] _ _)
   simp only[avV] at e1
   obtain⟨H',s1,s2⟩:=hs.set2 (H1:=H++E) (by simp) (fun j hj _=>List.getElem?_append_left hj) (r1.more (by omega)) w1.nd (fun j hj=>.inr (w1.lo j hj))
   refine⟨H',qgl 0 ?_,fun hh=>?_⟩
   ·have k2:(key==([110,101,101,100,115]:Str))=true:=k2
    simp only[fae,qbf,k1',k2,e1,quw,ef,s1,EV0]
    rw[n1]
    rfl
   ·have hh:(v.K==5&&v.L.all fun x=>x.K==3)=true:=hh
    rw[← n1] at hh
    rw[n2 hh] at s2
    exact⟨_,_,_,_,_,_,s2⟩
  | false=>
   have k2':(key==([110,101,101,100,115]:Str))=false:=k2
   cases k3:key==qyu with
   | true=>
    obtain⟨n1,n2⟩:=qqob hp
    obtain⟨c,E,is,e1,r1,w1,_⟩:=qqt (f_fas v hv hp) H (qau [avV v] _ _)
    simp only[avV] at e1
    obtain⟨H',s1,s2⟩:=hs.set3 (H1:=H++E) (by simp) (fun j hj _=>List.getElem?_append_left hj) r1 w1.nd (fun j hj=>.inr (w1.lo j hj))
    refine⟨H',qgl 0 ?_,fun hh=>?_⟩
    ·have k3:(key==([116,97,115,107,115]:Str))=true:=k3
     simp only[fae,qbf,k1',k2',k3,e1,quw,ef,s1,EV0]
     rw[n1]
     rfl
    ·have hh:(v.K==5&&v.L.all fun x=>(qff x).2)=true:=hh
     rw[← n1] at hh
     rw[n2 hh] at s2
     exact⟨_,_,_,_,_,_,s2⟩
   | false=>
    have k3':(key==([116,97,115,107,115]:Str))=false:=k3
    cases k4:key==kUses with
    | true=>
     obtain⟨c,E,is,e1,r1,w1,_⟩:=qqt (f_fbk v hv) H (qau [avV v] _ _)
     simp only[avV] at e1
     obtain⟨H',s1,s2⟩:=hs.set1 (H1:=H++E) (by simp) (fun j hj _=>List.getElem?_append_left hj) (r1.more (by omega)) w1.nd (fun j hj=>.inr (w1.lo j hj))
     refine⟨H',qgl 0 ?_,fun _=>⟨_,_,_,_,_,_,s2⟩⟩
     have k4:(key==([117,115,101,115]:Str))=true:=k4
     simp only[fae,qbf,k1',k2',k3',k4,e1,quw,ef,s1,EV0]
     rfl
    | false=>
     have k4':(key==([117,115,101,115]:Str))=false:=k4
     refine⟨H,qgl 0 ?_,fun hh=>by simp at hh⟩
     simp only[fae,qbf,k1',k2',k3',k4',EV0]
     rfl
theorem qqfb (a:Cell):eqC a a=true:=by unfold eqC;simp
theorem PSc.at' {H:List Entry}{nm:Str}{t1 t2 t3:Tr}{c1 c2 c3:Cell}{i1 i2 i3:List Nat}(h:PSc H nm t1 t2 t3 c1 c2 c3 i1 i2 i3)(f:Nat):deref H (.ptr 0 4 0 f 0)=some ([Cell.str (bs nm),c1,c2,c3],f):=by simp[deref,entry?,h.e0]
theorem qbkb {p:MPack}{v:MVal}(hv:v.Bd 1048576)(hp:qdz v=true)(hk:(v.K==5)=true):∀ (d i n:Nat) (acc:List MNeed) (H:List Entry),i+d=v.L.length→d < n→acc.length≤i→PS H {p with Needs:=acc}→∀ k m,
  ∃ H',qxr k m n (.ptr 0 4 0 0 0) i v.K v.N (bs v.S) (encL 5 MVal.enc v.L) (encL 1 eStr v.Keys) H=some ([.one (Cell.bool (goN acc ((v.Keys.zip v.L).drop i)).2)],H')∧((goN acc ((v.Keys.zip v.L).drop i)).2=true→PS H' {p with Needs:=(goN acc ((v.Keys.zip v.L).drop i)).1}):=by
 have hM:=qai
 obtain⟨b2,b3,b4⟩:=(bd_V v).1 hv
 have hll:=b3.1
 have hl:=(qfi hp hk).1
 have ef:∀ f,fldA (.ptr 0 4 0 0 0) f=some (.ptr 0 4 0 f 0):=fun f=>by rw[qfg,Nat.zero_add]
 intro d
 induction d with
 | zero=>
  intro i n acc H hi hn ha hs k m
  obtain⟨n,rfl⟩:∃ j,n=j+1:=⟨n - 1,by omega⟩
  have hd:(v.Keys.zip v.L).drop i=[]:=List.drop_eq_nil_of_le (by rw[List.length_zip];omega)
  rw[hd,goN]
  refine⟨H,?_,fun _=>hs⟩
  simp only[qxr,qag,Option.bind_some,hk]
  rw[decide_eq_false (by omega),cond_false]
 | succ d ih=>
  intro i n acc H hi hn ha hs k m
  obtain⟨n,rfl⟩:∃ j,n=j+1:=⟨n - 1,by omega⟩
  obtain⟨key,x,z1,z2,z3,_⟩:=qgx (i:=i) hl (by omega)
  rw[z3,goN]
  obtain⟨c1,c2,c3,i1,i2,i3,hc,nl2,nl3⟩:=hs
  have hA:=hc.app [Entry.mk 2 [[Cell.str (bs key),Cell.str (bs x.S)]] 0 false]
  simp only[qxr,qag,Option.bind_some]
  rw[decide_eq_true (by omega),cond_true,hk,cond_true]
  simp only[qap,z1,z2,eStr,enc_V x,qcr,quw,ef,hc.at',qaf (show i < maxLen by omega),bne,Nat.zero_add,Nat.reduceAdd,EV0]
  cases h:x.K==3 with
  | false=>
   rw[if_neg (by simp)]
   exact⟨H,rfl,fun hh=>by simp at hh⟩
  | true=>
   rw[if_pos rfl]
   have rC:Sp (Rep (H++[Entry.mk 2 [[Cell.str (bs key),Cell.str (bs x.S)]] 0 false]) true true 2) ([]:List Nat) [Cell.str (bs key),Cell.str (bs x.S)] (qsp (key,x)).tr:=by
    unfold MNeed.tr
    exact Sp.cons (i:=[]) (is:=[]) ⟨rfl,rfl⟩ (Sp.leaf1 _)
   obtain⟨d',H',ids',a1,r3,nl,nd,g3,l3,k3,_⟩:=hA.r2.append (by':=32) (ys:=[[Cell.str (bs key),Cell.str (bs x.S)]]) (tys:=[(qsp (key,x)).tr]) (js:=[]) nl2 hA.n2 (Sp.cons (i:=[]) (is:=[]) rC .nil) (by simp) (by simp) (by simp) (by simp[bound];omega) (by simp[bound];omega)
   have hr3:Rep H' true true 3 ids' d' (trL 2 MNeed.tr (acc++[qsp (key,x)])):=by
    rw[trL,List.map_append]
    exact r3
   obtain⟨H2,s1,s2⟩:=hA.set2 l3 k3 hr3 nd (fun j hj=>by
    rcases g3 j hj with h | h | h
    ·exact .inl h
    ·simp at h
    ·exact .inr (by omega))
   simp only[Bool.not_true,cond_false,qpfb,a1,s1,hA.at',qqfb,EV0]
   exact ih (i+1) n (acc++[qsp (key,x)]) H2 (by omega) (by omega) (by simp;omega) ⟨_,_,_,_,_,_,s2,nl,nl3⟩ k m
theorem qkxb {p:MPack}{v:MVal}(hv:v.Bd 1048576)(hp:qdz v=true)(hk:(v.K==5)=true):∀ (d i n:Nat) (acc:List MCmd) (H:List Entry),i+d=v.L.length→d < n→acc.length≤i→PS H {p with Cmds:=acc}→∀ k m,
  ∃ H',qwh k m n (.ptr 0 4 0 0 0) i v.K v.N (bs v.S) (encL 5 MVal.enc v.L) (encL 1 eStr v.Keys) H=some ([.one (Cell.bool (goC acc ((v.Keys.zip v.L).drop i)).2)],H')∧((goC acc ((v.Keys.zip v.L).drop i)).2=true→PS H' {p with Cmds:=(goC acc ((v.Keys.zip v.L).drop i)).1}):=by
 have hM:=qai
 obtain⟨b2,b3,b4⟩:=(bd_V v).1 hv
 have hll:=b3.1
 have hl:=(qfi hp hk).1
 have ef:∀ f,fldA (.ptr 0 4 0 0 0) f=some (.ptr 0 4 0 f 0):=fun f=>by rw[qfg,Nat.zero_add]
 intro d
 induction d with
 | zero=>
  intro i n acc H hi hn ha hs k m
  obtain⟨n,rfl⟩:∃ j,n=j+1:=⟨n - 1,by omega⟩
  have hd:(v.Keys.zip v.L).drop i=[]:=List.drop_eq_nil_of_le (by rw[List.length_zip];omega)
  rw[hd,goC]
  refine⟨H,?_,fun _=>hs⟩
  simp only[qwh,qag,Option.bind_some,hk]
  rw[decide_eq_false (by omega),cond_false]
 | succ d ih=>
  intro i n acc H hi hn ha hs k m
  obtain⟨n,rfl⟩:∃ j,n=j+1:=⟨n - 1,by omega⟩
  obtain⟨key,x,z1,z2,z3,_⟩:=qgx (i:=i) hl (by omega)
  have hxb:=b3.2 x (List.mem_of_getElem? z2)
  obtain⟨c4,E,i4,e4,r4,w4,_⟩:=qqt (f_feh x hxb) H (qau [avV x] _ _)
  simp only[avV] at e4
  rw[z3,goC]
  obtain⟨c1,c2,c3,i1,i2,i3,hc,nl2,nl3⟩:=hs
  have hE:=hc.app E
  have hA:=hE.app [Entry.mk 2 [[Cell.str (bs key),c4]] 0 false]
  simp only[qwh,qag,Option.bind_some]
  rw[decide_eq_true (by omega),cond_true,hk,cond_true]
  simp only[qap,z1,z2,eStr,enc_V x,qaf (show i < maxLen by omega),Nat.zero_add,Nat.reduceAdd,EV0]
  simp only[e4,quw,ef,hE.at',Nat.zero_add,Nat.reduceAdd,EV0]
  cases h:(qff x).2 with
  | false=>
   rw[if_neg (by simp)]
   exact⟨H++E,rfl,fun hh=>by simp at hh⟩
  | true=>
   rw[if_pos rfl]
   have rC:Sp (Rep (H++E++[Entry.mk 2 [[Cell.str (bs key),c4]] 0 false]) true true 2) (i4++[]) [Cell.str (bs key),c4] (qldb (key,x)).tr:=by
    unfold MCmd.tr
    exact Sp.cons (i:=[]) ⟨rfl,rfl⟩ (.cons (r4.app _) .nil)
   obtain⟨d',H',ids',a1,r3,nl,nd,g3,l3,k3,_⟩:=hA.r3.append (by':=40) (ys:=[[Cell.str (bs key),c4]]) (tys:=[(qldb (key,x)).tr]) (js:=(i4++[])++[]) nl3 hA.n3 (Sp.cons rC .nil) (by simp) (by simpa using w4.nd) (fun j hj h=>by
    have h1:=hc.r3.lt j hj
    have h2:=w4.lo j (by simpa using h)
    omega) (by simp[bound];omega) (by simp[bound];omega)
   have hr3:Rep H' true true 3 ids' d' (trL 2 MCmd.tr (acc++[qldb (key,x)])):=by
    rw[trL,List.map_append]
    exact r3
   have hb:∃ H2,qbm H' (.ptr 0 4 0 3 0) [d']=some H2∧PSc H2 p.Name (trL 1 qdj p.Uses) (trL 2 MNeed.tr p.Needs) (trL 2 MCmd.tr (acc++[qldb (key,x)])) c1 c2 d' i1 i2 ids':=by
    refine hc.set3 (H1:=H') (by simp at l3;omega) (fun j hj hn=>?_) hr3 nd (fun j hj=>?_)
    ·rw[k3 j (by simp;omega) hn,List.getElem?_append_left (by simp;omega),List.getElem?_append_left hj]
    ·rcases g3 j hj with h | h | h
     ·exact .inl h
     ·exact .inr (w4.lo j (by simpa using h))
     ·exact .inr (by simp at h;omega)
   obtain⟨H2,s1,s2⟩:=hb
   simp only[Bool.not_true,cond_false,qpfb,a1,s1,hA.at',qqfb,EV0]
   exact ih (i+1) n (acc++[qldb (key,x)]) H2 (by omega) (by omega) (by simp;omega) ⟨_,_,_,_,_,_,s2,nl2,nl⟩ k m
theorem r_feg {H:List Entry}{p:MPack}(h:PS H p)(key:Str)(v:MVal)(hv:v.Bd 1048576)(hp:qdz v=true)(hn:key=qvw→p.Needs=[])(hc:key=qyu→p.Cmds=[]):
  ∃ H',quu [.one (.ptr 0 4 0 0 0),.one (Cell.str (bs key)),avV v] H=some ([.one (Cell.bool (qdw p key v).2)],H')∧((qdw p key v).2=true→PS H' (qdw p key v).1):=by
 have hM:=qai
 obtain⟨b2,b3,b4⟩:=(bd_V v).1 hv
 have hll:=b3.1
 have ef:∀ f,fldA (.ptr 0 4 0 0 0) f=some (.ptr 0 4 0 f 0):=fun f=>by rw[qfg,Nat.zero_add]
 unfold qdw
 cases k1:key==kName with
 | true=>
  obtain⟨c1,c2,c3,i1,i2,i3,hs,nl⟩:=h
  obtain⟨H',s1,s2⟩:=hs.set0 v.S
  refine⟨H',qds 0 ?_,fun _=>⟨_,_,_,_,_,_,s2,nl⟩⟩
  have k1:(key==([110,97,109,101]:Str))=true:=k1
  simp only[feg,qbf,k1,quw,ef,s1,EV0]
  rfl
 | false=>
  have k1':(key==([110,97,109,101]:Str))=false:=k1
  cases k2:key==qvw with
  | true=>
   obtain⟨n1,n2⟩:=qenb hp
   have k2a:key=qvw:=by simpa using k2
   have k4:(key==([117,115,101,115]:Str))=false:=by rw[k2a];rfl
   have k2':(key==([110,101,101,100,115]:Str))=true:=k2
   cases hk:v.K==5 with
   | false=>
    refine⟨H,qds 0 ?_,fun hh=>by simp at hh⟩
    simp only[feg,qbf,k1',k2',k4,EV0]
    simp only[qxr,qag,Option.bind_some,hk,cond_false]
    cases decide ((0:Int) < (v.L.length:Int))<;>rfl
   | true=>
    have e:qkr v=goN [] ((v.Keys.zip v.L).drop 0):=by unfold qkr;rw[hk,if_pos rfl,List.drop_zero]
    have hz:PS H {p with Needs:=[]}:=by
     have:=hn k2a
     rw[← this]
     exact h
    obtain⟨H',y1,y2⟩:=qbkb (p:=p) hv hp hk v.L.length 0 (v.L.length+1+1) [] H (by omega) (by omega) (by simp) hz (v.L.length+1+1) (v.L.length+1+1)
    rw[← e,n1,hk] at y1
    rw[← e,n1,hk] at y2
    refine⟨H',qds (v.L.length+1) ?_,fun hh=>?_⟩
    ·simp only[feg,qbf,k1',k2',k4,EV0]
     exact y1
    ·have:=y2 hh
     rw[n2 (by rw[n1,hk];exact hh)] at this
     exact this
  | false=>
   have k2':(key==([110,101,101,100,115]:Str))=false:=k2
   cases k3:key==qyu with
   | true=>
    obtain⟨n1,n2⟩:=qqob hp
    have k3a:key=qyu:=by simpa using k3
    have k4:(key==([117,115,101,115]:Str))=false:=by rw[k3a];rfl
    have k3':(key==([116,97,115,107,115]:Str))=true:=k3
    cases hk:v.K==5 with
    | false=>
     refine⟨H,qds 0 ?_,fun hh=>by simp at hh⟩
     simp only[feg,qbf,k1',k2',k3',k4,EV0]
     simp only[qwh,qag,Option.bind_some,hk,cond_false]
     cases decide ((0:Int) < (v.L.length:Int))<;>rfl
    | true=>
     have e:qlcb v=goC [] ((v.Keys.zip v.L).drop 0):=by unfold qlcb;rw[hk,if_pos rfl,List.drop_zero]
     have hz:PS H {p with Cmds:=[]}:=by
      have:=hc k3a
      rw[← this]
      exact h
     obtain⟨H',y1,y2⟩:=qkxb (p:=p) hv hp hk v.L.length 0 (v.L.length+1+1) [] H (by omega) (by omega) (by simp) hz (v.L.length+1+1) (v.L.length+1+1)
     rw[← e,n1,hk] at y1
     rw[← e,n1,hk] at y2
     refine⟨H',qds (v.L.length+1) ?_,fun hh=>?_⟩
     ·simp only[feg,qbf,k1',k2',k3',k4,EV0]
      exact y1
     ·have:=y2 hh
      rw[n2 (by rw[n1,hk];exact hh)] at this
      exact this
   | false=>
    have k3':(key==([116,97,115,107,115]:Str))=false:=k3
    cases k4:key==kUses with
    | true=>
     obtain⟨c1,c2,c3,i1,i2,i3,hs,nl⟩:=h
     obtain⟨c,E,is,e1,r1,w1,_⟩:=qqt (f_feh v hv) H (qau [avV v] _ _)
     simp only[avV] at e1
     obtain⟨H',s1,s2⟩:=hs.set1 (H1:=H++E) (by simp) (fun j hj _=>List.getElem?_append_left hj) (r1.more (by omega)) w1.nd (fun j hj=>.inr (w1.lo j hj))
     refine⟨H',qds 0 ?_,fun _=>⟨_,_,_,_,_,_,s2,nl⟩⟩
     have k4:(key==([117,115,101,115]:Str))=true:=k4
     simp only[feg,qbf,k1',k2',k3',k4,e1,quw,ef,s1,EV0]
     rfl
    | false=>
     have k4':(key==([117,115,101,115]:Str))=false:=k4
     refine⟨H,qds 0 ?_,fun hh=>by simp at hh⟩
     simp only[feg,qbf,k1',k2',k3',k4',EV0]
     rfl
theorem qjt {p:MPack}{k:Str}{v:MVal}{l:List (Str×MVal)}(h:(qdw p k v).2=false):qck p ((k,v)::l)=none:=by rw[qck,h,if_neg (by simp)]
theorem qpj {p:MPack}{k:Str}{v:MVal}{l:List (Str×MVal)}(h:(qdw p k v).2=true):qck p ((k,v)::l)=qck (qdw p k v).1 l:=by rw[qck,h,if_pos rfl]
theorem qazb {p:MPack}{k:Str}{v:MVal}(h:k≠qvw):(qdw p k v).1.Needs=p.Needs:=by
 unfold qdw
 have:(k==qvw)=false:=by simpa using h
 rw[this]
 split
 ·rfl
 ·rw[if_neg (by simp)]
  split
  ·rfl
  ·split<;>rfl
theorem qicb {p:MPack}{k:Str}{v:MVal}(h:k≠qyu):(qdw p k v).1.Cmds=p.Cmds:=by
 unfold qdw
 have:(k==qyu)=false:=by simpa using h
 rw[this]
 split
 ·rfl
 ·split
  ·rfl
  ·rw[if_neg (by simp)]
   split<;>rfl
theorem f_fac (v:MVal)(hv:v.Bd 1048576)(hw:v.wt≤1048576):
  Fresh qjz true 3 [.agg [Cell.int v.K,Cell.int v.N,Cell.str (bs v.S),encL 5 MVal.enc v.L,encL 1 eStr v.Keys]] [.agg (qbq v).1.tr,.one (.leaf (.bool (qbq v).2))]:=by
 have hM:=qai
 obtain⟨b2,b3,b4⟩:=(bd_V v).1 hv
 have hkl:=b4.1
 have zero:∀ H,qjz [avV v] []=some ([.agg [Cell.str (bs []),.lst true 1 [],.lst true 2 [],.lst true 2 []],.one (Cell.bool false)],H)→qbq v=(noPack,false)→Fresh qjz true 3 [avV v] [.agg (qbq v).1.tr,.one (.leaf (.bool (qbq v).2))]:=fun H h1 h2=>by
  rw[h2]
  exact Fresh.agg1 (n:=2) (ids:=[]) h1 (qtm H) (by simp)
 have e2:=c_faj v hv
 simp only[avV] at e2
 have e1:=qdo v
 cases hk:v.K==5 with
 | false=>
  rw[hk,Bool.false_and] at e1
  refine zero [] (qng 0 ?_) (by unfold qbq;rw[hk,Bool.and_false,if_neg (by simp)])
  simp only[fac,e1,Bool.not_false,EV0]
 | true=>
  rw[hk,Bool.true_and] at e1
  cases ho:qlbb v with
  | false=>
   rw[ho] at e2
   refine zero [] (qng 0 ?_) (by unfold qbq;rw[ho,Bool.false_and,if_neg (by simp)])
   cases hl:v.L.length==v.Keys.length with
   | false=>
    rw[hl] at e1
    simp only[fac,e1,Bool.not_false,EV0]
   | true=>
    rw[hl] at e1
    simp only[fac,e1,e2,Bool.not_false,Bool.not_true,EV0]
  | true=>
   have hl:=qfub ho hk
   have hpp:=qqw ho
   rw[ho] at e2
   rw[show(v.L.length==v.Keys.length)=true by simp[hl]] at e1
   have hm:qbq v=endP (qck noPack (v.Keys.zip v.L)):=by
    unfold qbq
    rw[ho,hk,Bool.and_self,if_pos rfl]
   rw[hm]
   have loop:∀ (d i n:Nat) (H:List Entry) (r:MPack),i+d=v.Keys.length→d < n→PSi H r→r.Bd 1048576→∀ k m,
     ∃ cs H' ids,qajb k m n (encL 1 eStr v.Keys) v.Keys.length i v.K v.N (bs v.S) (encL 5 MVal.enc v.L) (encL 1 eStr v.Keys) H=some ([.agg cs,.one (Cell.bool (endP (qck r ((v.Keys.zip v.L).drop i))).2)],H')∧Sp (Rep H' true true 3) ids cs (endP (qck r ((v.Keys.zip v.L).drop i))).1.tr∧ids.Nodup:=by
    intro d
    induction d with
    | zero=>
     intro i n H r hi hn hr hb k m
     obtain⟨n,rfl⟩:∃ j,n=j+1:=⟨n - 1,by omega⟩
     have hd:(v.Keys.zip v.L).drop i=[]:=List.drop_eq_nil_of_le (by rw[List.length_zip];omega)
     obtain⟨c1,c2,c3,ids,d0,h1,h2,h3⟩:=hr.cells
     have q:qak qrd [.agg [Cell.str (bs r.Name),c1,c2,c3]] H=some [.one (Cell.bool (qqj r))]:=by
      rw[qdu (qcc h3 (qbk _))]
      exact c_fad r hb
     rw[hd,qck]
     unfold endP
     simp only[qajb]
     rw[decide_eq_false (by omega),cond_false]
     cases hro:qqj r with
     | true=>
      rw[hro] at q
      refine⟨_,H,ids,?_,h1,h2⟩
      simp only[d0,q,Bool.not_true,EV0]
      rfl
     | false=>
      rw[hro] at q
      refine⟨_,H,[],?_,qtm H,by simp⟩
      simp only[d0,q,Bool.not_false,EV0]
      rfl
    | succ d ih=>
     intro i n H r hi hn hr hb k m
     obtain⟨n,rfl⟩:∃ j,n=j+1:=⟨n - 1,by omega⟩
     obtain⟨key,x,z1,z2,z3,_⟩:=qgx (i:=i) hl (by omega)
     have hxm:=List.mem_of_getElem? z2
     have hxb:=b3.2 x hxm
     obtain⟨H',y1,y2⟩:=r_fae hr key x hxb (hpp x hxm)
     simp only[avV] at y1
     rw[z3]
     simp only[qajb]
     rw[decide_eq_true (by omega),cond_true]
     simp only[qap,z1,z2,eStr,enc_V x,y1,qaf (show i < maxLen by omega),Nat.zero_add,Nat.reduceAdd,EV0]
     cases hf:(qdw r key x).2 with
     | true=>
      rw[qpj hf,Bool.not_true,cond_false]
      exact ih (i+1) n H' (qdw r key x).1 (by omega) (by omega) (y2 hf) (qsz hb key hxb) k m
     | false=>
      rw[qjt hf,Bool.not_false,cond_true]
      exact⟨_,H',[],rfl,qtm H',by simp⟩
   obtain⟨cs,H',ids,y1,y2,y3⟩:=loop v.Keys.length 0 (v.Keys.length+1+1) _ noPack (by omega) (by omega) PS.start.i qgz (v.Keys.length+1+1) (v.Keys.length+1+1)
   rw[List.drop_zero] at y1 y2
   refine Fresh.agg1 (n:=2) (qng (v.Keys.length+1) ?_) y2 y3
   simp only[fac,e1,e2,qag,Bool.not_true,EV0]
   exact y1
theorem c_fcy (v:MVal)(hv:v.Bd 1048576)(hw:v.wt≤1048576):
  outL qoe [.agg [Cell.int v.K,Cell.int v.N,Cell.str (bs v.S),encL 5 MVal.enc v.L,encL 1 eStr v.Keys]]=some [.agg [Cell.str (bs (qbq v).1.Name),qbu (qbq v).1.Uses,encL 2 MNeed.enc (qbq v).1.Needs,encL 2 MCmd.enc (qbq v).1.Cmds],.one (Cell.bool (qbq v).2)]:=by
 have hM:=qai
 obtain⟨b2,b3,b4⟩:=(bd_V v).1 hv
 have hkl:=b4.1
 have hll:=b3.1
 have zr:∀ H,mapO (qam false H) [.agg [Cell.str (bs []),.lst true 1 [],.lst true 2 [],.lst true 2 []],.one (Cell.bool false)]=some [.agg [Cell.str (bs noPack.Name),qbu noPack.Uses,encL 2 MNeed.enc noPack.Needs,encL 2 MCmd.enc noPack.Cmds],.one (Cell.bool false)]:=fun H=>rfl
 have e2:=c_fdf v hv
 simp only[avV] at e2
 cases ho:qlbb v with
 | false=>
  rw[ho] at e2
  have hmz:qbq v=(noPack,false):=by unfold qbq;rw[ho,Bool.false_and,if_neg (by simp)]
  rw[hmz]
  refine qbn (H:=[Entry.mk 4 [[Cell.str (bs []),.lst true 1 [],.lst true 2 [],.lst true 2 []]] 0 false]) (qnp 0 ?_) (zr _)
  simp only[fcy,e2,Bool.not_false,EV0]
 | true=>
  rw[ho] at e2
  cases hk:v.K==5 with
  | false=>
   have hmz:qbq v=(noPack,false):=by unfold qbq;rw[hk,Bool.and_false,if_neg (by simp)]
   rw[hmz]
   refine qbn (H:=[Entry.mk 4 [[Cell.str (bs []),.lst true 1 [],.lst true 2 [],.lst true 2 []]] 0 false]) (qnp 0 ?_) (zr _)
   simp only[fcy,e2,bne,hk,Bool.not_true,Bool.not_false,EV0]
  | true=>
   have hl:=qfub ho hk
   have hpp:=qqw ho
   have hnd:=(qyub v.Keys (qfi (qjp ho) hk).2).1
   have hm:qbq v=endP (qck noPack (v.Keys.zip v.L)):=by
    unfold qbq
    rw[ho,hk,Bool.and_self,if_pos rfl]
   rw[hm]
   have loop:∀ (d i n:Nat) (H:List Entry) (r:MPack),i+d=v.L.length→d < n→PS H r→r.Bd 1048576→(qvw∈v.Keys.drop i→r.Needs=[])→(qyu∈v.Keys.drop i→r.Cmds=[])→∀ k m,
     ∃ xs H',qabb k m n i v.K v.N (bs v.S) (encL 5 MVal.enc v.L) (encL 1 eStr v.Keys) H=some (xs,H')∧mapO (qam false H') xs=some [.agg [Cell.str (bs (endP (qck r ((v.Keys.zip v.L).drop i))).1.Name),qbu (endP (qck r ((v.Keys.zip v.L).drop i))).1.Uses,encL 2 MNeed.enc (endP (qck r ((v.Keys.zip v.L).drop i))).1.Needs,encL 2 MCmd.enc (endP (qck r ((v.Keys.zip v.L).drop i))).1.Cmds],.one (Cell.bool (endP (qck r ((v.Keys.zip v.L).drop i))).2)]:=by
    intro d
    induction d with
    | zero=>
     intro i n H r hi hn hr hb hN hC k m
     obtain⟨n,rfl⟩:∃ j,n=j+1:=⟨n - 1,by omega⟩
     have hd:(v.Keys.zip v.L).drop i=[]:=List.drop_eq_nil_of_le (by rw[List.length_zip];omega)
     obtain⟨c1,c2,c3,ids,d0,h1,h2,h3⟩:=hr.i.cells
     have q:qak qrf [.agg [Cell.str (bs r.Name),c1,c2,c3]] H=some [.one (Cell.bool (qqj r))]:=by
      rw[qdu (qcc h3 (qbk _))]
      exact c_fcz r hb
     rw[hd,qck]
     unfold endP
     simp only[qabb,qag,Option.bind_some]
     rw[decide_eq_false (by omega),cond_false]
     cases hro:qqj r with
     | true=>
      rw[hro] at q
      refine⟨[.agg [Cell.str (bs r.Name),c1,c2,c3],.one (Cell.bool true)],H,?_,qcc h3 (qcc (qaz _ _ _) (qbk _))⟩
      simp only[d0,q,Bool.not_true,EV0]
     | false=>
      rw[hro] at q
      refine⟨_,H,?_,zr H⟩
      simp only[d0,q,Bool.not_false,EV0]
    | succ d ih=>
     intro i n H r hi hn hr hb hN hC k m
     obtain⟨n,rfl⟩:∃ j,n=j+1:=⟨n - 1,by omega⟩
     obtain⟨key,x,z1,z2,z3,_⟩:=qgx (i:=i) hl (by omega)
     have hxm:=List.mem_of_getElem? z2
     have hxb:=b3.2 x hxm
     obtain⟨hi',hgk⟩:=List.getElem?_eq_some_iff.1 z1
     have hdk:v.Keys.drop i=key::v.Keys.drop (i+1):=by rw[List.drop_eq_getElem_cons hi',hgk]
     have hkn:key∉v.Keys.drop (i+1):=by
      have:(v.Keys.drop i).Nodup:=(List.drop_sublist i v.Keys).nodup hnd
      rw[hdk] at this
      exact(List.nodup_cons.1 this).1
     rw[hdk] at hN hC
     obtain⟨H',y1,y2⟩:=r_feg hr key x hxb (hpp x hxm) (fun e=>hN (by rw[e];exact List.mem_cons_self)) (fun e=>hC (by rw[e];exact List.mem_cons_self))
     simp only[avV] at y1
     rw[z3]
     simp only[qabb,qag,Option.bind_some]
     rw[decide_eq_true (by omega),cond_true]
     simp only[qap,z1,z2,eStr,enc_V x,y1,qaf (show i < maxLen by omega),Nat.zero_add,Nat.reduceAdd,EV0]
     cases hf:(qdw r key x).2 with
     | true=>
      rw[qpj hf,Bool.not_true,cond_false]
      exact ih (i+1) n H' (qdw r key x).1 (by omega) (by omega) (y2 hf) (qsz hb key hxb)
       (fun hm=>by rw[qazb (fun e=>hkn (by rw[e];exact hm))];exact hN (List.mem_cons_of_mem _ hm))
       (fun hm=>by rw[qicb (fun e=>hkn (by rw[e];exact hm))];exact hC (List.mem_cons_of_mem _ hm)) k m
     | false=>
      rw[qjt hf,Bool.not_false,cond_true]
      exact⟨_,H',rfl,zr H'⟩
   obtain⟨xs,H',y1,y2⟩:=loop v.L.length 0 (v.L.length+1+1) _ noPack (by omega) (by omega) PS.start qgz (fun _=>rfl) (fun _=>rfl) (v.L.length+1+1) (v.L.length+1+1)
   rw[List.drop_zero] at y2
   refine qbn (H:=H') (qnp (v.L.length+1) ?_) y2
   simp only[fcy,e2,bne,hk,Bool.not_true,EV0]
   exact y1
end Go.Ev
