/- What the functions come to. Conditions: none. -/
import Derived.Test.YteofbfalngmmeaaGreatDoorKp1
set_option linter.unusedSimpArgs false
set_option linter.unusedVariables false
namespace Go.Ev
open Go
theorem qhyc {id:Nat}{code:Str}{H:List Entry}(hc:Cur H id code)(hl:code.length≤1048576):∃ (s:Str) (H':List Entry),qqx [.one (.ptr id 3 0 0 0)] H=some ([.one (Cell.str (bs s))],H')∧Dr id code H H'∧s.length≤20:=by
 obtain⟨s1,G1,e1,d1,m1⟩:=qen hc hl true [[],[97],[98],[97,98],[97,45,98],[65,98],[120,49],[101,108,101,118,101,110,98,121,116,101,115],[116,101,110,45,98,121,116,101,115,49],[97,32,98],[9],[127],[49,97],[45,97],[122],[104,101,108,108,111]] (by simp) (by simp)
 have h1:s1.length≤20:=(by decide:∀ s∈([[],[97],[98],[97,98],[97,45,98],[65,98],[120,49],[101,108,101,118,101,110,98,121,116,101,115],[116,101,110,45,98,121,116,101,115,49],[97,32,98],[9],[127],[49,97],[45,97],[122],[104,101,108,108,111]]:List Str),s.length≤20) s1 m1
 simp only[List.map_cons,List.map_nil,eStr] at e1
 refine⟨s1,G1,qiqb 0 ?_,d1,h1⟩
 simp only[fcq,e1,EV0]
theorem OwnM.push0 {lo mid n sz by':Nat}{H:List Entry}{c:Cell}{trs:List (List Tr)}{row:List Cell}{tr:List Tr}(h:OwnM lo mid H (n+1) c (.list sz trs))(hr:OwnS mid H.length H n row tr)(hrl:row.length=sz)
  (hlen:trs.length≤1048576) (hby:by'≤1000):
  ∃ p:Cell×List Entry,app H sz by' c [row]=some p∧OwnM lo p.2.length p.2 (n+1) p.1 (.list sz (trs++[tr]))∧H.length≤p.2.length∧∀ j,j < lo→p.2[j]?=H[j]?:=by
 obtain⟨ids,h1,h2,h3⟩:=h
 obtain⟨js,k1,k2⟩:=hr
 have hb:(trs.length+1)*by'≤1048577*1000:=Nat.mul_le_mul (by omega) hby
 obtain⟨d,H',ids',a,r,nl,nd,g,m,k,_⟩:=h1.append (by':=by') (ys:=[row]) (tys:=[tr]) (js:=js++[]) h3 h2.nd (.cons k1 .nil) (by intro r hr;simp at hr;rw[hr];exact hrl) (by simpa using k2.nd) (fun j hj h=>by
  have e1:=h2.hi j hj
  have e2:=k2.lo j (by simpa using h)
  omega) (by simp[bound];omega) (by simp[bound];omega)
 have hle:=k2.le
 have hle2:=h2.le
 refine⟨(d,H'),a,⟨ids',r,⟨by show lo≤H'.length;omega,nd,fun j hj=>?_,r.lt⟩,nl⟩,m,fun j hj=>k j (by omega) fun h=>by have:=h2.lo j h;omega⟩
 rcases g j hj with h | h | h
 ·exact h2.lo j h
 ·have:=k2.lo j (by simpa using h)
  omega
 ·omega
theorem OwnM.pushF {lo mid n sz by':Nat}{H:List Entry}{c:Cell}{trs:List (List Tr)}{row:List Cell}{tr:List Tr}(h:OwnM lo mid H (n+1) c (.list sz trs))(hr:OwnS mid H.length H n row tr)(hrl:row.length=sz)
  (hlen:trs.length≤1048576) (hby:by'≤1000):
  ∃ p:Cell×List Entry,app (H++[Entry.mk sz [row] 0 false]) sz by' c [row]=some p∧OwnM lo p.2.length p.2 (n+1) p.1 (.list sz (trs++[tr]))∧H.length≤p.2.length∧∀ j,j < lo→p.2[j]?=H[j]?:=by
 obtain⟨ids,h1,h2,h3⟩:=h
 obtain⟨js,k1,k2⟩:=hr
 obtain⟨p,a,b,c',d⟩:=OwnM.push0 (by':=by') (H:=H++[Entry.mk sz [row] 0 false]) (row:=row) (tr:=tr) ⟨ids,h1.app _,h2,h3⟩ ⟨js,Rep.app2 _ k1,k2.wide (Nat.le_refl _) (by simp)⟩ hrl hlen hby
 have hle:=k2.le
 have hle2:=h2.le
 exact⟨p,a,b,by simp at c';omega,fun j hj=>by rw[d j hj,List.getElem?_append_left (by omega)]⟩
theorem OwnM.frameF {lo hi n:Nat}{H H':List Entry}{c:Cell}{t:Tr}(h:OwnM lo hi H n c t)(d:∀ j,lo≤j→j < hi→H'[j]?=H[j]?):OwnM lo hi H' n c t:=by
 obtain⟨ids,a,b,e⟩:=h
 exact⟨ids,a.frame fun j hj=>d j (b.lo j hj) (b.hi j hj),b,e⟩
theorem DrN.ofF {N id:Nat}{code:Str}{H H':List Entry}(hc:Cur H id code)(hid:id < N)(h1:H.length≤H'.length)(h2:∀ j,j < N→H'[j]?=H[j]?):DrN N id code H H':=by
 obtain⟨i,x,hi,he⟩:=hc
 exact⟨h1,fun j _ hj=>h2 j hj,i,x,hi,by rw[h2 id hid];exact he⟩
theorem qcyc {id:Nat}{code:Str}{H:List Entry}(hc:Cur H id code)(hl:code.length≤1048576):∃ (l:List Str) (c:Cell) (H':List Entry),qus [.one (.ptr id 3 0 0 0)] H=some ([.one c],H')∧Dr id code H H'∧OwnM H.length H'.length H' 2 c (trL 1 qcp l)∧l.length≤5∧∀ a∈l,a.length≤20:=by
 have hM:=qah
 have hid:id < H.length:=by obtain⟨i,x,_,he⟩:=hc;exact(List.getElem?_eq_some_iff.1 he).1
 have loop:∀ (d n:Nat) (l:List Str) (c:Cell) (G:List Entry),d < n→DrN H.length id code H G→OwnM H.length G.length G 2 c (trL 1 qcp l)→l.length+d≤5→(∀ a∈l,a.length≤20)→∀ k m,
   ∃ (l':List Str) (c':Cell) (H':List Entry),qxv k m n (.ptr id 3 0 0 0) c (d:Int) G=some ([.one c'],H')∧DrN H.length id code H H'∧OwnM H.length H'.length H' 2 c' (trL 1 qcp l')∧l'.length≤5∧∀ a∈l',a.length≤20:=by
  intro d
  induction d with
  | zero=>
   intro n l c G hn hd ho hll hs k m
   obtain⟨n,rfl⟩:∃ j,n=j+1:=⟨n - 1,by omega⟩
   refine⟨l,c,G,?_,hd,ho,by omega,hs⟩
   simp only[qxv]
   rw[decide_eq_false (by omega),cond_false]
  | succ d ih=>
   intro n l c G hn hd ho hll hs k m
   obtain⟨n,rfl⟩:∃ j,n=j+1:=⟨n - 1,by omega⟩
   obtain⟨s,G1,e1,d1,h1⟩:=qhyc hd.cur hl
   have ho1:=ho.frame (d1.toN (Nat.le_refl _)) hid (Nat.le_refl _)
   obtain⟨p,e2,o2,l2,f2⟩:=OwnM.push0 (by':=16) (sz:=1) (row:=[Cell.str (bs s)]) (tr:=qcp s) ho1 ⟨[],Sp.leaf1 _,Mine.nil d1.len⟩ rfl (by simp;omega) (by omega)
   obtain⟨l',c',H',e3,r⟩:=ih n (l++[s]) p.1 p.2 (by omega) (hd.trans ((d1.toN hd.len).trans (DrN.ofF d1.cur hid l2 f2))) (by
    rw[trL,List.map_append]
    exact o2) (by simp;omega) (fun a ha=>by
    rcases List.mem_append.1 ha with h | h
    ·exact hs a h
    ·simp only[List.mem_singleton] at h
     rw[h];exact h1) k m
   refine⟨l',c',H',?_,r⟩
   simp only[qxv]
   rw[decide_eq_true (by omega),cond_true]
   simp only[e1,e2,EV0]
   rw[qbu (by omega)]
   exact e3
 obtain⟨v,G2,e2,d2,hv⟩:=qcu hc hl 6 (by omega) (by omega)
 obtain⟨l',c',H',e3,d3,r⟩:=loop v 1000 [] (.lst true 1 []) G2 (by omega) (d2.toN (Nat.le_refl _)) (OwnM.nil 1 _ _ 1 _ d2.len) (by simp;omega) (by simp) 1000 1000
 refine⟨l',c',H',qjtb 999 ?_,d3.full,r⟩
 rw[show((6:Nat):Int)=6 from rfl] at e2
 simp only[fcl,e2,EV0]
 exact e3
theorem VecN.ownF {α:Type}{sz:Nat}{e:α→List Cell}{tr:α→List Tr}{lo hi:Nat}{H:List Entry}{ids:List Nat}{c:Cell}{l:List α}(h:VecN H ids c sz (l.map e))(hlo:∀ j∈ids,lo≤j)(hh:H.length≤hi)(hl:lo≤hi)(hs:∀ x,(e x).length=sz)(ht:∀ x,Sp (Rep H true true 1) [] (e x) (tr x)):OwnM lo hi H 2 c (trL sz tr l):=by
 have hlt:=h.lt
 rcases h with⟨h1,rfl,rfl⟩ | ⟨j,ep,rfl,rfl,h⟩
 ·simp only[List.map_eq_nil_iff] at h1
  subst h1
  exact OwnM.nil sz lo hi 1 H hl
 ·refine⟨[j],.inr ⟨j,0,ep,l.map e,false,[],by simp,rfl,h,fun _=>rfl,fun _=>⟨rfl,by simp⟩,by simp,?_,?_⟩,⟨hl,by simp,fun k hk=>hlo k hk,fun k hk=>by have:=hlt k hk;omega⟩,qcb _ _ _ _ _⟩
  ·intro r hr
   obtain⟨x,hx,rfl⟩:=List.mem_map.1 hr
   exact hs x
  ·rw[List.drop_zero,List.take_of_length_le (by simp)]
   clear hlt h hlo
   induction l with
   | nil=>exact .nil
   | cons y ys ih=>exact .cons (i:=[]) (is:=[]) (ht y) ih
theorem VecN.fresh (H:List Entry)(sz:Nat):VecN (H++[Entry.mk sz [] 0 false]) [H.length] (.vs H.length sz 0 0 0) sz []:=.inr ⟨H.length,0,rfl,rfl,by simp⟩
theorem x_fdk (p:MPack)(h1:p.Uses.length≤1000)(h2:p.Needs.length≤1000)(h3:p.Cmds.length≤1000)(h4:∀ c∈p.Cmds,c.Acts.length≤1000):
  ∃ (cU cN cC:Cell) (E:List Entry) (a b:Nat),qiv [.agg [Cell.str (bs p.Name),qbj p.Uses,encL 2 MNeed.enc p.Needs,encL 2 MCmd.enc p.Cmds]] []=some ([.agg [Cell.str (bs p.Name),cU,cN,cC]],E)∧
   OwnM 0 a E 2 cU (trL 1 qcp p.Uses)∧OwnM a b E 2 cN (trL 2 MNeed.tr p.Needs)∧OwnM b E.length E 3 cC (trL 2 MCmd.tr p.Cmds):=by
 have hM:=qah
 obtain⟨q1,i1,a1,v1,f1,l1,m1⟩:=(VecN.nil ([]:List Entry) 1).app (by':=16) (p.Uses.map eStr) (by simp;omega) (by omega)
 obtain⟨q2,i2,a2,v2,f2,l2,m2⟩:=(VecN.nil q1.2 2).app (by':=32) (p.Needs.map MNeed.enc) (by simp;omega) (by omega)
 simp only[List.nil_append] at v1 v2
 have hi1:=v1.lt
 have lt1:∀ j∈i2,q1.2.length≤j:=fun j hj=>by
  rcases m2 j hj with h | h
  ·simp at h
  ·exact h
 have o1:OwnM 0 q1.2.length q2.2 2 q1.1 (trL 1 qcp p.Uses):=by
  have hv:=v1.ownF (lo:=0) (hi:=q1.2.length) (tr:=qcp) (by simp) (Nat.le_refl _) (Nat.zero_le _) (fun _=>rfl) (fun x=>Sp.leaf1 _)
  exact hv.frameF fun j _ hj=>f2 j hj (by simp)
 have o2:OwnM q1.2.length q2.2.length q2.2 2 q2.1 (trL 2 MNeed.tr p.Needs):=v2.ownF lt1 (Nat.le_refl _) l2 (fun _=>rfl) (fun x=>by
  unfold MNeed.tr MNeed.enc
  exact .cons (i:=[]) (is:=[]) ⟨rfl,rfl⟩ (Sp.leaf1 _))
 have loop:∀ (d i n:Nat) (c:Cell) (G:List Entry),i+d=p.Cmds.length→d < n→q2.2.length≤G.length→(∀ j,j < q2.2.length→G[j]?=q2.2[j]?)→OwnM q2.2.length G.length G 3 c (trL 2 MCmd.tr (p.Cmds.take i))→∀ k m,
   ∃ (c':Cell) (E:List Entry),qxq k m n (i:Int) (bs p.Name) (qbj p.Uses) (encL 2 MNeed.enc p.Needs) (encL 2 MCmd.enc p.Cmds) (bs p.Name) q1.1 q2.1 c G=some ([.agg [Cell.str (bs p.Name),q1.1,q2.1,c']],E)∧(∀ j,j < q2.2.length→E[j]?=q2.2[j]?)∧OwnM q2.2.length E.length E 3 c' (trL 2 MCmd.tr p.Cmds):=by
  intro d
  induction d with
  | zero=>
   intro i n c G hi hn hlG hfr ho k m
   obtain⟨n,rfl⟩:∃ j,n=j+1:=⟨n - 1,by omega⟩
   rw[List.take_of_length_le (by omega)] at ho
   refine⟨c,G,?_,hfr,ho⟩
   simp only[qxq,qam,Option.bind_some]
   rw[decide_eq_false (by omega),cond_false]
  | succ d ih=>
   intro i n c G hi hn hlG hfr ho k m
   obtain⟨n,rfl⟩:∃ j,n=j+1:=⟨n - 1,by omega⟩
   obtain⟨x,hx⟩:∃ x,p.Cmds[i]?=some x:=⟨_,List.getElem?_eq_getElem (by omega)⟩
   have hxa:=h4 x (List.mem_of_getElem? hx)
   obtain⟨q3,i3,a3,v3,f3,l3,m3⟩:=(VecN.nil G 1).app (by':=16) (x.Acts.map eStr) (by simp;omega) (by omega)
   rw[List.nil_append] at v3
   have l3':G.length≤q3.2.length:=l3
   have lo3:∀ j∈i3,G.length≤j:=fun j hj=>by
    rcases m3 j hj with h | h
    ·simp at h
    ·exact h
   have o3:OwnM G.length q3.2.length q3.2 2 q3.1 (trL 1 qcp x.Acts):=v3.ownF lo3 (Nat.le_refl _) l3' (fun _=>rfl) (fun x=>Sp.leaf1 _)
   have fG:∀ j,j < G.length→q3.2[j]?=G[j]?:=fun j hj=>f3 j hj (by simp)
   have ho':=ho.frameF (H':=q3.2) fun j _ hj=>fG j hj
   obtain⟨p4,a4,o4,l4,f4⟩:=OwnM.pushF (by':=40) (sz:=2) (row:=[Cell.str (bs x.Task),q3.1]) (tr:=MCmd.tr x) ho' (by
    obtain⟨js,j1,j2⟩:=o3.s1.leaf (v:=.string (bs x.Task))
    exact⟨js,by unfold MCmd.tr;exact j1,j2⟩) rfl (by simp;omega) (by omega)
   obtain⟨c',E,e5,r⟩:=ih (i+1) n p4.1 p4.2 (by omega) (by omega) (by omega) (fun j hj=>by rw[f4 j hj,fG j (by omega),hfr j hj]) (by
    rw[List.take_add_one,hx,trL,List.map_append]
    exact o4) k m
   refine⟨c',E,?_,r⟩
   simp only[qxq,qam,Option.bind_some]
   rw[decide_eq_true (by omega),cond_true]
   simp only[qar,hx,MCmd.enc,qbx,qijb,a3,qem,a4,qag (show i < maxLen by omega),Nat.zero_add,Nat.reduceAdd,EV0]
   exact e5
 obtain⟨c',E,e3,f3,o3⟩:=loop p.Cmds.length 0 2000 (.lst true 2 []) q2.2 (by omega) (by omega) (Nat.le_refl _) (fun _ _=>rfl) (OwnM.nil 2 _ _ 2 _ (Nat.le_refl _)) 2000 2000
 have hq:q1.2.length≤q2.2.length:=l2
 refine⟨q1.1,q2.1,c',E,q1.2.length,q2.2.length,qhkb 1999 ?_,o1.frameF fun j _ hj=>f3 j (by omega),o2.frameF fun j _ hj=>f3 j hj,o3⟩
 have s1:qal [] 1 (qbj p.Uses)=some (p.Uses.map eStr):=qijb _ _
 have s2:∀ H,qal H 2 (encL 2 MNeed.enc p.Needs)=some (p.Needs.map MNeed.enc):=fun H=>by simp[qal,rowsOf,encL]
 rw[show((0:Nat):Int)=0 from rfl] at e3
 simp only[fdk,s1,a1,s2,a2,Option.bind_some]
 exact e3
theorem Rep.head {H:List Entry}{n sz:Nat}{ids:List Nat}{c:Cell}{r:List Tr}{trs:List (List Tr)}(h:Rep H true true (n+1) ids c (.list sz (r::trs))):∃ id ep row rest i0 i1,c=.vs id sz 0 (trs.length+1) ep∧ids=id::(i0++i1)∧H[id]?=some ⟨sz,row::rest,ep,false⟩∧
  row.length=sz∧(∀ r∈rest,r.length=sz)∧Sp (Rep H true true n) i0 row r∧Sp (Sp (Rep H true true n)) i1 rest trs:=by
 rcases h with⟨h,_⟩ | ⟨id,off,ep,e,fr,is,rfl,rfl,he,hq,hwh,hl,hrl,hs⟩
 ·simp at h
 ·obtain⟨rfl,hle⟩:=hwh rfl
  obtain rfl:=hq rfl
  rw[List.drop_zero,List.take_of_length_le (by omega)] at hs
  obtain⟨i,i',a,as',rfl,rfl,h1,h2⟩:=hs.cons_inv
  exact⟨id,ep,a,as',i,i',rfl,rfl,he,hrl a List.mem_cons_self,fun r hr=>hrl r (List.mem_cons_of_mem _ hr),h1,h2⟩
theorem Rep.head_mk {H:List Entry}{n sz id ep:Nat}{row:List Cell}{rest:List (List Cell)}{i0 i1:List Nat}{r:List Tr}{trs:List (List Tr)}(he:H[id]?=some ⟨sz,row::rest,ep,false⟩)(hr:row.length=sz)(hrest:∀ r∈rest,r.length=sz)
  (h0:Sp (Rep H true true n) i0 row r) (h1:Sp (Sp (Rep H true true n)) i1 rest trs):Rep H true true (n+1) (id::(i0++i1)) (.vs id sz 0 (trs.length+1) ep) (.list sz (r::trs)):=by
 have hl:=h1.length
 refine .inr ⟨id,0,ep,row::rest,false,i0++i1,rfl,rfl,he,fun _=>rfl,fun _=>⟨rfl,by simp[hl]⟩,by simp[hl],fun r hr'=>?_,?_⟩
 ·rcases List.mem_cons.1 hr' with rfl | h
  ·exact hr
  ·exact hrest r h
 ·rw[List.drop_zero,List.take_of_length_le (by simp[hl])]
  exact .cons h0 h1
structure PkO (lo:Nat)(H:List Entry)(cU cN cC:Cell)(p:MPack)(iU iN iC:List Nat):Prop where
 r1:Rep H true true 3 iU cU (trL 1 qcp p.Uses)
 r2:Rep H true true 3 iN cN (trL 2 MNeed.tr p.Needs)
 r3:Rep H true true 3 iC cC (trL 2 MCmd.tr p.Cmds)
 nd:(iU++(iN++iC)).Nodup
 lo':∀ j∈iU++(iN++iC),lo≤j
 l1:qco cU
 l2:qco cN
 l3:qco cC
theorem PkO.s {lo:Nat}{H:List Entry}{cU cN cC:Cell}{p:MPack}{iU iN iC:List Nat}(h:PkO lo H cU cN cC p iU iN iC)(hl:lo≤H.length):OwnS lo H.length H 3 [Cell.str (bs p.Name),cU,cN,cC] p.tr:=by
 refine⟨[]++(iU++(iN++(iC++[]))),?_,⟨hl,by simpa using h.nd,fun j hj=>h.lo' j (by simpa using hj),fun j hj=>?_⟩⟩
 ·unfold MPack.tr
  exact .cons ⟨rfl,rfl⟩ (.cons h.r1 (.cons h.r2 (.cons h.r3 .nil)))
 ·simp only[List.nil_append,List.append_nil,List.mem_append] at hj
  rcases hj with hj | hj | hj
  ·exact h.r1.lt j hj
  ·exact h.r2.lt j hj
  ·exact h.r3.lt j hj
theorem PkO.frame {lo id:Nat}{code:Str}{H H':List Entry}{cU cN cC:Cell}{p:MPack}{iU iN iC:List Nat}(h:PkO lo H cU cN cC p iU iN iC)(d:Dr id code H H')(hid:id < lo):PkO lo H' cU cN cC p iU iN iC:=by
 have key:∀ j,j∈iU++(iN++iC)→j < H.length→H'[j]?=H[j]?:=fun j hj hl=>d.old j (fun e=>by have:=h.lo' j hj;omega) hl
 exact⟨h.r1.frame fun j hj=>key j (by simp[hj]) (h.r1.lt j hj),h.r2.frame fun j hj=>key j (by simp[hj]) (h.r2.lt j hj),h.r3.frame fun j hj=>key j (by simp[hj]) (h.r3.lt j hj),h.nd,h.lo',h.l1,h.l2,h.l3⟩
theorem PkO.setU {lo:Nat}{H H1:List Entry}{cU cN cC c:Cell}{p:MPack}{iU iN iC is:List Nat}(h:PkO lo H cU cN cC p iU iN iC)(us:List Str)(hlo:lo≤H.length)(hf:∀ j,lo≤j→j < H.length→j∉iU→H1[j]?=H[j]?)(hc:Rep H1 true true 3 is c (trL 1 qcp us))(hn:is.Nodup)(hi:∀ j∈is,j∈iU∨H.length≤j)(nl:qco c):
  PkO lo H1 c cN cC {p with Uses:=us} is iN iC:=by
 have hnd:=List.nodup_append.1 h.nd
 have l2:=h.r2.lt
 have l3:=h.r3.lt
 refine⟨hc,h.r2.frame fun j hj=>hf j (h.lo' j (by simp[hj])) (l2 j hj) fun hh=>hnd.2.2 j hh j (by simp[hj]) rfl,h.r3.frame fun j hj=>hf j (h.lo' j (by simp[hj])) (l3 j hj) fun hh=>hnd.2.2 j hh j (by simp[hj]) rfl,List.nodup_append.2 ⟨hn,hnd.2.1,fun a ha b hb e=>?_⟩,fun j hj=>?_,nl,h.l2,h.l3⟩
 ·subst e
  rcases hi a ha with h1 | h1
  ·exact hnd.2.2 a h1 a hb rfl
  ·rcases List.mem_append.1 hb with hb | hb
   ·have:=l2 a hb;omega
   ·have:=l3 a hb;omega
 ·rcases List.mem_append.1 hj with hj | hj
  ·rcases hi j hj with h1 | h1
   ·exact h.lo' j (by simp[h1])
   ·omega
  ·exact h.lo' j (List.mem_append_right _ hj)
theorem PkO.setN {lo:Nat}{H H1:List Entry}{cU cN cC c:Cell}{p:MPack}{iU iN iC is:List Nat}(h:PkO lo H cU cN cC p iU iN iC)(ns:List MNeed)(hlo:lo≤H.length)(hf:∀ j,lo≤j→j < H.length→j∉iN→H1[j]?=H[j]?)(hc:Rep H1 true true 3 is c (trL 2 MNeed.tr ns))(hn:is.Nodup)(hi:∀ j∈is,j∈iN∨H.length≤j)(nl:qco c):
  PkO lo H1 cU c cC {p with Needs:=ns} iU is iC:=by
 have hnd:=List.nodup_append.1 h.nd
 have hnd2:=List.nodup_append.1 hnd.2.1
 have l1:=h.r1.lt
 have l3:=h.r3.lt
 refine⟨h.r1.frame fun j hj=>hf j (h.lo' j (by simp[hj])) (l1 j hj) fun hh=>hnd.2.2 j hj j (by simp[hh]) rfl,hc,h.r3.frame fun j hj=>hf j (h.lo' j (by simp[hj])) (l3 j hj) fun hh=>hnd2.2.2 j hh j hj rfl,List.nodup_append.2 ⟨hnd.1,List.nodup_append.2 ⟨hn,hnd2.2.1,fun a ha b hb e=>?_⟩,fun a ha b hb e=>?_⟩,fun j hj=>?_,h.l1,nl,h.l3⟩
 ·subst e
  rcases hi a ha with h1 | h1
  ·exact hnd2.2.2 a h1 a hb rfl
  ·have:=l3 a hb;omega
 ·subst e
  rcases List.mem_append.1 hb with hb | hb
  ·rcases hi a hb with h1 | h1
   ·exact hnd.2.2 a ha a (by simp[h1]) rfl
   ·have:=l1 a ha;omega
  ·exact hnd.2.2 a ha a (by simp[hb]) rfl
 ·simp only[List.mem_append] at hj
  rcases hj with hj | hj | hj
  ·exact h.lo' j (by simp[hj])
  ·rcases hi j hj with h1 | h1
   ·exact h.lo' j (by simp[h1])
   ·omega
  ·exact h.lo' j (by simp[hj])
theorem PkO.setC {lo:Nat}{H H1:List Entry}{cU cN cC c:Cell}{p:MPack}{iU iN iC is:List Nat}(h:PkO lo H cU cN cC p iU iN iC)(cs:List MCmd)(hlo:lo≤H.length)(hf:∀ j,lo≤j→j < H.length→j∉iC→H1[j]?=H[j]?)(hc:Rep H1 true true 3 is c (trL 2 MCmd.tr cs))(hn:is.Nodup)(hi:∀ j∈is,j∈iC∨H.length≤j)(nl:qco c):
  PkO lo H1 cU cN c {p with Cmds:=cs} iU iN is:=by
 have hnd:=List.nodup_append.1 h.nd
 have hnd2:=List.nodup_append.1 hnd.2.1
 have l1:=h.r1.lt
 have l2:=h.r2.lt
 refine⟨h.r1.frame fun j hj=>hf j (h.lo' j (by simp[hj])) (l1 j hj) fun hh=>hnd.2.2 j hj j (by simp[hh]) rfl,h.r2.frame fun j hj=>hf j (h.lo' j (by simp[hj])) (l2 j hj) fun hh=>hnd2.2.2 j hj j hh rfl,hc,List.nodup_append.2 ⟨hnd.1,List.nodup_append.2 ⟨hnd2.1,hn,fun a ha b hb e=>?_⟩,fun a ha b hb e=>?_⟩,fun j hj=>?_,h.l1,h.l2,nl⟩
 ·subst e
  rcases hi a hb with h1 | h1
  ·exact hnd2.2.2 a ha a h1 rfl
  ·have:=l2 a ha;omega
 ·subst e
  rcases List.mem_append.1 hb with hb | hb
  ·exact hnd.2.2 a ha a (by simp[hb]) rfl
  ·rcases hi a hb with h1 | h1
   ·exact hnd.2.2 a ha a (by simp[h1]) rfl
   ·have:=l1 a ha;omega
 ·simp only[List.mem_append] at hj
  rcases hj with hj | hj | hj
  ·exact h.lo' j (by simp[hj])
  ·exact h.lo' j (by simp[hj])
  ·rcases hi j hj with h1 | h1
   ·exact h.lo' j (by simp[h1])
   ·omega
theorem qpsb (a:Cell):eqC a a=true:=by unfold eqC;simp
theorem qpo {H:List Entry}{c d:Cell}(h:qak false H (.one c)=some (.one d)):reify false H depth c=some d:=by
 simp only[qak,Option.map_eq_some_iff,AV.one.injEq] at h
 obtain⟨x,h1,rfl⟩:=h
 exact h1
theorem qunc {H:List Entry}{a b c d a' b' c' d':Cell}(h1:qak false H (.one a)=some (.one a'))(h2:qak false H (.one b)=some (.one b'))(h3:qak false H (.one c)=some (.one c'))(h4:qak false H (.one d)=some (.one d')):
  qak false H (.agg [a,b,c,d])=some (.agg [a',b',c',d']):=by
 simp only[qak,mapO,qpo h1,qpo h2,qpo h3,qpo h4,Option.map_some]
theorem f_fdk (p:MPack)(h1:p.Uses.length≤1000)(h2:p.Needs.length≤1000)(h3:p.Cmds.length≤1000)(h4:∀ c∈p.Cmds,c.Acts.length≤1000):
  Fresh qiv true 3 [.agg [Cell.str (bs p.Name),qbj p.Uses,encL 2 MNeed.enc p.Needs,encL 2 MCmd.enc p.Cmds]] [.agg p.tr]:=by
 obtain⟨cU,cN,cC,E,a,b,e,⟨iU,u1,u2,_⟩,⟨iN,n1,n2,_⟩,⟨iC,k1,k2,_⟩⟩:=x_fdk p h1 h2 h3 h4
 refine Fresh.agg (ids:=[]++(iU++(iN++(iC++[])))) e ?_ ?_
 ·unfold MPack.tr
  exact .cons ⟨rfl,rfl⟩ (.cons (u1.more (by omega)) (.cons (n1.more (by omega)) (.cons k1 .nil)))
 ·simpa using (u2.app (n2.app k2)).nd
theorem qfyb {p:Run}{args vs:List AV}{cs ds:List Cell}{E H H2:List Entry}(ha:mapO (qak false H) args=some vs)(h:p vs []=some ([.agg cs],E))(hc:qgu p args H=some ([.agg ds],H2))(hn:∀ c∈cs,qco c):∀ d∈ds,qco d:=by
 unfold qgu at hc
 rw[ha] at hc
 simp only[h] at hc
 split at hc
 ·simp only[List.map_cons,List.map_nil,Option.some.injEq,Prod.mk.injEq,List.cons.injEq,AV.agg.injEq,and_true] at hc
  obtain⟨h1,_⟩:=hc
  subst h1
  intro d hd f s q e
  obtain⟨c,hc',rfl⟩:=List.mem_map.1 hd
  cases c with
  | lst f' s' q'=>
   simp only[qgh,Cell.lst.injEq] at e
   have:=hn _ hc' f' s' q' rfl
   rw[← e.1];exact this
  | _=>simp[qgh] at e
 ·simp at hc
theorem d_fdk {H:List Entry}{cs:List Cell}(p:MPack)(h1:p.Uses.length≤1000)(h2:p.Needs.length≤1000)(h3:p.Cmds.length≤1000)(h4:∀ c∈p.Cmds,c.Acts.length≤1000)
  (ha:qak false H (.agg cs)=some (.agg [Cell.str (bs p.Name),qbj p.Uses,encL 2 MNeed.enc p.Needs,encL 2 MCmd.enc p.Cmds])):
  ∃ cU cN cC E iU iN iC,qgu qiv [.agg cs] H=some ([.agg [Cell.str (bs p.Name),cU,cN,cC]],H++E)∧PkO H.length (H++E) cU cN cC p iU iN iC:=by
 obtain⟨cU0,cN0,cC0,E0,a,b,e0,⟨_,_,_,t1⟩,⟨_,_,_,t2⟩,⟨_,_,_,t3⟩⟩:=x_fdk p h1 h2 h3 h4
 have ham:mapO (qak false H) [.agg cs]=some [.agg [Cell.str (bs p.Name),qbj p.Uses,encL 2 MNeed.enc p.Needs,encL 2 MCmd.enc p.Cmds]]:=qcz ha (qbq _)
 obtain⟨ds,E,ids,e1,r1,w1,_⟩:=freshA (f_fdk p h1 h2 h3 h4) H ham
 have hnl:=qfyb ham e0 e1 (by
  intro c hc
  simp only[List.mem_cons,List.not_mem_nil,or_false] at hc
  rcases hc with rfl | rfl | rfl | rfl
  ·intro f s r h;simp at h
  ·exact t1
  ·exact t2
  ·exact t3)
 have r1':=r1
 unfold MPack.tr at r1'
 obtain⟨i0,j1,c0,ds1,q1,rfl,k0,r2⟩:=r1'.cons_inv
 obtain⟨iU,j2,cU,ds2,q2,rfl,k1,r3⟩:=r2.cons_inv
 obtain⟨iN,j3,cN,ds3,q3,rfl,k2,r4⟩:=r3.cons_inv
 obtain⟨iC,j4,cC,ds4,q4,rfl,k3,r5⟩:=r4.cons_inv
 obtain⟨q5,rfl⟩:=r5.nil_inv
 obtain⟨q6,rfl⟩:=k0
 have hids:ids=iU++(iN++iC):=by rw[q1,q2,q3,q4,q5,q6];simp
 refine⟨cU,cN,cC,E,iU,iN,iC,e1,k1,k2,k3,by rw[← hids];exact w1.nd,fun j hj=>w1.lo j (by rw[hids];exact hj),hnl _ (by simp),hnl _ (by simp),hnl _ (by simp)⟩
def qpxc (c:MCmd):Prop:=c.Task.length≤20∧c.Acts.length≤6∧∀ a∈c.Acts,a.length≤100
def qxmb (n:MNeed):Prop:=n.Name.length≤20∧n.Range.length≤40
def qij (p:MPack):Prop:=p.Name.length≤20∧(p.Uses.length≤5∧∀ u∈p.Uses,u.length≤20)∧(p.Needs.length≤4∧∀ n∈p.Needs,qxmb n)∧(p.Cmds.length≤4∧∀ c∈p.Cmds,qpxc c)
theorem qqi.q {p:MPack}(h:qqi p):qij p:=by
 obtain⟨h1,⟨h2,h3⟩,⟨h4,h5⟩,h6,h7⟩:=h
 exact⟨h1,⟨by omega,h3⟩,⟨by omega,fun n hn=>⟨(h5 n hn).1,Nat.le_trans (h5 n hn).2 (by omega)⟩⟩,by omega,fun c hc=>⟨(h7 c hc).1,Nat.le_trans (h7 c hc).2.1 (by omega),(h7 c hc).2.2.1⟩⟩
def qjd (cs:List MCmd)(s:Str):List MCmd:=match cs with
 | x::r=>{x with Acts:=x.Acts++[s]}::r
 | []=>[]
theorem PkO.act {lo id:Nat}{code:Str}{H G:List Entry}{cU cN cC:Cell}{p:MPack}{iU iN iC:List Nat}(h:PkO lo H cU cN cC p iU iN iC)(hne:p.Cmds≠[])(hlen:∀ c∈p.Cmds,c.Acts.length≤1000∧c.Acts≠[])(hlo:lo≤H.length)(hid:id < lo)(d:Dr id code H G)(s:Str):
  ∃ (a0 a1 ca:Cell) (row:List Cell) (q:Cell×List Entry) (H':List Entry) (iC':List Nat),idxA 2 cC 0=some a0∧fldA a0 1=some a1∧deref H a1=some (row,1)∧deref G a1=some (row,1)∧deref (G++[Entry.mk 1 [[Cell.str (bs s)]] 0 false]) a1=some (row,1)∧Ev.cC row 1=some ca∧
   app (G++[Entry.mk 1 [[Cell.str (bs s)]] 0 false]) 1 16 ca [[Cell.str (bs s)]]=some q∧qbt q.2 a1 [q.1]=some H'∧PkO lo H' cU cN cC {p with Cmds:=qjd p.Cmds s} iU iN iC'∧DrN lo id code G H':=by
 have hG:=h.frame d hid
 have hGl:=d.len
 cases hc:p.Cmds with
 | nil=>exact absurd hc hne
 | cons x r=>
  have r3:=hG.r3
  rw[hc,trL,List.map_cons] at r3
  obtain⟨ci,ep,row,rest,i0,i1,rfl,hids,he,hrl,hrest,k0,k1⟩:=r3.head
  have k0':=k0
  unfold MCmd.tr at k0'
  obtain⟨j0,j1,c0,cs1,e0,rfl,q0,q1⟩:=k0'.cons_inv
  obtain⟨ia,j2,ca,cs2,e1,rfl,q2,q3⟩:=q1.cons_inv
  obtain⟨e2,rfl⟩:=q3.nil_inv
  obtain⟨e3,rfl⟩:=q0
  have hia:i0=ia:=by rw[e0,e1,e2,e3];simp
  subst hia
  have hnd:=List.nodup_append.1 hG.nd
  have hndC:=(List.nodup_append.1 hnd.2.1).2.1
  rw[hids] at hndC
  obtain⟨hn1,hn2⟩:=List.nodup_cons.1 hndC
  have hn3:=List.nodup_append.1 hn2
  have hcil:ci < G.length:=(List.getElem?_eq_some_iff.1 he).1
  have heH:H[ci]?=some ⟨2,[Cell.sc (.string (bs x.Task)),ca]::rest,ep,false⟩:=by
   have hl:ci < H.length:=h.r3.lt ci (by rw[hids];exact List.mem_cons_self)
   rw[← d.old ci (fun e=>by have:=h.lo' ci (by simp[hids]);omega) hl]
   exact he
  have hal:=hlen x (by rw[hc];exact List.mem_cons_self)
  have nlA:qco ca:=by
   rcases q2 with⟨h,_⟩ | ⟨_,_,_,_,_,_,rfl,_⟩
   ·simp only[List.map_eq_nil_iff] at h
    exact absurd h hal.2
   ·exact qcb _ _ _ _ _
  obtain⟨dn,G2,ids',a,rr,nl,nd,g,m,k,_⟩:=(q2.app [Entry.mk 1 [[Cell.str (bs s)]] 0 false]).append (by':=16) (ys:=[[Cell.str (bs s)]]) (tys:=[qcp s]) (js:=[]) nlA hn3.1 (.cons (i:=[]) (is:=[]) (Sp.leaf1 _) .nil) (by simp) (by simp) (by simp) (by simp[bound];omega) (by simp[bound];omega)
  have hm:G.length+1≤G2.length:=by simpa using m
  have fr:∀ j,j < G.length→j∉i0→G2[j]?=G[j]?:=fun j hj hn=>by rw[k j (by simp;omega) hn,List.getElem?_append_left hj]
  have hci2:G2[ci]?=some ⟨2,[Cell.sc (.string (bs x.Task)),ca]::rest,ep,false⟩:=by rw[fr ci hcil fun h=>hn1 (List.mem_append_left _ h)];exact he
  have hlt0:=q2.lt
  have gi:∀ j∈ids',j∈i0∨G.length≤j:=fun j hj=>by
   rcases g j hj with h | h | h
   ·exact .inl h
   ·simp at h
   ·simp at h;exact .inr (by omega)
  have hne2:∀ j,j≠ci→(G2.set ci ⟨2,[Cell.sc (.string (bs x.Task)),dn]::rest,ep,false⟩)[j]?=G2[j]?:=fun j hj=>List.getElem?_set_ne (Ne.symm hj)
  have hcs:(G2.set ci ⟨2,[Cell.sc (.string (bs x.Task)),dn]::rest,ep,false⟩)[ci]?=some ⟨2,[Cell.sc (.string (bs x.Task)),dn]::rest,ep,false⟩:=List.getElem?_set_self (by omega)
  have nci:∀ j∈ids',j≠ci:=fun j hj e=>by
   subst e
   rcases gi j hj with h | h
   ·exact hn1 (List.mem_append_left _ h)
   ·omega
  have rr':Rep (G2.set ci ⟨2,[Cell.sc (.string (bs x.Task)),dn]::rest,ep,false⟩) true true 2 ids' dn (trL 1 qcp (x.Acts++[s])):=by
   rw[trL,List.map_append]
   exact rr.frame fun j hj=>hne2 j (nci j hj)
  have k1':Sp (Sp (Rep (G2.set ci ⟨2,[Cell.sc (.string (bs x.Task)),dn]::rest,ep,false⟩) true true 2)) i1 rest (r.map MCmd.tr):=by
   refine k1.mono fun i b t hi hs=>hs.mono fun i' b' t' hi' hr=>hr.frame fun j hj=>?_
   have hj1:=hi j (hi' j hj)
   rw[hne2 j fun e=>hn1 (by rw[← e];exact List.mem_append_right _ hj1),fr j (hr.lt j hj) fun h=>hn3.2.2 j h j hj1 rfl]
  have rC:=Rep.head_mk (i0:=[]++(ids'++[])) (r:=MCmd.tr {x with Acts:=x.Acts++[s]}) hcs rfl hrest (by
   unfold MCmd.tr
   exact .cons ⟨rfl,rfl⟩ (.cons rr' .nil)) k1'
  simp only[List.nil_append,List.append_nil] at rC
  have dd:∀ F:List Entry,F[ci]?=some ⟨2,[Cell.sc (.string (bs x.Task)),ca]::rest,ep,false⟩→deref F (.ptr ci 2 0 1 ep)=some ([Cell.sc (.string (bs x.Task)),ca],1):=fun F hF=>by simp[deref,entry?,hF]
  refine⟨.ptr ci 2 0 0 ep,.ptr ci 2 0 1 ep,ca,[Cell.sc (.string (bs x.Task)),ca],(dn,G2),G2.set ci ⟨2,[Cell.sc (.string (bs x.Task)),dn]::rest,ep,false⟩,ci::(ids'++i1),?_,by rw[qlv],dd H heH,dd G he,dd _ (by rw[List.getElem?_append_left hcil];exact he),rfl,a,?_,?_,?_⟩
  ·simp only[idxA,if_true]
   rw[if_pos ⟨by omega,by omega⟩]
   rfl
  ·simp[qbt,entry?,hci2,splice]
  ·refine PkO.setC hG (qjd (x::r) s) (by omega) (H1:=G2.set ci ⟨2,[Cell.sc (.string (bs x.Task)),dn]::rest,ep,false⟩) (fun j _ hj hn=>?_) ?_ ?_ (fun j hj=>?_) (qcb _ _ _ _ _)
   ·rw[hids] at hn
    rw[hne2 j fun e=>hn (by rw[e];exact List.mem_cons_self),fr j hj fun h=>hn (List.mem_cons_of_mem _ (List.mem_append_left _ h))]
   ·exact rC
   ·refine List.nodup_cons.2 ⟨fun h=>?_,List.nodup_append.2 ⟨nd,hn3.2.1,fun b hb c hc e=>?_⟩⟩
    ·rcases List.mem_append.1 h with h | h
     ·exact nci ci h rfl
     ·exact hn1 (List.mem_append_right _ h)
    ·subst e
     rcases gi b hb with h | h
     ·exact hn3.2.2 b h b hc rfl
     ·have:=hG.r3.lt b (by rw[hids];exact List.mem_cons_of_mem _ (List.mem_append_right _ hc))
      omega
   ·rw[hids]
    rcases List.mem_cons.1 hj with rfl | hj
    ·exact .inl List.mem_cons_self
    ·rcases List.mem_append.1 hj with hj | hj
     ·rcases gi j hj with h | h
      ·exact .inl (List.mem_cons_of_mem _ (List.mem_append_left _ h))
      ·exact .inr h
     ·exact .inl (List.mem_cons_of_mem _ (List.mem_append_right _ hj))
  ·refine DrN.ofF d.cur hid (by simp;omega) fun j hj=>?_
   have hlo2:=h.lo' ci (by simp[hids])
   rw[hne2 j (by omega),fr j (by omega) fun hh=>by
    have:=h.lo' j (by rw[hids];simp[hh])
    omega]
theorem PkO.pushU {lo:Nat}{H:List Entry}{cU cN cC:Cell}{p:MPack}{iU iN iC:List Nat}(h:PkO lo H cU cN cC p iU iN iC)(hlo:lo≤H.length)(s:Str)(hl:p.Uses.length≤1000):
  ∃ (q:Cell×List Entry) (iU':List Nat),app (H++[Entry.mk 1 [[Cell.str (bs s)]] 0 false]) 1 16 cU [[Cell.str (bs s)]]=some q∧PkO lo q.2 q.1 cN cC {p with Uses:=p.Uses++[s]} iU' iN iC∧H.length≤q.2.length∧∀ j,j < lo→q.2[j]?=H[j]?:=by
 obtain⟨d,H',ids',a,r,nl,nd,g,m,k,_⟩:=(h.r1.app [Entry.mk 1 [[Cell.str (bs s)]] 0 false]).append (by':=16) (ys:=[[Cell.str (bs s)]]) (tys:=[qcp s]) (js:=[]) h.l1 (List.nodup_append.1 h.nd).1 (.cons (i:=[]) (is:=[]) (Sp.leaf1 _) .nil) (by simp) (by simp) (by simp) (by simp[bound];omega) (by simp[bound];omega)
 have hm:H.length+1≤H'.length:=by simpa using m
 have fr:∀ j,j < H.length→j∉iU→H'[j]?=H[j]?:=fun j hj hn=>by rw[k j (by simp;omega) hn,List.getElem?_append_left hj]
 refine⟨(d,H'),ids',a,h.setU (p.Uses++[s]) hlo (fun j _=>fr j) (by rw[trL,List.map_append];exact r) nd (fun j hj=>?_) nl,by show H.length≤H'.length;omega,fun j hj=>fr j (by omega) fun hh=>by have:=h.lo' j (by simp[hh]);omega⟩
 rcases g j hj with h | h | h
 ·exact .inl h
 ·simp at h
 ·simp at h;exact .inr (by omega)
theorem PkO.pushN {lo:Nat}{H:List Entry}{cU cN cC:Cell}{p:MPack}{iU iN iC:List Nat}(h:PkO lo H cU cN cC p iU iN iC)(hlo:lo≤H.length)(x:MNeed)(hl:p.Needs.length≤1000):
  ∃ (q:Cell×List Entry) (iN':List Nat),app (H++[Entry.mk 2 [[Cell.str (bs x.Name),Cell.str (bs x.Range)]] 0 false]) 2 32 cN [[Cell.str (bs x.Name),Cell.str (bs x.Range)]]=some q∧PkO lo q.2 cU q.1 cC {p with Needs:=p.Needs++[x]} iU iN' iC∧H.length≤q.2.length∧∀ j,j < lo→q.2[j]?=H[j]?:=by
 have hx:Sp (Rep (H++[Entry.mk 2 [[Cell.str (bs x.Name),Cell.str (bs x.Range)]] 0 false]) true true 2) ([]:List Nat) [Cell.str (bs x.Name),Cell.str (bs x.Range)] (MNeed.tr x):=by
  unfold MNeed.tr
  exact .cons (i:=[]) (is:=[]) ⟨rfl,rfl⟩ (Sp.leaf1 _)
 obtain⟨d,H',ids',a,r,nl,nd,g,m,k,_⟩:=(h.r2.app [Entry.mk 2 [[Cell.str (bs x.Name),Cell.str (bs x.Range)]] 0 false]).append (by':=32) (ys:=[[Cell.str (bs x.Name),Cell.str (bs x.Range)]]) (tys:=[MNeed.tr x]) (js:=[]) h.l2 (List.nodup_append.1 (List.nodup_append.1 h.nd).2.1).1 (.cons (i:=[]) (is:=[]) hx .nil) (by simp) (by simp) (by simp) (by simp[bound];omega) (by simp[bound];omega)
 have hm:H.length+1≤H'.length:=by simpa using m
 have fr:∀ j,j < H.length→j∉iN→H'[j]?=H[j]?:=fun j hj hn=>by rw[k j (by simp;omega) hn,List.getElem?_append_left hj]
 refine⟨(d,H'),ids',a,h.setN (p.Needs++[x]) hlo (fun j _=>fr j) (by rw[trL,List.map_append];exact r) nd (fun j hj=>?_) nl,by show H.length≤H'.length;omega,fun j hj=>fr j (by omega) fun hh=>by have:=h.lo' j (by simp[hh]);omega⟩
 rcases g j hj with h | h | h
 ·exact .inl h
 ·simp at h
 ·simp at h;exact .inr (by omega)
theorem PkO.pushC {lo id:Nat}{code:Str}{G H:List Entry}{cU cN cC c:Cell}{p:MPack}{iU iN iC:List Nat}(h:PkO lo G cU cN cC p iU iN iC)(hlo:lo≤G.length)(hid:id < lo)(dd:Dr id code G H)(x:MCmd)(ho:OwnM G.length H.length H 2 c (trL 1 qcp x.Acts))(hl:p.Cmds.length≤1000):
  ∃ (q:Cell×List Entry) (iC':List Nat),app (H++[Entry.mk 2 [[Cell.str (bs x.Task),c]] 0 false]) 2 40 cC [[Cell.str (bs x.Task),c]]=some q∧PkO lo q.2 cU cN q.1 {p with Cmds:=p.Cmds++[x]} iU iN iC'∧H.length≤q.2.length∧∀ j,j < lo→q.2[j]?=H[j]?:=by
 obtain⟨js,j1,j2,_⟩:=ho
 have hml:=j2.le
 have hH:=h.frame dd hid
 have l3:=h.r3.lt
 have hx:Sp (Rep (H++[Entry.mk 2 [[Cell.str (bs x.Task),c]] 0 false]) true true 2) ([]++(js++[])) [Cell.str (bs x.Task),c] (MCmd.tr x):=by
  unfold MCmd.tr
  exact .cons ⟨rfl,rfl⟩ (.cons (j1.app _) .nil)
 have hnd:=List.nodup_append.1 h.nd
 have hnd2:=List.nodup_append.1 hnd.2.1
 obtain⟨d,H',ids',a,r,nl,nd,g,m,k,_⟩:=(hH.r3.app [Entry.mk 2 [[Cell.str (bs x.Task),c]] 0 false]).append (by':=40) (ys:=[[Cell.str (bs x.Task),c]]) (tys:=[MCmd.tr x]) (js:=([]++(js++[]))++[]) h.l3 hnd2.2.1 (.cons hx .nil) (by simp) (by simpa using j2.nd) (fun j hj hh=>by
  have e1:=l3 j hj
  have e2:=j2.lo j (by simpa using hh)
  omega) (by simp[bound];omega) (by simp[bound];omega)
 have hm:H.length+1≤H'.length:=by simpa using m
 have fr:∀ j,j < H.length→j∉iC→H'[j]?=H[j]?:=fun j hj hn=>by rw[k j (by simp;omega) hn,List.getElem?_append_left hj]
 refine⟨(d,H'),ids',a,h.setC (p.Cmds++[x]) hlo (fun j hj1 hj hn=>by rw[fr j (by omega) hn];exact dd.old j (by omega) hj) (by rw[trL,List.map_append];exact r) nd (fun j hj=>?_) nl,by show H.length≤H'.length;omega,fun j hj=>fr j (by omega) fun hh=>by have:=h.lo' j (by simp[hh]);omega⟩
 rcases g j hj with h | h | h
 ·exact .inl h
 ·exact .inr (j2.lo j (by simpa using h))
 ·simp at h;exact .inr (by omega)
theorem PkO.name {lo:Nat}{H:List Entry}{cU cN cC:Cell}{p:MPack}{iU iN iC:List Nat}(h:PkO lo H cU cN cC p iU iN iC)(s:Str):PkO lo H cU cN cC {p with Name:=s} iU iN iC:=⟨h.r1,h.r2,h.r3,h.nd,h.lo',h.l1,h.l2,h.l3⟩
theorem qiib {id:Nat}{code:Str}{H:List Entry}(hc:Cur H id code)(hl:code.length≤1048576):∃ (p:MPack) (cU cN cC:Cell) (H':List Entry),qjb [.one (.ptr id 3 0 0 0)] H=some ([.agg [Cell.str (bs p.Name),cU,cN,cC]],H')∧Dr id code H H'∧
  OwnS H.length H'.length H' 3 [Cell.str (bs p.Name),cU,cN,cC] p.tr∧qij p:=by
 have hM:=qah
 have hid:id < H.length:=by obtain⟨i,x,_,he⟩:=hc;exact(List.getElem?_eq_some_iff.1 he).1
 obtain⟨s1,G1,e1,d1,m1⟩:=qen hc hl true [[97],[98]] (by simp) (by simp)
 have hs1:s1.length≤20:=(by decide:∀ s∈([[97],[98]]:List Str),s.length≤20) s1 m1
 simp only[List.map_cons,List.map_nil,eStr] at e1
 obtain⟨p0,cN0,cC0,mid,G2,e2,d2,oN,oC,pn,pu,ps,pne⟩:=qicb d1.cur hl s1 hs1
 obtain⟨v,G3,e3,d3,hv⟩:=qcu d2.cur hl 4 (by omega) (by omega)
 obtain⟨us,hus,f,hsl⟩:∃ us:List Str,us=([[97],[98],[99]]:List Str).take v∧∃ f,slcC 1 (.lst true 1 [[Cell.str (bs [97])],[Cell.str (bs [98])],[Cell.str (bs [99])]]) 0 (some (v:Int)) none=some (.lst f 1 (us.map eStr)):=by
  refine⟨_,rfl,?_⟩
  have:v=0∨v=1∨v=2∨v=3:=by omega
  rcases this with rfl | rfl | rfl | rfl<;>exact⟨_,rfl⟩
 have husl:us.length≤3:=by rw[hus];simp;omega
 have husm:∀ u∈us,u.length≤20:=fun u hu=>by
  rw[hus] at hu
  exact(by decide:∀ s∈([[97],[98],[99]]:List Str),s.length≤20) u (List.mem_of_mem_take hu)
 have d12:=d1.trans d2
 have hmid:G1.length≤mid:=by obtain⟨_,_,h,_⟩:=oN;exact h.le
 have hmid2:mid≤G2.length:=by obtain⟨_,_,h,_⟩:=oC;exact h.le
 have hidG:id < G1.length:=by have:=d1.len;omega
 have oN3:=oN.frame (d3.toN (Nat.le_refl _)) hidG hmid2
 have oC3:=oC.frame (d3.toN (Nat.le_refl _)) (by omega) (Nat.le_refl _)
 have ra:qak false G3 (.agg [Cell.str (bs s1),.lst f 1 (us.map eStr),cN0,cC0])=some (.agg [Cell.str (bs s1),qbj us,encL 2 MNeed.enc p0.Needs,encL 2 MCmd.enc p0.Cmds]):=by
  refine qunc (qbf _ _ _) (qul f us G3) ?_ ?_
  ·obtain⟨ids,r,_⟩:=oN3
   have:=qei r (by omega)
   rwa [qbv] at this
  ·obtain⟨ids,r,_⟩:=oC3
   have:=qei r (by omega)
   rwa [qbv] at this
 obtain⟨psn,⟨psu,psu'⟩,⟨psl,psl'⟩,psc,psc'⟩:=ps
 obtain⟨cU,cN,cC,E,iU,iN,iC,e4,k4⟩:=d_fdk (H:=G3) (cs:=[Cell.str (bs s1),.lst f 1 (us.map eStr),cN0,cC0]) {p0 with Name:=s1,Uses:=us} (by show us.length≤1000;omega) (by show p0.Needs.length≤1000;omega) (by show p0.Cmds.length≤1000;omega) (fun c hc=>by have:=(psc' c hc).2.1;omega) ra
 obtain⟨p1,hp1⟩:∃ p1:MPack,p1={p0 with Name:=s1,Uses:=us}:=⟨_,rfl⟩
 rw[← hp1] at k4
 have q1:qij p1:=by
  rw[hp1]
  exact⟨hs1,⟨by show us.length≤5;omega,husm⟩,⟨by show p0.Needs.length≤4;omega,fun n hn=>⟨(psl' n hn).1,Nat.le_trans (psl' n hn).2 (by omega)⟩⟩,by show p0.Cmds.length≤4;omega,fun c hc=>⟨(psc' c hc).1,Nat.le_trans (psc' c hc).2.1 (by omega),(psc' c hc).2.2.1⟩⟩
 have q1u:p1.Uses.length≤3:=by rw[hp1];exact husl
 have q1n:p1.Needs.length≤3:=by rw[hp1];exact psl
 have q1c:p1.Cmds.length≤3:=by rw[hp1];exact psc
 have q1a:∀ c∈p1.Cmds,c.Acts.length≤3∧c.Acts≠[]:=fun c hc=>by rw[hp1] at hc;exact⟨(psc' c hc).2.1,(psc' c hc).2.2.2⟩
 have q1e:p1.Cmds≠[]:=by rw[hp1];exact pne
 have q1nm:p1.Name=s1:=by rw[hp1]
 have e4:qgu qiv [.agg [Cell.str (bs s1),.lst f 1 (us.map eStr),cN0,cC0]] G3=some ([.agg [Cell.str (bs s1),cU,cN,cC]],G3++E):=e4
 have dE:=Dr.app d3.cur E
 obtain⟨w,G5,e5,d5,hw⟩:=qcu dE.cur hl 12 (by omega) (by omega)
 have hid3:id < G3.length:=by have:=d12.len;have:=d3.len;omega
 have k5:=k4.frame d5 hid3
 have d05:Dr id code H G5:=d12.trans (d3.trans (dE.trans d5))
 have hG3:H.length≤G3.length:=by have:=(d12.trans d3).len;omega
 have hG35:G3.length≤G5.length:=by have:=(dE.trans d5).len;simpa using this
 have w5:IntKind.i64.wrap 0=0:=rfl
 simp only[show((12:Nat):Int)=12 from rfl,show((4:Nat):Int)=4 from rfl] at e5 e3
 have fin:∀ {G:List Entry} {a b c:Cell} {p:MPack} {i1 i2 i3:List Nat},PkO G3.length G a b c p i1 i2 i3→G3.length≤G.length→OwnS H.length G.length G 3 [Cell.str (bs p.Name),a,b,c] p.tr:=fun k hk=>by
  obtain⟨ids,r,m⟩:=k.s hk
  exact⟨ids,r,m.wide hG3 (Nat.le_refl _)⟩
 have hsplit:w=0∨w=1∨w=2∨w=3∨w=4∨5≤w:=by omega
 rcases hsplit with rfl | rfl | rfl | rfl | rfl | hw5
 ·obtain⟨s,G6,e6,d6,m6⟩:=qen d5.cur hl true [[],[65],[101,108,101,118,101,110,98,121,116,101,115]] (by simp) (by simp)
  have hs:s.length≤20:=(by decide:∀ s∈([[],[65],[101,108,101,118,101,110,98,121,116,101,115]]:List Str),s.length≤20) s m6
  simp only[List.map_cons,List.map_nil,eStr] at e6
  refine⟨{p1 with Name:=s},cU,cN,cC,G6,qec 0 ?_,d05.trans d6,fin ((k5.frame d6 hid3).name s) (Nat.le_trans hG35 d6.len),hs,q1.2⟩
  simp only[fdg,e1,e2,e3,hsl,e4,e5,EV0]
  rw[show(((0:Nat):Int)==0)=true from rfl,cond_true]
  simp only[e6,EV0]
 ·obtain⟨s,G6,e6,d6,m6⟩:=qen d5.cur hl true [[97],[122],[65]] (by simp) (by simp)
  have hs:s.length≤20:=(by decide:∀ s∈([[97],[122],[65]]:List Str),s.length≤20) s m6
  simp only[List.map_cons,List.map_nil,eStr] at e6
  obtain⟨q,iU',e7,k7,l7,f7⟩:=(k5.frame d6 hid3).pushU (Nat.le_trans hG35 d6.len) s (by omega)
  have hl6:=d6.len
  refine⟨{p1 with Uses:=p1.Uses++[s]},q.1,cN,cC,q.2,qec 0 ?_,(d05.toN (Nat.le_refl _)).trans ((d6.toN d05.len).trans (DrN.ofF d6.cur hid l7 fun j hj=>f7 j (by omega))) |>.full,fin k7 (by omega),q1.1,⟨by simp;omega,fun u hu=>?_⟩,q1.2.2⟩
  ·simp only[fdg,e1,e2,e3,hsl,e4,e5,EV0]
   rw[show(((1:Nat):Int)==0)=false from rfl,cond_false,show(((1:Nat):Int)==1)=true from rfl,cond_true]
   simp only[e6,qem,e7,q1nm,EV0]
  ·rcases List.mem_append.1 hu with h | h
   ·exact q1.2.1.2 u h
   ·simp only[List.mem_singleton] at h
    rw[h];exact hs
 ·obtain⟨s,G6,e6,d6,m6⟩:=qen d5.cur hl true [[97],[122,122]] (by simp) (by simp)
  have hs:s.length≤20:=(by decide:∀ s∈([[97],[122,122]]:List Str),s.length≤20) s m6
  obtain⟨t,G7,e7,d7,m7⟩:=qen d6.cur hl true [[120],[42],[],[62,61,49,46,48,46,48,32,60,50,46,48,46,48,32,124,124,32,51,46,120]] (by simp) (by simp)
  have ht:t.length≤40:=(by decide:∀ s∈([[120],[42],[],[62,61,49,46,48,46,48,32,60,50,46,48,46,48,32,124,124,32,51,46,120]]:List Str),s.length≤40) t m7
  simp only[List.map_cons,List.map_nil,eStr] at e6 e7
  have d67:=d6.trans d7
  obtain⟨q,iN',e8,k8,l8,f8⟩:=(k5.frame d67 hid3).pushN (Nat.le_trans hG35 d67.len) ⟨s,t⟩ (by omega)
  have hl6:=d67.len
  refine⟨{p1 with Needs:=p1.Needs++[⟨s,t⟩]},cU,q.1,cC,q.2,qec 0 ?_,(d05.toN (Nat.le_refl _)).trans ((d67.toN d05.len).trans (DrN.ofF d67.cur hid l8 fun j hj=>f8 j (by omega))) |>.full,fin k8 (by omega),q1.1,q1.2.1,⟨by simp;omega,fun u hu=>?_⟩,q1.2.2.2⟩
  ·simp only[fdg,e1,e2,e3,hsl,e4,e5,EV0]
   rw[show(((2:Nat):Int)==0)=false from rfl,cond_false,show(((2:Nat):Int)==1)=false from rfl,cond_false,show(((2:Nat):Int)==2)=true from rfl,cond_true]
   simp only[e6,e7,qem,e8,q1nm,EV0]
  ·rcases List.mem_append.1 hu with h | h
   ·exact q1.2.2.1.2 u h
   ·simp only[List.mem_singleton] at h
    rw[h];exact⟨hs,ht⟩
 ·obtain⟨s,G6,e6,d6,m6⟩:=qen d5.cur hl true [[97],[122,122]] (by simp) (by simp)
  have hs:s.length≤20:=(by decide:∀ s∈([[97],[122,122]]:List Str),s.length≤20) s m6
  simp only[List.map_cons,List.map_nil,eStr] at e6
  obtain⟨l,cl,G7,e7,d7,o7,h7,h7'⟩:=qcyc d6.cur hl
  obtain⟨q,iC',e8,k8,l8,f8⟩:=(k5.frame d6 hid3).pushC (Nat.le_trans hG35 d6.len) hid3 d7 ⟨s,l⟩ o7 (by omega)
  have d67:=d6.trans d7
  have hl6:=d67.len
  refine⟨{p1 with Cmds:=p1.Cmds++[⟨s,l⟩]},cU,cN,q.1,q.2,qec 0 ?_,(d05.toN (Nat.le_refl _)).trans ((d67.toN d05.len).trans (DrN.ofF d67.cur hid l8 fun j hj=>f8 j (by omega))) |>.full,fin k8 (by omega),q1.1,q1.2.1,q1.2.2.1,by simp;omega,fun u hu=>?_⟩
  ·simp only[fdg,e1,e2,e3,hsl,e4,e5,EV0]
   rw[show(((3:Nat):Int)==0)=false from rfl,cond_false,show(((3:Nat):Int)==1)=false from rfl,cond_false,show(((3:Nat):Int)==2)=false from rfl,cond_false,show(((3:Nat):Int)==3)=true from rfl,cond_true]
   simp only[e6,e7,qem,e8,q1nm,EV0]
  ·rcases List.mem_append.1 hu with h | h
   ·exact q1.2.2.2.2 u h
   ·simp only[List.mem_singleton] at h
    rw[h];exact⟨hs,by show l.length≤6;omega,fun a ha=>Nat.le_trans (h7' a ha) (by omega)⟩
 ·obtain⟨s,G6,e6,d6,m6⟩:=qen d5.cur hl true [[10],[97,32,116,101,120,116,32,111,102,32,109,111,114,101,32,116,104,97,110,32,102,111,114,116,121,32,98,121,116,101,115,44,32,97,115,32,105,116,32,115,101,101,109,115]] (by simp) (by simp)
  have hs:s.length≤100:=(by decide:∀ s∈([[10],[97,32,116,101,120,116,32,111,102,32,109,111,114,101,32,116,104,97,110,32,102,111,114,116,121,32,98,121,116,101,115,44,32,97,115,32,105,116,32,115,101,101,109,115]]:List Str),s.length≤100) s m6
  simp only[List.map_cons,List.map_nil,eStr] at e6
  obtain⟨a0,a1,ca,row,q,H',iC',x1,x2,x3,x4,x5,x6,x7,x8,x9,x10⟩:=k5.act q1e (fun c hc=>⟨by have:=(q1a c hc).1;omega,(q1a c hc).2⟩) hG35 hid3 d6 s
  have hl6:=d6.len
  refine⟨{p1 with Cmds:=qjd p1.Cmds s},cU,cN,cC,H',qec 0 ?_,(d05.toN (Nat.le_refl _)).trans ((d6.toN d05.len).trans ⟨x10.len,fun j hj hjl=>x10.old j hj (by omega),x10.cur⟩) |>.full,fin x9 (by have:=x10.len;omega),q1.1,q1.2.1,q1.2.2.1,?_,fun u hu=>?_⟩
  ·simp only[fdg,e1,e2,e3,hsl,e4,e5,EV0]
   rw[show(((4:Nat):Int)==0)=false from rfl,cond_false,show(((4:Nat):Int)==1)=false from rfl,cond_false,show(((4:Nat):Int)==2)=false from rfl,cond_false,show(((4:Nat):Int)==3)=false from rfl,cond_false,show(((4:Nat):Int)==4)=true from rfl,cond_true]
   simp only[x1,x2,x3,x6,e6,qem,x7,x8,x4,x5,qpsb,q1nm,EV0]
  ·show(qjd p1.Cmds s).length≤4
   cases hcm:p1.Cmds with
   | nil=>simp[qjd]
   | cons x r=>rw[hcm] at q1c;simp[qjd] at q1c ⊢;omega
  ·cases hcm:p1.Cmds with
   | nil=>exact absurd hcm q1e
   | cons x r=>
    have hxm:x∈p1.Cmds:=by rw[hcm];exact List.mem_cons_self
    have hu:u∈qjd p1.Cmds s:=hu
    rw[hcm] at hu
    simp only[qjd,List.mem_cons] at hu
    rcases hu with rfl | hu
    ·have hx:=q1.2.2.2.2 x hxm
     have ha:=(q1a x hxm).1
     refine⟨hx.1,by simp;omega,fun a ha'=>?_⟩
     rcases List.mem_append.1 ha' with h | h
     ·exact hx.2.2 a h
     ·simp only[List.mem_singleton] at h
      rw[h];exact hs
    ·exact q1.2.2.2.2 u (by rw[hcm];exact List.mem_cons_of_mem _ hu)
 ·refine⟨p1,cU,cN,cC,G5,qec 0 ?_,d05,fin k5 hG35,q1⟩
  simp only[fdg,e1,e2,e3,hsl,e4,e5,EV0]
  rw[show((w:Int)==0)=false by simp;omega,cond_false,show((w:Int)==1)=false by simp;omega,cond_false,show((w:Int)==2)=false by simp;omega,cond_false,show((w:Int)==3)=false by simp;omega,cond_false,show((w:Int)==4)=false by simp;omega,cond_false,q1nm]
theorem OwnM.set0 {lo mid n sz:Nat}{H:List Entry}{c:Cell}{t:List Tr}{ts:List (List Tr)}{row:List Cell}{r:List Tr}(h:OwnM lo mid H (n+1) c (.list sz (t::ts)))(hr:OwnS mid H.length H n row r)(hrl:row.length=sz):
  ∃ (a:Cell) (H':List Entry),idxA sz c 0=some a∧qbt H a row=some H'∧OwnM lo H'.length H' (n+1) c (.list sz (r::ts))∧H.length≤H'.length∧∀ j,j < lo→H'[j]?=H[j]?:=by
 obtain⟨ids,h1,h2,h3⟩:=h
 obtain⟨js,k1,k2⟩:=hr
 obtain⟨ci,ep,old,rest,i0,i1,rfl,rfl,he,hol,hrest,q0,q1⟩:=h1.head
 have hcil:ci < H.length:=(List.getElem?_eq_some_iff.1 he).1
 obtain⟨hn1,hn2⟩:=List.nodup_cons.1 h2.nd
 have hn3:=List.nodup_append.1 hn2
 have hne:∀ j,j≠ci→(H.set ci ⟨sz,row::rest,ep,false⟩)[j]?=H[j]?:=fun j hj=>List.getElem?_set_ne (Ne.symm hj)
 have hcs:(H.set ci ⟨sz,row::rest,ep,false⟩)[ci]?=some ⟨sz,row::rest,ep,false⟩:=List.getElem?_set_self hcil
 have hcm:ci < mid:=h2.hi ci List.mem_cons_self
 have njs:∀ j∈js,j≠ci:=fun j hj=>by have:=k2.lo j hj;omega
 have rC:=Rep.head_mk (i0:=js) (i1:=i1) (r:=r) hcs hrl hrest (k1.mono fun i b t' hi hr=>hr.frame fun j hj=>hne j (njs j (hi j hj)))
  (q1.mono fun i b t' hi hs=>hs.mono fun i' b' t'' hi' hr=>hr.frame fun j hj=>hne j fun e=>hn1 (by rw[← e];exact List.mem_append_right _ (hi j (hi' j hj))))
 have hle:=h2.le
 have hml:=k2.le
 refine⟨.ptr ci sz 0 0 ep,H.set ci ⟨sz,row::rest,ep,false⟩,?_,?_,⟨ci::(js++i1),rC,⟨by simp;omega,List.nodup_cons.2 ⟨fun hh=>?_,List.nodup_append.2 ⟨k2.nd,hn3.2.1,fun a ha b hb e=>?_⟩⟩,fun j hj=>?_,rC.lt⟩,qcb _ _ _ _ _⟩,by simp,fun j hj=>hne j (by have:=h2.lo ci List.mem_cons_self;omega)⟩
 ·simp only[idxA,if_true]
  rw[if_pos ⟨by omega,by omega⟩]
  rfl
 ·have hsp:splice old 0 row=row:=by
   unfold splice
   rw[List.take_zero,List.nil_append,List.drop_eq_nil_of_le (by omega),List.append_nil]
  have hent:entry? H ci ep=some ⟨sz,old::rest,ep,false⟩:=by simp[entry?,he]
  simp only[qbt,hent,List.getElem?_cons_zero]
  rw[if_pos ⟨trivial,by omega,trivial⟩,hsp]
  rfl
 ·rcases List.mem_append.1 hh with hh | hh
  ·exact njs ci hh rfl
  ·exact hn1 (List.mem_append_right _ hh)
 ·subst e
  have e1:=k2.lo a ha
  have e2:=h2.hi a (List.mem_cons_of_mem _ (List.mem_append_right _ hb))
  omega
 ·rcases List.mem_cons.1 hj with rfl | hj
  ·exact h2.lo _ List.mem_cons_self
  ·rcases List.mem_append.1 hj with hj | hj
   ·have:=k2.lo j hj;omega
   ·exact h2.lo j (List.mem_cons_of_mem _ (List.mem_append_right _ hj))
theorem qgv {id:Nat}{code:Str}{H:List Entry}(hc:Cur H id code)(hl:code.length≤1048576):∃ (l:List MPack) (c:Cell) (H':List Entry),qhp [.one (.ptr id 3 0 0 0)] H=some ([.one c],H')∧Dr id code H H'∧
    OwnM H.length H'.length H' 4 c (trL 4 MPack.tr l) ∧ l.length ≤ 9 ∧ ∀ p ∈ l, qij p := by
  have hM := qah
  have hid : id < H.length := by obtain ⟨i, x, _, he⟩ := hc; exact (List.getElem?_eq_some_iff.1 he).1
  obtain ⟨b, G1, e1, d1⟩ := qmp hc hl 3 (by omega) (by omega)
  obtain ⟨l, v, c, G2, e2, d2, o2, r1, r2, r3⟩ := qvsb d1.cur hl b
  obtain ⟨w, G3, e3, d3, hw⟩ := qcu d2.cur hl 8 (by omega) (by omega)
  have hl4 : l.length ≤ 4 := by rw [r3]; simp [qxp]; omega
  have hl1 : 1 ≤ l.length := by rw [r3]; simp [qxp]; omega
  have hsm : ∀ p ∈ l, qij p := fun p hp => (r1.sm p hp).q
  have o3 := o2.frame (d3.toN (Nat.le_refl _)) (by have := d1.len; omega) (Nat.le_refl _)
  have d123 := d1.trans (d2.trans d3)
  have hG := d1.len
  have hG2 := d2.len
  have hG3 := d3.len
  simp only [show ((3 : Nat) : Int) = 3 from rfl, show ((8 : Nat) : Int) = 8 from rfl] at e1 e3
  have hsplit : w = 0 ∨ w = 1 ∨ w = 2 ∨ 3 ≤ w := by omega
  rcases hsplit with rfl | rfl | rfl | hw3
  · obtain ⟨p, cU, cN, cC, G4, e4, d4, o4, q4⟩ := qiib d3.cur hl
    have o34 := o3.frame (d4.toN (Nat.le_refl _)) (by omega) d3.len
    obtain ⟨q, e5, o5, d5⟩ := OwnM.push (by' := 88) (sz := 4) (row := [Cell.str (bs p.Name), cU, cN, cC]) (tr := MPack.tr p) o34 (by
      obtain ⟨js, j1, j2⟩ := o4
      exact ⟨js, j1, j2.wide hG3 (Nat.le_refl _)⟩) rfl d4.cur (by omega) (by simp; omega) (by omega)
    refine ⟨l ++ [p], q.1, q.2, qhh 0 ?_, ((d123.trans d4).toN (Nat.le_refl _)).trans ⟨d5.len, fun j hj hjl => d5.old j hj (by omega), d5.cur⟩ |>.full, by
      rw [trL, List.map_append]
      exact o5.wide hG (Nat.le_refl _), by simp; omega, fun x hx => ?_⟩
    · simp only [fds, e1, e2, e3, EV0]
      rw [show (((0 : Nat) : Int) == 0) = true from rfl, cond_true]
      simp only [e4, qem, e5, EV0]
    · rcases List.mem_append.1 hx with h | h
      · exact hsm x h
      · simp only [List.mem_singleton] at h
        rw [h]; exact q4
  · obtain ⟨p, cU, cN, cC, G4, e4, d4, o4, q4⟩ := qiib d3.cur hl
    have o34 := o3.frame (d4.toN (Nat.le_refl _)) (by omega) d3.len
    cases hlc : l with
    | nil => rw [hlc] at hl1; simp at hl1
    | cons x r =>
      rw [hlc, trL, List.map_cons] at o34
      obtain ⟨a, H', x1, x2, x3, x4, x5⟩ := o34.set0 (r := MPack.tr p) (row := [Cell.str (bs p.Name), cU, cN, cC]) (by
        obtain ⟨js, j1, j2⟩ := o4
        exact ⟨js, j1, j2.wide hG3 (Nat.le_refl _)⟩) rfl
      have hd4 := d4.len
      refine ⟨p :: r, c, H', qhh 0 ?_, ((d123.trans d4).toN (Nat.le_refl _)).trans (DrN.ofF d4.cur hid x4 fun j hj => x5 j (by omega)) |>.full, by
        rw [trL, List.map_cons]
        exact x3.wide hG (Nat.le_refl _), by rw [hlc] at hl4; simp at hl4 ⊢; omega, fun y hy => ?_⟩
      · simp only [fds, e1, e2, e3, EV0]
        rw [show (((1 : Nat) : Int) == 0) = false from rfl, cond_false, show (((1 : Nat) : Int) == 1) = true from rfl, cond_true]
        simp only [e4, x1, x2, EV0]
      · rcases List.mem_cons.1 hy with rfl | hy
        · exact q4
        · exact hsm y (by rw [hlc]; exact List.mem_cons_of_mem _ hy)
  · have loop : ∀ (d i n : Nat) (l' : List MPack) (c : Cell) (G : List Entry), i + d = 5 → d < n → DrN G1.length id code G3 G → OwnM G1.length G.length G 4 c (trL 4 MPack.tr l') → l'.length + d ≤ 9 → (∀ p ∈ l', qij p) → ∀ k m,
        ∃ (l2 : List MPack) (c' : Cell) (H' : List Entry), qxn k m n c (i : Int) G = some ([.one c'], H') ∧ DrN G1.length id code G3 H' ∧ OwnM G1.length H'.length H' 4 c' (trL 4 MPack.tr l2) ∧ l2.length ≤ 9 ∧ ∀ p ∈ l2, qij p := by
      intro d
      induction d with
      | zero =>
        intro i n l' c G hi hn hd ho hll hs k m
        obtain ⟨n, rfl⟩ : ∃ j, n = j + 1 := ⟨n - 1, by omega⟩
        refine ⟨l', c, G, ?_, hd, ho, by omega, hs⟩
        simp only [qxn]
        rw [decide_eq_false (by omega), cond_false]
      | succ d ih =>
        intro i n l' c G hi hn hd ho hll hs k m
        obtain ⟨n, rfl⟩ : ∃ j, n = j + 1 := ⟨n - 1, by omega⟩
        have hnl : (numT i).length ≤ 7 := by
          have : i = 0 ∨ i = 1 ∨ i = 2 ∨ i = 3 ∨ i = 4 := by omega
          have h1 := qly i
          have h2 := (qbr (qud (k := i) (most := 1000) (by omega) (by omega))).2.2
          omega
        have en := c_fbx i (by omega)
        have ec : catS (bs [122]) (bs (numT i)) = some (bs ([122] ++ numT i)) := qcn (by simp; omega)
        obtain ⟨q, e4, o4, d4⟩ := OwnM.push (by' := 88) (sz := 4) (row := [Cell.str (bs ([122] ++ numT i)), .lst true 1 [], .lst true 2 [], .lst true 2 []]) (tr := MPack.tr ⟨[122] ++ numT i, [], [], []⟩) ho (by
          refine ⟨[] ++ ([] ++ ([] ++ ([] ++ []))), ?_, Mine.nil (Nat.le_refl _)⟩
          unfold MPack.tr
          exact .cons ⟨rfl, rfl⟩ (.cons (.inl ⟨rfl, rfl, true, rfl⟩) (.cons (.inl ⟨rfl, rfl, true, rfl⟩) (.cons (.inl ⟨rfl, rfl, true, rfl⟩) .nil)))) rfl hd.cur (by omega) (by simp; omega) (by omega)
        obtain ⟨l2, c', H', e5, r⟩ := ih (i + 1) n (l' ++ [⟨[122] ++ numT i, [], [], []⟩]) q.1 q.2 (by omega) (by omega) (hd.trans d4) (by
          rw [trL, List.map_append]
          exact o4) (by simp; omega) (fun p hp => by
          rcases List.mem_append.1 hp with h | h
          · exact hs p h
          · simp only [List.mem_singleton] at h
            rw [h]
            exact ⟨by simp; omega, ⟨by simp, by simp⟩, ⟨by simp, by simp⟩, by simp, by simp⟩) k m
        refine ⟨l2, c', H', ?_, r⟩
        simp only [qxn]
        rw [decide_eq_true (by omega), cond_true]
        simp only [en, ec, qem, e4, qag (show i < maxLen by omega), EV0]
        exact e5
    obtain ⟨l2, c', H', e4, d4, o4, q4, q5⟩ := loop 5 0 1000 l c G3 (by omega) (by omega) ((Dr.refl d3.cur).toN (by omega)) (o3.wide (Nat.le_refl _) hG3) (by omega) hsm 1000 1000
    refine ⟨l2, c', H', qhh 999 ?_, (d123.toN (Nat.le_refl _)).trans ⟨d4.len, fun j hj hjl => d4.old j hj (by omega), d4.cur⟩ |>.full, o4.wide hG (Nat.le_refl _), q4, q5⟩
    rw [show ((0 : Nat) : Int) = 0 from rfl] at e4
    simp only [fds, e1, e2, e3, EV0]
    rw [show (((2 : Nat) : Int) == 0) = false from rfl, cond_false, show (((2 : Nat) : Int) == 1) = false from rfl, cond_false, show (((2 : Nat) : Int) == 2) = true from rfl, cond_true]
    exact e4
  · refine ⟨l, c, G3, qhh 0 ?_, d123, o3.wide hG hG3, by omega, hsm⟩
    simp only [fds, e1, e2, e3, EV0]
    rw [show ((w : Int) == 0) = false by simp; omega, cond_false, show ((w : Int) == 1) = false by simp; omega, cond_false, show ((w : Int) == 2) = false by simp; omega, cond_false]
def qwt (l:List MPack):Prop:=l.length≤9∧∀ p∈l,qij p
theorem wtB {α:Type}{w:α→Nat}{m:Nat}:∀ (xs:List α),(∀ x∈xs,w x≤m)→wtL w xs≤xs.length*(m+1):=by
 intro xs
 induction xs with
 | nil=>intro _;simp[wtL]
 | cons x xs ih=>
  intro h
  have h1:=ih fun y hy=>h y (List.mem_cons_of_mem _ hy)
  have h2:=h x List.mem_cons_self
  simp only[wtL,List.map_cons,List.sum_cons,List.length_cons,Nat.add_mul] at h1 ⊢
  omega
theorem qij.bd {p:MPack}(h:qij p):p.Bd 1048576:=by
 obtain⟨h1,⟨h2,h3⟩,⟨h4,h5⟩,h6,h7⟩:=h
 refine⟨Nat.le_trans h1 (by omega),⟨by omega,fun u hu=>Nat.le_trans (h3 u hu) (by omega)⟩,⟨by omega,fun n hn=>?_⟩,by omega,fun c hc=>?_⟩
 ·exact⟨Nat.le_trans (h5 n hn).1 (by omega),Nat.le_trans (h5 n hn).2 (by omega)⟩
 ·obtain⟨k1,k2,k3⟩:=h7 c hc
  exact⟨Nat.le_trans k1 (by omega),by omega,fun a ha=>Nat.le_trans (k3 a ha) (by omega)⟩
theorem qij.wt {p:MPack}(h:qij p):MPack.wt p≤10000:=by
 obtain⟨h1,⟨h2,h3⟩,⟨h4,h5⟩,h6,h7⟩:=h
 have e1:=wtB (w:=wtS) (m:=20) p.Uses fun u hu=>h3 u hu
 have e2:=wtB (w:=MNeed.wt) (m:=60) p.Needs fun n hn=>by
  have:=h5 n hn
  unfold qxmb at this
  simp only[MNeed.wt,wtS]
  omega
 have e3:=wtB (w:=MCmd.wt) (m:=1000) p.Cmds fun c hc=>by
  obtain⟨k1,k2,k3⟩:=h7 c hc
  have:=wtB (w:=wtS) (m:=100) c.Acts fun a ha=>k3 a ha
  have e:c.Acts.length*(100+1)≤6*101:=Nat.mul_le_mul k2 (by omega)
  simp only[MCmd.wt,wtS] at this ⊢
  omega
 have e4:p.Uses.length*(20+1)≤5*21:=Nat.mul_le_mul h2 (by omega)
 have e5:p.Needs.length*(60+1)≤4*61:=Nat.mul_le_mul h4 (by omega)
 have e6:p.Cmds.length*(1000+1)≤4*1001:=Nat.mul_le_mul h6 (by omega)
 simp only[MPack.wt,wtS] at e1 ⊢
 omega
theorem qwt.bd {l:List MPack}(h:qwt l):bdL 1048576 (MPack.Bd 1048576) l:=⟨by have:=h.1;omega,fun p hp=>(h.2 p hp).bd⟩
theorem qwt.wt {l:List MPack}(h:qwt l):wtL MPack.wt l≤1048576:=by
 have:=wtB (w:=MPack.wt) (m:=10000) l fun p hp=>(h.2 p hp).wt
 have e:l.length*(10000+1)≤9*10001:=Nat.mul_le_mul h.1 (by omega)
 omega
theorem read4 {lo hi:Nat}{H:List Entry}{c:Cell}{l:List MPack}(h:OwnM lo hi H 4 c (trL 4 MPack.tr l)):qak false H (.one c)=some (.one (encL 4 MPack.enc l)):=by
 obtain⟨ids,r,_⟩:=h
 have:=qei r (by omega)
 rwa [qbv] at this
theorem c_fbt (code:Str)(hl:code.length≤1048576):∃ l:List MPack,qwt l∧outL qts [.one (qil code)]=some [.one (encL 4 MPack.enc l)]:=by
 obtain⟨h,e1⟩:=qagb code hl []
 have hc:Cur ([]++[curE code 0 h]) 0 code:=Cur.new code h []
 obtain⟨l,c,H',e2,d2,o2,q1,q2⟩:=qgv hc hl
 refine⟨l,⟨q1,q2⟩,qaz (xs:=[.one c]) (H:=H') (qhxb 0 ?_) (qcz (read4 o2) (qbq _))⟩
 simp only[List.length_nil,List.nil_append] at e1 e2
 simp only[fbt,e1,e2,EV0]
theorem c_fbu (code:Str)(hl:code.length≤1048576):∃ l:List MPack,qwt l∧outL qrn [.one (qil code)]=some [.one (encL 4 MPack.enc l)]:=by
 obtain⟨h,e1⟩:=qagb code hl []
 have hc:Cur ([]++[curE code 0 h]) 0 code:=Cur.new code h []
 obtain⟨l,c,H',e2,d2,o2,q1,q2⟩:=qgv hc hl
 refine⟨l,⟨q1,q2⟩,qaz (xs:=[.one c]) (H:=H') (qmkb 0 ?_) (qcz (read4 o2) (qbq _))⟩
 simp only[List.length_nil,List.nil_append] at e1 e2
 simp only[fbu,e1,e2,EV0]
theorem c_fbr (code:Str)(hl:code.length≤1048576):∃ (l:List MPack) (s:Str),qwt l∧s.length≤20∧outL qsf [.one (qil code)]=some [.one (encL 4 MPack.enc l),.one (Cell.str (bs s))]:=by
 obtain⟨h,e1⟩:=qagb code hl []
 have hc:Cur ([]++[curE code 0 h]) 0 code:=Cur.new code h []
 obtain⟨l,c,H1,e2,d2,o2,q1,q2⟩:=qgv hc hl
 obtain⟨s,H',e3,d3,m3⟩:=qen d2.cur hl true [[97],[98],[99],[113]] (by simp) (by simp)
 have hs:s.length≤20:=(by decide:∀ s∈([[97],[98],[99],[113]]:List Str),s.length≤20) s m3
 simp only[List.map_cons,List.map_nil,eStr] at e3
 have o3:=o2.frame (d3.toN (Nat.le_refl _)) (by simp) (Nat.le_refl _)
 refine⟨l,s,⟨q1,q2⟩,hs,qaz (xs:=[.one c,.one (Cell.str (bs s))]) (H:=H') (qisb 0 ?_) (qcz (read4 o3) (qax [.one (Cell.str (bs s))] _ _))⟩
 simp only[List.length_nil,List.nil_append] at e1 e2 e3
 simp only[fbr,e1,e2,e3,EV0]
theorem c_fbs (code:Str)(hl:code.length≤1048576):∃ p:MPack,qij p∧outL qtx [.one (qil code)]=some [.agg [Cell.str (bs p.Name),qbj p.Uses,encL 2 MNeed.enc p.Needs,encL 2 MCmd.enc p.Cmds]]:=by
 obtain⟨h,e1⟩:=qagb code hl []
 have hc:Cur ([]++[curE code 0 h]) 0 code:=Cur.new code h []
 obtain⟨p,cU,cN,cC,H',e2,d2,⟨ids,r,_⟩,q⟩:=qiib hc hl
 have hr:=qjo r (by omega)
 simp only[MPack.tr,List.map_cons,List.map_nil,qct,qbv] at hr
 refine⟨p,q,qaz (xs:=[.agg [Cell.str (bs p.Name),cU,cN,cC]]) (H:=H') (qmsb 0 ?_) (qcz hr (qbq _))⟩
 simp only[List.length_nil,List.nil_append] at e1 e2
 simp only[fbs,e1,e2,EV0]
theorem c_fbo (x:Str)(hx:bdS maxLen x):out qsm [.one (qil x)]=some [.one (Cell.bool (decide (1048576 < x.length)))]:=by
 refine qba (H:=[]) (qkbb 0 ?_)
 simp only[fbo,qam,EV0]
 rw[show decide ((x.length:Int) > 1048576)=decide (1048576 < x.length) from decide_eq_decide.2 (by omega)]
theorem c_fbp (xs:List MNeed)(hx:xs.length≤1073741824):out qob [.one (encL 2 MNeed.enc xs),.one (encL 2 MNeed.enc xs)]=some [.one (Cell.bool true)]:=by
 have hM:=qah
 have eq2:∀ a b:ByteArray,qbz [.str,.str] [Cell.str a,Cell.str b] [Cell.str a,Cell.str b]=some true:=fun a b=>by simp[qbz,qfib,Cell.str]
 have loop:∀ (d i n:Nat),i+d=xs.length→d < n→∀ k m,qxy k m n (encL 2 MNeed.enc xs) (encL 2 MNeed.enc xs) i=some ([.one (Cell.bool true)],[]):=by
  intro d
  induction d with
  | zero=>
   intro i n hi hn k m
   obtain⟨n,rfl⟩:∃ j,n=j+1:=⟨n - 1,by omega⟩
   simp only[qxy,qam,Option.bind_some]
   rw[decide_eq_false (by omega),cond_false]
  | succ d ih=>
   intro i n hi hn k m
   obtain⟨n,rfl⟩:∃ j,n=j+1:=⟨n - 1,by omega⟩
   obtain⟨x,hx'⟩:∃ x,xs[i]?=some x:=⟨_,List.getElem?_eq_getElem (by omega)⟩
   simp only[qxy,qam,Option.bind_some]
   rw[decide_eq_true (by omega),cond_true]
   simp only[qar,hx',MNeed.enc,eq2,qag (show i < maxLen by omega),ih (i+1) n (by omega) (by omega),Nat.zero_add,Nat.reduceAdd,Bool.not_true,EV0]
 refine qba (H:=[]) (qgxb (xs.length+1) ?_)
 have:=loop xs.length 0 (xs.length+1+1) (by omega) (by omega) (xs.length+1+1) (xs.length+1+1)
 rw[show((0:Nat):Int)=0 from rfl] at this
 simp only[fbp,qam,bne_self_eq_false,EV0]
 exact this
theorem c_fbn (x0:Str)(hx0:bdS maxLen x0):out qgzb [.one (qil x0)]=some [.one (Cell.bool true)]:=by
 have hM:=qah
 have eb:=c_fbo x0 hx0
 by_cases hb:1048576 < x0.length
 ·refine qba (H:=[]) (qui 0 ?_)
  rw[decide_eq_true hb] at eb
  simp only[fbn,eb,EV0]
 rw[decide_eq_false hb] at eb
 obtain⟨l,hl,dl⟩:=c_fbt x0 (by omega)
 obtain⟨m,s,hm,hs,dm⟩:=c_fbr x0 (by omega)
 obtain⟨p,hp,dp⟩:=c_fbs x0 (by omega)
 obtain⟨w,hw,dw⟩:=c_fbu x0 (by omega)
 have hml:=hm.1
 have sw:=c_fcg w hw.bd hw.wt
 obtain⟨c1,E1,i1,e1,r1,_,_⟩:=qfdb (f_fam w hw.bd hw.wt) [] (qax [.one (encL 4 MPack.enc w)] _ _)
 have q1:qaw qob [.one c1,.one (encL 2 MNeed.enc (qbm w))] ([]++E1)=some [.one (Cell.bool true)]:=by
  have hr:=qei r1 (by omega)
  rw[qbv] at hr
  rw[qql (qcz hr (qax [.one (encL 2 MNeed.enc (qbm w))] _ _))]
  exact c_fbp _ (by have:=(qdwc w hw.bd hw.wt).1;omega)
 refine qba (H:=[]++E1) (qui 0 ?_)
 simp only[fbn,eb,dl,dm,dp,dw,c_faf l hl.bd,c_fbz l hl.bd,c_faa m (by omega) s,c_fbv m (by omega) s,c_fae p hp.bd,c_fby p hp.bd,beq_self_eq_true,EV0]
 simp only[e1,sw,q1,EV0]
end Go.Ev
