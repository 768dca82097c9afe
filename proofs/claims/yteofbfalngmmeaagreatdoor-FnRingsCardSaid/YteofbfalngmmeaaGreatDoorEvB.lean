/- How the evaluator's cells and heap stand to the model's values and memory, and that this stays as memory grows. No program occurs here; no conditions. -/
import Derived.Test.YteofbfalngmmeaaGreatDoorEvA
import Derived.Lib.Builder
namespace Go.Ev
open Go
inductive All2 {α β:Type}(r:α→β→Prop):List α→List β→Prop
 | nil:All2 r [] []
 | cons {a:α} {b:β} {as:List α} {bs:List β} (h:r a b) (t:All2 r as bs):All2 r (a::as) (b::bs)
inductive Pur:Cell→Prop
 | sc (v:Value):Pur (.sc v)
 | lst (f:Bool) (sz:Nat) (rows:List (List Cell)) (h:∀ row∈rows,∀ c∈row,Pur c):Pur (.lst f sz rows)
structure Own where
 blk:Nat
 base:Nat
 sz:Nat
 room:Nat
 ep:Nat
 kd:Nat
structure Gh where
 own:Nat→Option Own
 prot:Nat→Nat→Prop
inductive R (g:Gh)(w:World):Cell→Value→Prop
 | sc (v:Value) (h:v.oneCell'=true):R g w (.sc v) v
 | nil (full:Bool) (sz:Nat) (a:Option Addr) (cap:Nat) (h:full=true→cap=0):R g w (.lst full sz []) (.slice a 0 cap)
 | lst (full:Bool) (sz:Nat) (rows:List (List Cell)) (b o cap:Nat) (val:Nat→Nat→Value) (hne:rows≠[])
   (hf:full=true→cap=rows.length) (hc:rows.length≤cap) (hsz:∀ row∈rows,row.length=sz)
   (hp:∀ row∈rows,∀ c∈row,Pur c)
   (hcell:∀ i j row c,rows[i]?=some row→row[j]?=some c→w.cell? ⟨b,o+i*sz+j,none⟩=some (val i j)∧g.prot b (o+i*sz+j))
   (hr:∀ i j row c,rows[i]?=some row→row[j]?=some c→R g w c (val i j)):R g w (.lst full sz rows) (.slice (some ⟨b,o,none⟩) rows.length cap)
 | vs (id sz off len ep:Nat) (a:Option Addr) (cap:Nat) (o:Own) (ho:g.own id=some o) (hle:ep≤o.ep) (hn:a=none→len=0) (hlc:len≤cap)
   (h:ep=o.ep→a=some ⟨o.blk,o.base+off*sz,none⟩∧o.sz=sz∧(off+cap)*sz≤o.room) (hk:ep=o.ep→o.kd=0):R g w (.vs id sz off len ep) (.slice a len cap)
 | ptr (id sz idx off ep:Nat) (a:Addr) (o:Own) (ho:g.own id=some o) (hle:ep≤o.ep)
   (h:ep=o.ep→o.sz=sz∧a=⟨o.blk,o.base+idx*sz+off,none⟩) (hk:ep=o.ep→o.kd=0):R g w (.ptr id sz idx off ep) (.pointer (some a))
 | ref (row:List Cell) (off b o:Nat) (val:Nat→Value) (hp:∀ c∈row,Pur c)
   (hcell:∀ j c,row[j]?=some c→w.cell? ⟨b,o+j,none⟩=some (val j)∧g.prot b (o+j))
   (hr:∀ j c,row[j]?=some c→R g w c (val j)):R g w (.ref row off) (.pointer (some ⟨b,o+off,none⟩))
 | fn (f:FuncId) (first caps:List Cell) (fv cv:Nat→Value)
   (hf:∀ j c,first[j]?=some c→R g w c (fv j)) (hc:∀ j c,caps[j]?=some c→R g w c (cv j)):
   R g w (.fn f first caps) (.func (.func f) ((List.range first.length).map fv).toArray ((List.range caps.length).map cv).toArray)
 | mp (id ep b:Nat) (o:Own) (ho:g.own id=some o) (hle:ep≤o.ep) (h:ep=o.ep→o.kd=1∧o.blk=b):R g w (.mp id ep) (.map (some b))
 | bl (T e id ep b:Nat) (o:Own) (ho:g.own id=some o) (hle:ep≤o.ep) (h:ep=o.ep→o.kd=4∧o.blk=b∧o.base=T∧o.room=e):R g w (.bl T e id ep) (.pointer (some ⟨b,0,none⟩))
def Keep (g:Gh)(w w':World):Prop:=∀ b o,g.prot b o→w'.cell? ⟨b,o,none⟩=w.cell? ⟨b,o,none⟩
structure Gh.Le (g g':Gh):Prop where
 prot:∀ b o,g.prot b o→g'.prot b o
 own:∀ id o,g.own id=some o→∃ o',g'.own id=some o'∧o.ep≤o'.ep∧(o.ep=o'.ep→o'=o)
theorem Gh.Le.refl (g:Gh):g.Le g:=⟨fun _ _ h=>h,fun _ o h=>⟨o,h,Nat.le_refl _,fun _=>rfl⟩⟩
theorem Gh.Le.trans {a b c:Gh}(h:a.Le b)(k:b.Le c):a.Le c:=by
 refine⟨fun x y hx=>k.prot _ _ (h.prot _ _ hx),fun id o ho=>?_⟩
 obtain⟨o1,h1,h2,h3⟩:=h.own id o ho
 obtain⟨o2,k1,k2,k3⟩:=k.own id o1 h1
 exact⟨o2,k1,Nat.le_trans h2 k2,fun e=>by
  have e1:o.ep=o1.ep:=by omega
  have e2:o1.ep=o2.ep:=by omega
  rw[k3 e2,h3 e1]⟩
theorem Keep.refl (g:Gh)(w:World):Keep g w w:=fun _ _ _=>rfl
theorem Keep.trans {g g':Gh}{a b c:World}(hl:g.Le g')(h:Keep g a b)(k:Keep g' b c):Keep g a c:=
 fun x y hx=>(k x y (hl.prot _ _ hx)).trans (h x y hx)
theorem R.mono {g g':Gh}{w w':World}(hl:g.Le g')(hk:Keep g w w'){c:Cell}{v:Value}(h:R g w c v):R g' w' c v:=by
 induction h with
 | sc v h=>exact .sc v h
 | nil full sz a cap h=>exact .nil full sz a cap h
 | lst full sz rows b o cap val hne hf hc hsz hp hcell hr ih=>
  exact .lst full sz rows b o cap val hne hf hc hsz hp
   (fun i j row c h1 h2=>⟨(hk _ _ (hcell i j row c h1 h2).2).trans (hcell i j row c h1 h2).1,hl.prot _ _ (hcell i j row c h1 h2).2⟩) ih
 | vs id sz off len ep a cap o ho hle hn hlc h hk=>
  obtain⟨o',h1,h2,h3⟩:=hl.own id o ho
  refine .vs id sz off len ep a cap o' h1 (Nat.le_trans hle h2) hn hlc (fun e=>?_) fun e=>?_
  ·have e1:o.ep=o'.ep:=by omega
   rw[h3 e1]
   exact h (by omega)
  ·have e1:o.ep=o'.ep:=by omega
   rw[h3 e1]
   exact hk (by omega)
 | ptr id sz idx off ep a o ho hle h hk=>
  obtain⟨o',h1,h2,h3⟩:=hl.own id o ho
  refine .ptr id sz idx off ep a o' h1 (Nat.le_trans hle h2) (fun e=>?_) fun e=>?_
  ·have e1:o.ep=o'.ep:=by omega
   rw[h3 e1]
   exact h (by omega)
  ·have e1:o.ep=o'.ep:=by omega
   rw[h3 e1]
   exact hk (by omega)
 | mp id ep b o ho hle h=>
  obtain⟨o',h1,h2,h3⟩:=hl.own id o ho
  refine .mp id ep b o' h1 (Nat.le_trans hle h2) fun e=>?_
  have e1:o.ep=o'.ep:=by omega
  rw[h3 e1]
  exact h (by omega)
 | bl T e id ep b o ho hle h=>
  obtain⟨o',h1,h2,h3⟩:=hl.own id o ho
  refine .bl T e id ep b o' h1 (Nat.le_trans hle h2) fun e=>?_
  have e1:o.ep=o'.ep:=by omega
  rw[h3 e1]
  exact h (by omega)
 | ref row off b o val hp hcell hr ih=>
  exact .ref row off b o val hp
   (fun j c h1=>⟨(hk _ _ (hcell j c h1).2).trans (hcell j c h1).1,hl.prot _ _ (hcell j c h1).2⟩) ih
 | fn f first caps fv cv hf hc ihf ihc=>exact .fn f first caps fv cv ihf ihc
theorem R.pure {g g':Gh}{w w':World}(hl:∀ b o,g.prot b o→g'.prot b o)(hk:Keep g w w'){c:Cell}{v:Value}(h:R g w c v)(hp:Pur c):R g' w' c v:=by
 induction h with
 | sc v h=>exact .sc v h
 | nil full sz a cap h=>exact .nil full sz a cap h
 | lst full sz rows b o cap val hne hf hc hsz hq hcell hr ih=>
  exact .lst full sz rows b o cap val hne hf hc hsz hq
   (fun i j row c h1 h2=>⟨(hk _ _ (hcell i j row c h1 h2).2).trans (hcell i j row c h1 h2).1,hl _ _ (hcell i j row c h1 h2).2⟩)
   (fun i j row c h1 h2=>ih i j row c h1 h2 (hq row (List.mem_of_getElem? h1) c (List.mem_of_getElem? h2)))
 | vs id sz off len ep a cap o ho hle hn hlc h hk=>cases hp
 | ptr id sz idx off ep a o ho hle h hk=>cases hp
 | mp=>cases hp
 | bl=>cases hp
 | ref row off b o val hp' hcell hr ih=>cases hp
 | fn f first caps fv cv hf hc ihf ihc=>cases hp
theorem R.oneCell {g:Gh}{w:World}{c:Cell}{v:Value}(h:R g w c v):v.oneCell'=true:=by
 cases h<;>first | assumption | rfl
theorem qok {v:Value}(h:v.oneCell'=true):v.cells=#[v]:=by
 cases v<;>first | rfl | simp[Value.oneCell'] at h
theorem R.lstPur {g:Gh}{w:World}{f:Bool}{sz:Nat}{rows:List (List Cell)}{v:Value}(h:R g w (.lst f sz rows) v):Pur (.lst f sz rows):=by
 cases h with
 | nil=>exact .lst _ _ _ (by simp)
 | lst _ _ _ b o cap val hne hf hc hsz hp=>exact .lst _ _ _ hp
abbrev RL (g:Gh)(w:World)(cs:List Cell)(vs:List Value):Prop:=All2 (R g w) cs vs
theorem RL.mono {g g':Gh}{w w':World}(hl:g.Le g')(hk:Keep g w w'){cs:List Cell}{vs:List Value}(h:RL g w cs vs):RL g' w' cs vs:=by
 induction h with
 | nil=>exact All2.nil
 | cons a _ ih=>exact All2.cons (a.mono hl hk) ih
theorem RL.pure {g g':Gh}{w w':World}(hl:∀ b o,g.prot b o→g'.prot b o)(hk:Keep g w w'){cs:List Cell}{vs:List Value}(h:RL g w cs vs)
  (hp:∀ c∈cs,Pur c):RL g' w' cs vs:=by
 induction h with
 | nil=>exact All2.nil
 | cons a _ ih=>exact All2.cons (a.pure hl hk (hp _ (by simp))) (ih fun c hc=>hp c (by simp[hc]))
theorem RL.length {g:Gh}{w:World}{cs:List Cell}{vs:List Value}(h:RL g w cs vs):vs.length=cs.length:=by
 induction h with
 | nil=>rfl
 | cons _ _ ih=>simp[ih]
theorem RL.get {g:Gh}{w:World}{cs:List Cell}{vs:List Value}(h:RL g w cs vs){i:Nat}{c:Cell}(hc:cs[i]?=some c):∃ v,vs[i]?=some v∧R g w c v:=by
 induction h generalizing i with
 | nil=>simp at hc
 | cons a _ ih=>
  cases i with
  | zero=>simp at hc;subst hc;exact⟨_,rfl,a⟩
  | succ i=>exact ih (by simpa using hc)
theorem RL.of_get {g:Gh}{w:World}{cs:List Cell}{vs:List Value}(hl:vs.length=cs.length)
  (h:∀ (i:Nat) c v,cs[i]?=some c→vs[i]?=some v→R g w c v):RL g w cs vs:=by
 induction cs generalizing vs with
 | nil=>cases vs with
  | nil=>exact All2.nil
  | cons _ _=>simp at hl
 | cons c cs ih=>cases vs with
  | nil=>simp at hl
  | cons v vs=>exact All2.cons (h 0 c v rfl rfl) (ih (by simpa using hl) fun i c v h1 h2=>h (i+1) c v (by simpa using h1) (by simpa using h2))
theorem RL.append {g:Gh}{w:World}{cs ds:List Cell}{vs us:List Value}(h:RL g w cs vs)(k:RL g w ds us):RL g w (cs++ds) (vs++us):=by
 induction h with
 | nil=>exact k
 | cons a _ ih=>exact All2.cons a ih
theorem RL.take {g:Gh}{w:World}{cs:List Cell}{vs:List Value}(h:RL g w cs vs)(n:Nat):RL g w (cs.take n) (vs.take n):=by
 induction h generalizing n with
 | nil=>simpa using All2.nil
 | cons a _ ih=>cases n with
  | zero=>simpa using All2.nil
  | succ n=>simpa using All2.cons a (ih n)
theorem RL.drop {g:Gh}{w:World}{cs:List Cell}{vs:List Value}(h:RL g w cs vs)(n:Nat):RL g w (cs.drop n) (vs.drop n):=by
 induction h generalizing n with
 | nil=>simpa using All2.nil
 | cons a t ih=>cases n with
  | zero=>simpa using All2.cons a t
  | succ n=>simpa using ih n
inductive AVR (g:Gh)(w:World):AV→Value→Prop
 | one (c:Cell) (v:Value) (h:R g w c v):AVR g w (.one c) v
 | agg (cs:List Cell) (vs:List Value) (h:RL g w cs vs):AVR g w (.agg cs) (.agg vs.toArray)
theorem AVR.mono {g g':Gh}{w w':World}(hl:g.Le g')(hk:Keep g w w'){x:AV}{v:Value}(h:AVR g w x v):AVR g' w' x v:=by
 cases h with
 | one c v h=>exact .one _ _ (h.mono hl hk)
 | agg cs vs h=>exact .agg _ _ (h.mono hl hk)
theorem AVR.cells {g:Gh}{w:World}{x:AV}{v:Value}(h:AVR g w x v):RL g w x.cells v.cells.toList:=by
 cases h with
 | one c v h=>rw[qok h.oneCell];exact All2.cons h All2.nil
 | agg cs vs h=>simpa[AV.cells,Value.cells] using h
abbrev AL (g:Gh)(w:World)(xs:List AV)(vs:List Value):Prop:=All2 (AVR g w) xs vs
theorem AL.mono {g g':Gh}{w w':World}(hl:g.Le g')(hk:Keep g w w'){cs:List AV}{vs:List Value}(h:AL g w cs vs):AL g' w' cs vs:=by
 induction h with
 | nil=>exact All2.nil
 | cons a _ ih=>exact All2.cons (a.mono hl hk) ih
theorem AL.length {g:Gh}{w:World}{cs:List AV}{vs:List Value}(h:AL g w cs vs):vs.length=cs.length:=by
 induction h with
 | nil=>rfl
 | cons _ _ ih=>simp[ih]
theorem AL.get {g:Gh}{w:World}{cs:List AV}{vs:List Value}(h:AL g w cs vs){i:Nat}{c:AV}(hc:cs[i]?=some c):∃ v,vs[i]?=some v∧AVR g w c v:=by
 induction h generalizing i with
 | nil=>simp at hc
 | cons a _ ih=>
  cases i with
  | zero=>simp at hc;subst hc;exact⟨_,rfl,a⟩
  | succ i=>exact ih (by simpa using hc)
theorem AL.append {g:Gh}{w:World}{cs ds:List AV}{vs us:List Value}(h:AL g w cs vs)(k:AL g w ds us):AL g w (cs++ds) (vs++us):=by
 induction h with
 | nil=>exact k
 | cons a _ ih=>exact All2.cons a ih
inductive SlotR (g:Gh)(β:Nat→Option Nat)(w:World):Slot→Value→Prop
 | av (x:AV) (v:Value) (h:AVR g w x v):SlotR g β w (.av x) v
 | tup (xs:List AV) (vs:List Value) (h:AL g w xs vs):SlotR g β w (.tup xs) (.tuple vs.toArray)
 | loc (t off blk:Nat) (h:β t=some blk):SlotR g β w (.loc t off) (.pointer (some ⟨blk,off,none⟩))
 | skip:SlotR g β w .skip undef
 | undef (v:Value):SlotR g β w .undef v
 | anyb (b:Bool):SlotR g β w .anyb (.bool b)
theorem SlotR.mono {g g':Gh}{β β':Nat→Option Nat}{w w':World}(hl:g.Le g')(hb:∀ t b,β t=some b→β' t=some b)(hk:Keep g w w'){x:Slot}{v:Value}
  (h:SlotR g β w x v):SlotR g' β' w' x v:=by
 cases h with
 | av x v h=>exact .av _ _ (h.mono hl hk)
 | tup xs vs h=>exact .tup _ _ (h.mono hl hk)
 | loc t off blk h=>exact .loc _ _ _ (hb _ _ h)
 | skip=>exact .skip
 | undef v=>exact .undef _
 | anyb b=>exact .anyb b
def MapR (row:List Cell)(e:MapEntry):Prop:=∃ k n,row=[.sc (.string k),.sc (.int .i64 n)]∧e.key=.string k∧e.val=.int .i64 n
structure EntR (g:Gh)(w:World)(B:Nat)(e:Entry)(o:Own):Prop where
 lo:B≤o.blk
 sz:e.sz=o.sz
 ep:e.ep=o.ep
 lt:o.blk < w.heap.size
 mem:o.kd=0→∃ (c:Array Value) (t:TypeId) (fz:Nat×Nat),w.heap[o.blk]?=some (.cells c t fz)∧e.rows.length*o.sz≤o.room∧o.base+o.room≤c.size∧(∀ row∈e.rows,row.length=o.sz)∧
  (∀ j,j < c.size→w.frozen? ⟨o.blk,j,none⟩=false)∧
  (∀ (i j:Nat) row cl,e.rows[i]?=some row→row[j]?=some cl→∃ v,c[o.base+i*o.sz+j]?=some v∧R g w cl v)
 mp:o.kd=1→∃ (es:Array MapEntry) (clock:Nat),w.heap[o.blk]?=some (.map es clock)∧All2 MapR e.rows es.toList
 pr:∀ j,g.prot o.blk j→e.fr=true∧j < o.base+e.rows.length*o.sz
def BldR (g:Gh)(w:World)(H:List Entry)(id:Nat)(o:Own):Prop:=∃ (l:List UInt8) (p v:Value) (en:Entry),H[id]?=some en∧en.rows=[[.sc (.string ⟨l.toArray⟩)]]∧(p=.pointer none∨p=.pointer (some ⟨o.blk,0,none⟩))∧w.heap[o.blk]?=some (.cells #[p,v] o.base (0,0))∧w.ownsRow 0 o.room 1 v l.length (l.map fun b=>Value.int .u8 b.toNat)∧∀ k,v.ownBlock=some k→∃ o2,g.own (id+1)=some o2∧o2.kd=3∧o2.blk=k
structure HR (g:Gh)(B:Nat)(H:List Entry)(w:World):Prop where
 ent:∀ id o,g.own id=some o→∃ e,H[id]?=some e∧EntR g w B e o
 inj:∀ i j o o',g.own i=some o→g.own j=some o'→o.blk=o'.blk→i=j
 plt:∀ b j,g.prot b j→b < w.heap.size
 bld:∀ id o,g.own id=some o→o.kd=4→BldR g w H id o
theorem HR.bldKeep {g g':Gh}{B:Nat}{H H':List Entry}{w w':World}(h:HR g B H w)
  (ho:∀ id o,g'.own id=some o→o.kd=4→g.own id=some o∧(∀ e,H[id]?=some e→∃ e',H'[id]?=some e'∧e'.rows=e.rows)∧(∀ o2,g.own (id+1)=some o2→o2.kd=3→g'.own (id+1)=some o2))
  (hw:∀ id o,g.own id=some o→o.kd=4∨o.kd=3→w'.heap[o.blk]?=w.heap[o.blk]?):∀ id o,g'.own id=some o→o.kd=4→BldR g' w' H' id o:=by
 intro id o h1 h2
 obtain⟨k1,k2,k3⟩:=ho id o h1 h2
 obtain⟨l,p,v,en,m1,m2,m3,m4,m5,m6⟩:=h.bld id o k1 h2
 obtain⟨e',n1,n2⟩:=k2 en m1
 refine⟨l,p,v,e',n1,n2.trans m2,m3,(hw id o k1 (.inl h2)).trans m4,⟨m5.1,?_⟩,fun k hk=>?_⟩
 ·rcases m5.2 with q | ⟨gg,cap,cur,q1,q2,q3,q4⟩
  ·exact .inl q
  ·obtain⟨o2,r1,r2,r3⟩:=m6 gg (by rw[q1];rfl)
   refine .inr ⟨gg,cap,cur,q1,q2,?_,q4⟩
   rw[← r3,hw (id+1) o2 r1 (.inr r2),r3]
   exact q3
 ·obtain⟨o2,r1,r2,r3⟩:=m6 k hk
  exact⟨o2,k3 o2 r1 r2,r2,r3⟩
theorem HR.bldSame {g g':Gh}{B:Nat}{H:List Entry}{w w':World}(h:HR g B H w)(ho:g'.own=g.own)(hw:∀ id o,g.own id=some o→w'.heap[o.blk]?=w.heap[o.blk]?):∀ id o,g'.own id=some o→o.kd=4→BldR g' w' H id o:=
 h.bldKeep (fun id o h1 _=>⟨by rw[← ho];exact h1,fun e he=>⟨e,he,rfl⟩,fun o2 h3 _=>by rw[ho];exact h3⟩) fun id o h1 _=>hw id o h1
structure BoxR (g:Gh)(w:World)(B:Nat)(cs:List Cell)(blk:Nat):Prop where
 lo:B≤blk
 mem:∃ c t fz,w.heap[blk]?=some (.cells c t fz)∧RL g w cs c.toList∧(∀ j,j < c.size→w.frozen? ⟨blk,j,none⟩=false)
 pr:∀ j,¬ g.prot blk j
structure Mem (g:Gh)(β:Nat→Option Nat)(B:Nat)(X:Nat→List Cell)(H:List Entry)(w:World):Prop where
 heap:HR g B H w
 box:∀ t blk,β t=some blk→BoxR g w B (X t) blk
 inj:∀ t u b,β t=some b→β u=some b→t=u
 sep:∀ t b id o,β t=some b→g.own id=some o→o.blk≠b
 size:B≤w.heap.size
structure GoX (X:Nat→Prop)(g g':Gh)(w w':World):Prop where
 le:g.Le g'
 keep:Keep g w w'
 size:w.heap.size≤w'.heap.size
 frame:∀ k,k < w.heap.size→¬ X k→(∀ id o,g.own id=some o→o.blk≠k)→w'.heap[k]?=w.heap[k]?
 blk:∀ id o,g'.own id=some o→(∃ id o0,g.own id=some o0∧o.blk=o0.blk)∨w.heap.size≤o.blk
 prot:∀ b o,g'.prot b o→g.prot b o∨w.heap.size≤b∨∃ id o0,g.own id=some o0∧b=o0.blk
 os:w'.os=w.os
 tape:w'.tape=w.tape
 output:w'.output=w.output
abbrev Go1:=GoX fun _=>False
theorem GoX.refl (X:Nat→Prop)(g:Gh)(w:World):GoX X g g w w:=
 ⟨.refl g,.refl g w,Nat.le_refl _,fun _ _ _ _=>rfl,fun id o h=>.inl ⟨id,o,h,rfl⟩,fun _ _ h=>.inl h,rfl,rfl,rfl⟩
theorem Go1.refl (g:Gh)(w:World):Go1 g g w w:=GoX.refl _ g w
theorem GoX.trans {X X':Nat→Prop}{g g1 g2:Gh}{w w1 w2:World}(h:GoX X g g1 w w1)(k:GoX X' g1 g2 w1 w2)(hX:∀ i,X' i→X i∨w.heap.size≤i):GoX X g g2 w w2:=by
 refine⟨h.le.trans k.le,Keep.trans h.le h.keep k.keep,Nat.le_trans h.size k.size,fun i hi hx hn=>?_,fun id o ho=>?_,fun b o hb=>?_,k.os.trans h.os,k.tape.trans h.tape,k.output.trans h.output⟩
 ·rw[k.frame i (Nat.lt_of_lt_of_le hi h.size) (fun hx'=>by rcases hX i hx' with h1 | h1;exact hx h1;omega) fun id o ho=>?_,h.frame i hi hx hn]
  rcases h.blk id o ho with⟨id0,o0,h0,e⟩ | h0
  ·rw[e];exact hn id0 o0 h0
  ·omega
 ·rcases k.blk id o ho with⟨id1,o1,h1,e1⟩ | h1
  ·rcases h.blk id1 o1 h1 with⟨id0,o0,h0,e0⟩ | h0
   ·exact .inl ⟨id0,o0,h0,by rw[e1,e0]⟩
   ·exact .inr (by omega)
  ·exact .inr (Nat.le_trans h.size h1)
 ·rcases k.prot b o hb with h1 | h1 | ⟨id1,o1,h1,e1⟩
  ·exact h.prot b o h1
  ·exact .inr (.inl (Nat.le_trans h.size h1))
  ·rcases h.blk id1 o1 h1 with⟨id0,o0,h0,e0⟩ | h0
   ·exact .inr (.inr ⟨id0,o0,h0,by rw[e1,e0]⟩)
   ·exact .inr (.inl (by omega))
theorem GoX.trans' {X:Nat→Prop}{g g1 g2:Gh}{w w1 w2:World}(h:Go1 g g1 w w1)(k:GoX X g1 g2 w1 w2)(hX:∀ i,X i→False∨w.heap.size≤i):Go1 g g2 w w2:=GoX.trans h k hX
theorem Go1.trans {g g1 g2:Gh}{w w1 w2:World}(h:Go1 g g1 w w1)(k:Go1 g1 g2 w1 w2):Go1 g g2 w w2:=GoX.trans h k fun _ h=>h.elim
theorem GoX.weaken {X:Nat→Prop}{g g':Gh}{w w':World}(h:Go1 g g' w w'):GoX X g g' w w':=
 ⟨h.le,h.keep,h.size,fun k hk _ hn=>h.frame k hk (fun h=>h) hn,h.blk,h.prot,h.os,h.tape,h.output⟩
theorem Go1.drew (g:Gh)(w:World):Go1 g g w w.drew:=
 ⟨.refl g,fun _ _ _=>rfl,Nat.le_refl _,fun _ _ _ _=>rfl,fun id o h=>.inl ⟨id,o,h,rfl⟩,fun _ _ h=>.inl h,rfl,rfl,rfl⟩
theorem cell_of_heap {w w':World}{b:Nat}(h:w'.heap[b]?=w.heap[b]?)(o:Nat):w'.cell? ⟨b,o,none⟩=w.cell? ⟨b,o,none⟩:=by
 simp only[World.cell?,h]
theorem frozen_of_heap {w w':World}{b:Nat}(h:w'.heap[b]?=w.heap[b]?)(o:Nat):w'.frozen? ⟨b,o,none⟩=w.frozen? ⟨b,o,none⟩:=by
 simp only[World.frozen?,h]
theorem EntR.keep {g g':Gh}{w w':World}{B:Nat}{e:Entry}{o:Own}(h:EntR g w B e o)(hl:g.Le g')(hk:Keep g w w')(hb:w'.heap[o.blk]?=w.heap[o.blk]?)
  (hp:∀ j,g'.prot o.blk j→g.prot o.blk j):EntR g' w' B e o:=by
 refine⟨h.lo,h.sz,h.ep,?_,fun hz=>?_,fun hz=>?_,fun j hj=>h.pr j (hp j hj)⟩
 ·rcases Nat.lt_or_ge o.blk w'.heap.size with h' | h'
  ·exact h'
  ·rw[Array.getElem?_eq_none h',Array.getElem?_eq_getElem h.lt] at hb
   simp at hb
 ·obtain⟨c,t,fz,h1,h2,h3,h4,h5,h6⟩:=h.mem hz
  exact⟨c,t,fz,hb.trans h1,h2,h3,h4,fun j hj=>(frozen_of_heap hb j).trans (h5 j hj),
   fun i j row cl a b=>⟨(h6 i j row cl a b).choose,(h6 i j row cl a b).choose_spec.1,(h6 i j row cl a b).choose_spec.2.mono hl hk⟩⟩
 ·obtain⟨es,clock,h1,h2⟩:=h.mp hz
  exact⟨es,clock,hb.trans h1,h2⟩
theorem BoxR.keep {g g':Gh}{w w':World}{B:Nat}{cs:List Cell}{blk:Nat}(h:BoxR g w B cs blk)(hl:g.Le g')(hk:Keep g w w')(hb:w'.heap[blk]?=w.heap[blk]?)
  (hp:∀ j,¬ g'.prot blk j):BoxR g' w' B cs blk:=by
 obtain⟨c,t,fz,h1,h2,h3⟩:=h.mem
 exact⟨h.lo,⟨c,t,fz,hb.trans h1,h2.mono hl hk,fun j hj=>(frozen_of_heap hb j).trans (h3 j hj)⟩,hp⟩
theorem BoxR.lt {g:Gh}{w:World}{B:Nat}{cs:List Cell}{blk:Nat}(h:BoxR g w B cs blk):blk < w.heap.size:=by
 obtain⟨c,t,fz,h1,_⟩:=h.mem
 exact(Array.getElem?_eq_some_iff.1 h1).1
theorem Mem.boxes {g g':Gh}{β:Nat→Option Nat}{B:Nat}{X:Nat→List Cell}{H H':List Entry}{w w':World}(h:Mem g β B X H w)(k:Go1 g g' w w')(hH:HR g' B H' w'):
  Mem g' β B X H' w':=by
 refine⟨hH,fun t blk ht=>?_,h.inj,fun t b id o ht ho=>?_,Nat.le_trans h.size k.size⟩
 ·have hb:=h.box t blk ht
  refine hb.keep k.le k.keep (k.frame blk hb.lt (fun h=>h) fun id o ho=>h.sep t blk id o ht ho) fun j hj=>?_
  rcases k.prot blk j hj with h1 | h1 | ⟨id,o,h1,e⟩
  ·exact hb.pr j h1
  ·have:=hb.lt;omega
  ·exact h.sep t blk id o ht h1 e.symm
 ·have hb:=h.box t b ht
  rcases k.blk id o ho with⟨id0,o0,h0,e⟩ | h0
  ·rw[e];exact h.sep t b id0 o0 ht h0
  ·have:=hb.lt;omega
end Go.Ev
