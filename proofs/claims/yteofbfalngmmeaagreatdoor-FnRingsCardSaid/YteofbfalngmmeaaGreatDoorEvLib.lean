/- Words and laws for what the printed functions do with texts and lists. No program occurs here; no conditions. -/
import Derived.Test.YteofbfalngmmeaaGreatDoorEvLaw
set_option linter.unusedVariables false
set_option linter.unusedSimpArgs false
namespace Go.Ev
open Go
abbrev Str:=List UInt8
@[simp] theorem qjc (a:Str):(bs a).data.toList=a:=by simp[bs]
@[simp] theorem qee (a:Str):(bs a).size=a.length:=by simp[bs,ByteArray.size]
theorem bs_of (s:ByteArray):s=bs s.data.toList:=by cases s;simp[bs]
theorem qykb (s:ByteArray):s.toList=s.data.toList:=by
 have h:∀ (n i:Nat) (r:List UInt8),n=s.size - i→ByteArray.toList.loop s i r=r.reverse++s.data.toList.drop i:=by
  intro n
  induction n with
  | zero=>
   intro i r h
   unfold ByteArray.toList.loop
   have hs:s.size=s.data.toList.length:=(Array.length_toList).symm
   rw[if_neg (by omega),List.drop_eq_nil_of_le (by omega),List.append_nil]
  | succ n ih=>
   intro i r h
   unfold ByteArray.toList.loop
   have hs:s.size=s.data.toList.length:=(Array.length_toList).symm
   rw[if_pos (by omega),ih (i+1) _ (by omega)]
   have hi:i < s.data.toList.length:=by omega
   rw[List.drop_eq_getElem_cons hi]
   have:s.get! i=s.data.toList[i]:=by
    cases s with
    | mk d=>
     have hi':i < d.size:=by simpa using hi
     simp[ByteArray.get! ,hi']
   simp[this]
 unfold ByteArray.toList
 rw[h (s.size - 0) 0 [] rfl]
 simp
@[simp] theorem qdz (a:Str):(bs a).toList=a:=by rw[qykb,qjc]
@[simp] theorem qbjd {a b:Str}:bs a=bs b↔a=b:=⟨fun h=>by rw[← qjc a,h,qjc],fun h=>by rw[h]⟩
theorem bs_app (a b:Str):bs a++bs b=bs (a++b):=by
 rw[bs_of (bs a++bs b)]
 simp[bs]
theorem qdm {a b:Str}(h:a.length+b.length≤9223372036854775807):catS (bs a) (bs b)=some (bs (a++b)):=by
 simp only[catS,qee,h,if_true,bs_app]
theorem qpj (a:Str)(i:Nat):bytS (bs a) (i:Int)=(a[i]?).map fun b=>(b.toNat:Int):=by
 simp only[bytS,qee,qjc,Int.toNat_natCast]
 by_cases h:i < a.length
 ·rw[if_pos ⟨by omega,by omega⟩,List.getElem?_eq_getElem h]
  simp[List.getD_eq_getElem?_getD,h]
 ·rw[if_neg (by omega),List.getElem?_eq_none (by omega)]
  rfl
theorem qlp (a:Str)(l h:Nat)(h1:l≤h)(h2:h≤a.length):subS (bs a) (l:Int) (h:Int)=some (bs ((a.take h).drop l)):=by
 simp only[subS,qee]
 rw[if_pos ⟨by omega,by omega,by omega⟩]
 congr 1
 rw[bs_of ((bs a).extract _ _)]
 congr 1
 simp[bs,ByteArray.extract,ByteArray.copySlice,List.drop_take]
def encL {α:Type}(sz:Nat)(e:α→List Cell)(xs:List α):Cell:=.lst false sz (xs.map e)
def eStr (s:Str):List Cell:=[Cell.str (bs s)]
def qvmb (b:UInt8):List Cell:=[.sc (.int .u8 (b.toNat:Int))]
abbrev qax (xs:List Str):Cell:=encL 1 eStr xs
abbrev qix (xs:Str):Cell:=encL 1 qvmb xs
def qcz (xs:List Str):List Cell:=[qax xs]
@[simp] theorem qqxb (f:Bool)(sz:Nat)(rows:List (List Cell)):lenC (.lst f sz rows)=some rows.length:=rfl
@[simp] theorem qxwc (id sz off len ep:Nat):lenC (.vs id sz off len ep)=some len:=rfl
@[simp] theorem qan {α:Type}(sz:Nat)(e:α→List Cell)(xs:List α):lenC (encL sz e xs)=some xs.length:=by simp[encL]
theorem qgl (f:Bool)(sz:Nat)(rows:List (List Cell))(i:Nat):idxA sz (.lst f sz rows) (i:Int)=(rows[i]?).map fun r=>.ref r 0:=by
 simp only[idxA,if_true,Int.toNat_natCast]
 by_cases h:i < rows.length
 ·rw[if_pos ⟨by omega,by omega⟩,List.getElem?_eq_getElem h]
  simp[List.getD_eq_getElem?_getD,h]
 ·rw[if_neg (by omega),List.getElem?_eq_none (by omega)]
  rfl
theorem qav {α:Type}(sz:Nat)(e:α→List Cell)(xs:List α)(i:Nat):idxA sz (encL sz e xs) (i:Int)=(xs[i]?).map fun x=>.ref (e x) 0:=by
 rw[encL,qgl]
 simp[Option.map_map,Function.comp_def]
@[simp] theorem qhqb (H:List Entry)(row:List Cell)(off:Nat):deref H (.ref row off)=some (row,off):=rfl
@[simp] theorem qgn (row:List Cell)(off o:Nat):fldA (.ref row off) o=some (.ref row (off+o)):=rfl
@[simp] theorem cB_at (row:List Cell)(off:Nat)(b:Bool)(h:row[off]?=some (.sc (.bool b))):cB row off=some b:=by simp[cB,h]
theorem qqtb (c:Cell)(r:List Cell)(n:Nat):cB (c::r) (n+1)=cB r n:=rfl
theorem qqvb (k:IntKind)(c:Cell)(r:List Cell)(n:Nat):cI k (c::r) (n+1)=cI k r n:=rfl
theorem qfec (c:Cell)(r:List Cell)(n:Nat):cS (c::r) (n+1)=cS r n:=rfl
theorem qhcb (c:Cell)(r:List Cell)(n:Nat):cC (c::r) (n+1)=cC r n:=rfl
theorem qffc (b:Bool)(r:List Cell):cB (.sc (.bool b)::r) 0=some b:=rfl
theorem qeac (k:IntKind)(n:Int)(r:List Cell):cI k (.sc (.int k n)::r) 0=some n:=by simp[cI]
theorem qfac (s:ByteArray)(r:List Cell):cS (.sc (.string s)::r) 0=some s:=rfl
theorem qhc (c:Cell)(r:List Cell):cC (c::r) 0=some c:=rfl
theorem wrap_small {n:Int}(h1:-9223372036854775808≤n)(h2:n≤9223372036854775807):IntKind.i64.wrap n=n:=by
 simp only[IntKind.wrap,IntKind.bits,IntKind.signed]
 simp
 omega
theorem qag:Go.maxLen=9223372036854775807:=rfl
theorem qae {i:Nat}(h:i < Go.maxLen):IntKind.i64.wrap ((i:Int)+1)=((i+1:Nat):Int):=by
 rw[wrap_small]
 ·omega
 ·omega
 ·have:=qag;omega
theorem drop_nil {α:Type}{xs:List α}{i:Nat}(h:xs.drop i=[]):xs.length≤i:=by
 rcases Nat.lt_or_ge i xs.length with h' | h'
 ·have:=List.length_drop (i:=i) (l:=xs)
  rw[h] at this
  simp at this
  omega
 ·exact h'
theorem qaq {α:Type}{xs:List α}{i:Nat}{x:α}{l:List α}(h:xs.drop i=x::l):i < xs.length∧xs[i]?=some x∧xs.drop (i+1)=l:=by
 have hl:i < xs.length:=by
  rcases Nat.lt_or_ge i xs.length with h' | h'
  ·exact h'
  ·rw[List.drop_eq_nil_of_le h'] at h;simp at h
 rw[List.drop_eq_getElem_cons hl] at h
 simp only[List.cons.injEq] at h
 exact⟨hl,by rw[List.getElem?_eq_getElem hl,h.1],h.2⟩
def out (p:Run)(as:List AV):Option (List AV):=(p as []).map (·.1)
def outL (p:Run)(as:List AV):Option (List AV):=(p as []).bind fun r=>mapO (qal false r.2) r.1
theorem qnbb (p:Run)(args:List AV)(H:List Entry):qbc p args H=(mapO (qal false H) args).bind (out p):=by
 unfold qbc out
 split
 ·rename_i as h
  rw[h]
  simp only[Option.bind_some]
  split<;>simp_all
 ·rename_i h;rw[h];rfl
theorem qkg (p:Run)(args:List AV)(H:List Entry):callL p args H=((mapO (qal true (args.foldl qdf H)) args).bind (outL p)).map fun xs=>(xs,args.foldl qdf H):=by
 unfold callL outL
 dsimp only
 split
 ·rename_i as h
  simp only[h,Option.bind_some]
  split
  ·rename_i r hr
   rw[hr]
   simp only[Option.bind_some]
   split
   ·rename_i xs hx;rw[hx];rfl
   ·rename_i hx;rw[hx];rfl
  ·rename_i hr;rw[hr];rfl
 ·rename_i h;simp only[h];rfl
class Canon (c:Cell):Prop where
 nrm:norm c=c
 plain:qfkb c=some c
 frz:∀ n H,qep n H c=H
instance (v:Value):Canon (.sc v):=⟨by simp[norm],rfl,fun n H=>by cases n<;>rfl⟩
def qlw (cs:List Cell):Prop:=∀ c∈cs,Canon c
theorem qlw.map {cs:List Cell}(h:qlw cs):cs.map norm=cs:=by
 induction cs with
 | nil=>rfl
 | cons c cs ih=>simp only[List.map_cons,(h c (by simp)).nrm,ih fun d hd=>h d (by simp[hd])]
theorem qaic {sz:Nat}{rows:List (List Cell)}(h:∀ r∈rows,qlw r):Canon (.lst false sz rows):=by
 refine⟨?_,rfl,fun n H=>by cases n<;>rfl⟩
 rw[norm,qhn]
 congr 1
 induction rows with
 | nil=>rfl
 | cons r rs ih=>simp only[List.map_cons,(h r (by simp)).map,ih fun d hd=>h d (by simp[hd])]
class CanonE {α:Type}(e:α→List Cell):Prop where
 canon:∀ x,qlw (e x)
instance {α:Type}(sz:Nat)(e:α→List Cell)[CanonE e](xs:List α):Canon (encL sz e xs):=
 qaic fun r hr=>by
  obtain⟨x,_,rfl⟩:=List.mem_map.1 hr
  exact CanonE.canon x
theorem qlw.nil:qlw []:=fun _ h=>by simp at h
theorem qlw.cons {c:Cell}{cs:List Cell}(h:Canon c)(t:qlw cs):qlw (c::cs):=fun d hd=>by
 rcases List.mem_cons.1 hd with rfl | hd
 ·exact h
 ·exact t d hd
instance:CanonE eStr:=⟨fun _=>.cons inferInstance .nil⟩
instance:CanonE qvmb:=⟨fun _=>.cons inferInstance .nil⟩
instance:CanonE qcz:=⟨fun _=>.cons inferInstance .nil⟩
theorem Canon.lend {c:Cell}(h:Canon c):qeuc c=some c:=by simp[qeuc,h.plain,h.nrm]
theorem Canon.reify {c:Cell}(h:Canon c)(chk:Bool)(H:List Entry)(n:Nat):reify chk H n c=some c:=by
 cases n with
 | zero=>exact h.lend
 | succ n=>
  cases c with
  | vs id sz off len ep=>have:=h.plain;simp[qfkb] at this
  | _=>exact h.lend
class CanonA (x:AV):Prop where
 canon:qlw x.cells
instance (c:Cell)[h:Canon c]:CanonA (.one c):=⟨.cons h .nil⟩
class CanonLs (cs:List Cell):Prop where
 canon:qlw cs
instance:CanonLs []:=⟨.nil⟩
instance (c:Cell)(cs:List Cell)[h:Canon c][t:CanonLs cs]:CanonLs (c::cs):=⟨.cons h t.canon⟩
instance (cs:List Cell)[h:CanonLs cs]:CanonA (.agg cs):=⟨h.canon⟩
theorem qmz {cs:List Cell}(h:qlw cs)(chk:Bool)(H:List Entry)(n:Nat):mapO (reify chk H n) cs=some cs:=by
 induction cs with
 | nil=>rfl
 | cons c cs ih=>simp only[mapO,(h c (by simp)).reify,ih fun d hd=>h d (by simp[hd])]
theorem qam (x:AV)[h:CanonA x](chk:Bool)(H:List Entry):qal chk H x=some x:=by
 have:=h.canon
 cases x with
 | one c=>simp only[qal,(this c (by simp[AV.cells])).reify];rfl
 | agg cs=>simp only[qal,qmz (cs:=cs) this];rfl
theorem qjb (x:AV)[h:CanonA x](H:List Entry):qdf H x=H:=by
 have:=h.canon
 unfold qdf
 generalize x.cells=cs at this
 induction cs generalizing H with
 | nil=>rfl
 | cons c cs ih=>rw[List.foldl_cons,(this c (by simp)).frz,ih _ fun d hd=>this d (by simp[hd])]
class CanonAs (xs:List AV):Prop where
 canon:∀ x∈xs,CanonA x
instance:CanonAs []:=⟨fun _ h=>by simp at h⟩
instance (x:AV)(xs:List AV)[h:CanonA x][t:CanonAs xs]:CanonAs (x::xs):=⟨fun d hd=>by
 rcases List.mem_cons.1 hd with rfl | hd
 ·exact h
 ·exact t.canon d hd⟩
theorem qaz (xs:List AV)[h:CanonAs xs](chk:Bool)(H:List Entry):mapO (qal chk H) xs=some xs:=by
 have:=h.canon
 clear h
 induction xs with
 | nil=>rfl
 | cons x xs ih=>
  have:=this x (by simp)
  simp only[mapO,qam x,ih (by simp_all)]
theorem qktb (xs:List AV)[h:CanonAs xs](H:List Entry):xs.foldl qdf H=H:=by
 have:=h.canon
 clear h
 induction xs generalizing H with
 | nil=>rfl
 | cons x xs ih=>
  have:=this x (by simp)
  rw[List.foldl_cons,qjb x,ih]
  simp_all
theorem qqw (p:Run)(args:List AV)[CanonAs args](H:List Entry):qbc p args H=out p args:=by
 rw[qnbb,qaz];rfl
theorem qrq (p:Run)(args:List AV)[CanonAs args](H:List Entry):callL p args H=(outL p args).map fun xs=>(xs,H):=by
 rw[qkg,qktb,qaz];rfl
theorem qbw {p:Run}{as xs:List AV}{H:List Entry}(h:p as []=some (xs,H)):out p as=some xs:=by simp[out,h]
theorem qbz {p:Run}{as xs ys:List AV}{H:List Entry}(h:p as []=some (xs,H))(k:mapO (qal false H) xs=some ys):outL p as=some ys:=by simp[outL,h,k]
theorem qeb {p:Run}{as xs:List AV}{H:List Entry}(h:p as []=some (xs,H))[CanonAs xs]:outL p as=some xs:=qbz h (qaz xs _ _)
theorem law_out {P:Program}{Ok:Nat→World→Prop}{f:FuncId}{p:Run}{w:World}(hf:FnOk P Ok f p){as:List AV}{args:Array Value}(h:out p as=some [.one (Cell.bool true)])(hOk:Ok w.heap.size w)
  (ha:AL (memG w) w as args.toList):Calls P f args w fun e w'=>e=.returned (.bool true)∧RowKit.Below w.heap.size w w':=by
 unfold out at h
 obtain⟨⟨xs,H'⟩,h1,h2⟩:=Option.map_eq_some_iff.1 h
 dsimp only at h2
 subst h2
 exact qbnc hf h1 hOk ha
theorem qfpb (x:AV)(r:List AV):qaa (x::r) 0=x.cells:=rfl
theorem qfyb (x y:AV)(r:List AV):qaa (x::y::r) 1=y.cells:=rfl
theorem qgpb (x y z:AV)(r:List AV):qaa (x::y::z::r) 2=z.cells:=rfl
theorem qhrb (x y z u:AV)(r:List AV):qaa (x::y::z::u::r) 3=u.cells:=rfl
theorem cells_one (c:Cell):(AV.one c).cells=[c]:=rfl
theorem qcvb (cs:List Cell):(AV.agg cs).cells=cs:=rfl
theorem qgzb:qab [] []=true:=rfl
theorem qelb (k:Kd)(r:List (Bool×List Kd))(c:Cell)(xs:List AV):qab ((false,[k])::r) (.one c::xs)=qab r xs:=rfl
theorem qdmb (ks:List Kd)(r:List (Bool×List Kd))(cs:List Cell)(xs:List AV):qab ((true,ks)::r) (.agg cs::xs)=(cs.length==ks.length&&qab r xs):=rfl
theorem qgu (id sz N ep i:Nat)(h:i < N):idxA sz (.vs id sz 0 N ep) (i:Int)=some (.ptr id sz i 0 ep):=by
 simp only[idxA,if_true,Int.toNat_natCast,Nat.zero_add]
 rw[if_pos ⟨by omega,by omega⟩]
theorem qoyc {α:Type}{sz:Nat}(e:α→List Cell)[CanonE e](xs:List α)(ep:Nat)(fr:Bool):
  mapO (qal false [Entry.mk sz (xs.map e) ep fr]) [.one (.vs 0 sz 0 xs.length ep)]=some [.one (encL sz e xs)]:=by
 have h:∀ (H:List Entry) (n:Nat) (rows:List α),mapO (mapO (reify false H n)) (rows.map e)=some (rows.map e):=by
  intro H n rows
  induction rows with
  | nil=>rfl
  | cons r rs ih=>simp only[List.map_cons,mapO,qmz (CanonE.canon r),ih]
 have hl:(xs.map e).take xs.length=xs.map e:=by rw[← List.length_map (f:=e),List.take_length]
 have h1:reify false [Entry.mk sz (xs.map e) ep fr] depth (.vs 0 sz 0 xs.length ep)=some (encL sz e xs):=by
  show(match entry? [Entry.mk sz (xs.map e) ep fr] 0 ep with
   | some en=>if (false=true→en.fr=true)∧0+xs.length≤en.rows.length then (mapO (mapO (reify false [Entry.mk sz (xs.map e) ep fr] 4194303)) ((en.rows.drop 0).take xs.length)).map (.lst false sz) else none
   | none=>none)=some (encL sz e xs)
  simp[entry?,h,hl,encL]
 simp only[mapO,qal,h1,Option.map_some]
def Grow (sz:Nat)(c:Cell)(H:List Entry)(rows:List (List Cell)):Prop:=(rows=[]∧c=.lst true sz []∧H=[])∨∃ ep,c=.vs 0 sz 0 rows.length ep∧H=[Entry.mk sz rows ep false]
theorem Grow.nil (sz:Nat):Grow sz (.lst true sz []) [] []:=.inl ⟨rfl,rfl,rfl⟩
theorem Grow.app {sz by':Nat}{c:Cell}{H:List Entry}{rows:List (List Cell)}(h:Grow sz c H rows)(ys:List (List Cell))(h1:(rows.length+ys.length)*by'≤bound)(h2:rows.length+ys.length≤bound):
  ∃ p,Ev.app H sz by' c ys=some p∧Grow sz p.1 p.2 (rows++ys):=by
 rcases h with⟨rfl,rfl,rfl⟩ | ⟨ep,rfl,rfl⟩
 ·cases ys with
  | nil=>exact⟨_,rfl,.inl ⟨rfl,rfl,rfl⟩⟩
  | cons y ys=>
   refine⟨(.vs 0 sz 0 ([]++(y::ys):List (List Cell)).length 0,[Entry.mk sz (y::ys) 0 false]),?_,.inr ⟨0,rfl,rfl⟩⟩
   simp only[List.length_nil] at h1 h2
   simp[Ev.app,h1,h2] at h1 h2 ⊢
   exact⟨h1,h2⟩
 ·refine⟨(.vs 0 sz 0 (rows++ys).length (ep+1),[Entry.mk sz (rows++ys) (ep+1) false]),?_,.inr ⟨ep+1,rfl,rfl⟩⟩
  have e:rows.take rows.length=rows:=List.take_length
  simp[Ev.app,entry?,h1,h2,e]
theorem Grow.read {α:Type}{sz:Nat}{c:Cell}{H:List Entry}{e:α→List Cell}[CanonE e]{xs:List α}(h:Grow sz c H (xs.map e)):mapO (qal false H) [.one c]=some [.one (encL sz e xs)]:=by
 rcases h with⟨h1,rfl,rfl⟩ | ⟨ep,rfl,rfl⟩
 ·simp only[List.map_eq_nil_iff] at h1
  subst h1
  simp[mapO,qal,depth,reify,qeuc,qfkb,norm,normRows,encL]
 ·simpa using qoyc e xs ep false
def wtL {α:Type}(w:α→Nat)(xs:List α):Nat:=xs.length+(xs.map w).sum
def bdL {α:Type}(N:Nat)(b:α→Prop)(xs:List α):Prop:=xs.length≤N∧∀ x∈xs,b x
def wtS (s:Str):Nat:=s.length
def bdS (N:Nat)(s:Str):Prop:=s.length≤N
def bdI (n:Int):Prop:=-9223372036854775808≤n∧n≤9223372036854775807
theorem qfic {Γ:Ctx}{n:Nat}{t:TypeId}{cs:List Cell}(h:WT Γ n t cs):∃ m,n=m+1:=by
 cases n with
 | zero=>exact h.elim
 | succ n=>exact⟨n,rfl⟩
theorem qmyc {α:Type}{e0:α→List Cell}{b:α→Prop}{Γ:Ctx}{n:Nat}{t e:TypeId}{cs:List Cell}{r q:Ty}(h:WT Γ n t cs)(hr:Γ.ty t=some r)(hk:r.kd=.slice e)(hq:Γ.ty e=some q)
  (hh:∀ (n:Nat) (row:List Cell),WT Γ n e row→∃ x:α,row=e0 x∧b x):∃ xs:List α,cs=[encL q.size e0 xs]∧bdL Go.maxLen b xs:=by
 obtain⟨n,rfl⟩:=qfic h
 simp only[WT,hr,hk] at h
 obtain⟨q',rows,h1,h2,h3,h4⟩:=h
 rw[hq] at h2
 simp only[Option.some.injEq] at h2
 subst h2
 obtain⟨xs,hxs,hb⟩:∃ xs:List α,rows=xs.map e0∧∀ x∈xs,b x:=by
  clear h1 h3
  induction rows with
  | nil=>exact⟨[],rfl,by simp⟩
  | cons row rows ih=>
   obtain⟨x,hx,hbx⟩:=hh n row (h4 row (by simp))
   obtain⟨xs,h1,h2⟩:=ih fun r hr=>h4 r (by simp[hr])
   refine⟨x::xs,by simp[hx,h1],fun y hy=>?_⟩
   rcases List.mem_cons.1 hy with rfl | hy
   ·exact hbx
   ·exact h2 y hy
 subst hxs
 exact⟨xs,h1,by simpa using h3,hb⟩
theorem WT_bytes {Γ:Ctx}{n:Nat}{t e:TypeId}{cs:List Cell}{r q:Ty}(h:WT Γ n t cs)(hr:Γ.ty t=some r)(hk:r.kd=.slice e)(hq:Γ.ty e=some q)(hk':q.kd=.int .u8)(hs:q.size=1):
  ∃ x:Str,cs=[qix x]∧bdS Go.maxLen x:=by
 obtain⟨xs,h1,h2⟩:=qmyc (α:=UInt8) (e0:=qvmb) (b:=fun _=>True) h hr hk hq fun n row h=>by
  obtain⟨n,rfl⟩:=qfic h
  simp only[WT,hq,hk'] at h
  obtain⟨i,h1,h2,h3⟩:=h
  have h2:0≤i:=h2
  have h3:i≤255:=h3
  refine⟨UInt8.ofNat i.toNat,?_,trivial⟩
  rw[h1,qvmb]
  congr 3
  have:(UInt8.ofNat i.toNat).toNat=i.toNat:=by simp;omega
  rw[this]
  omega
 rw[hs] at h1
 exact⟨xs,h1,h2.1⟩
theorem qjh {α:Type}(x:Option α):qsw [] x=x:=rfl
theorem EV0:type_of% (And.intro (And.intro (And.intro (And.intro (And.intro (@qqw) (@qrq)) (And.intro (@Option.map_some.{0,0}) (@Option.bind_some.{0,0}))) (And.intro (And.intro (@qelb) (@qdmb)) (And.intro (@qgzb) (@qfpb)))) (And.intro (And.intro (And.intro (@qfyb) (@qgpb)) (And.intro (@qhrb) (@cells_one))) (And.intro (And.intro (@qcvb) (@qffc)) (And.intro (@qeac) (And.intro (@qfac) (@qhc)))))) (And.intro (And.intro (And.intro (And.intro (@qqtb) (@qqvb)) (And.intro (@qfec) (@qhcb))) (And.intro (And.intro (@cond_true.{1}) (@cond_false.{1})) (And.intro (@List.length_cons.{0}) (@List.length_nil.{0})))) (And.intro (And.intro (And.intro (@beq_self_eq_true.{0}) (@Bool.and_true)) (And.intro (@Bool.true_and) (@qan))) (And.intro (And.intro (@qqxb) (@qhqb)) (And.intro (@qjh) (And.intro (@qee) (@qdz))))))):=And.intro (And.intro (And.intro (And.intro (And.intro (@qqw) (@qrq)) (And.intro (@Option.map_some.{0,0}) (@Option.bind_some.{0,0}))) (And.intro (And.intro (@qelb) (@qdmb)) (And.intro (@qgzb) (@qfpb)))) (And.intro (And.intro (And.intro (@qfyb) (@qgpb)) (And.intro (@qhrb) (@cells_one))) (And.intro (And.intro (@qcvb) (@qffc)) (And.intro (@qeac) (And.intro (@qfac) (@qhc)))))) (And.intro (And.intro (And.intro (And.intro (@qqtb) (@qqvb)) (And.intro (@qfec) (@qhcb))) (And.intro (And.intro (@cond_true.{1}) (@cond_false.{1})) (And.intro (@List.length_cons.{0}) (@List.length_nil.{0})))) (And.intro (And.intro (And.intro (@beq_self_eq_true.{0}) (@Bool.and_true)) (And.intro (@Bool.true_and) (@qan))) (And.intro (And.intro (@qqxb) (@qhqb)) (And.intro (@qjh) (And.intro (@qee) (@qdz))))))
end Go.Ev
