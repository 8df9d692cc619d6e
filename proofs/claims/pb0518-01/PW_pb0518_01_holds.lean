import PyProof.Rows.All
import Wide.All
import OpenK.AllK
import Wide.FinOn
import Lean
import PySem.Challenge.RW_pb0518_01
open PySem PySem.W PySem.Calls PyProof.Rows
set_option Elab.async false
set_option linter.all false
set_option maxRecDepth 100000
set_option maxHeartbeats 2000000
set_option genSizeOf false
set_option genInjectivity false
set_option genCtorIdx false
set_option compiler.extract_closed false
set_option bootstrap.genMatcherCode false
namespace Mine.Internal
namespace Mine
noncomputable def nmS:List String:=["octets","at","memory","kind","value","is_exec","access","number","is_global","level","things","body","start","many",
 "width","rows","held","limits","saves","journal","made","freed","used","used_global","last_body","last_save",
 "operands","dicts","frames","gstates","text","row","entries","word","path","dash","files","system","vm",
 "append","pop","get","join","partition","index","split",
 "next","back","string","procedure","slashed","pointed","closed","plain","token","end","put","alone","body_level","take_room","check_room","text_of_octets","make_row",
 "integer","real","name","array","packed","null","dict","int","str","lit","exec","open","close","left","mixed","told"]
noncomputable def nmL:List Str:=nmS.map Str.ofString
noncomputable def nm (k:Nat):Str:=nmL.getD k ⟨#[k+2000000]⟩
theorem nm_inj {i j:Nat} (h:nm i=nm j):i=j:=by
 have key:∀ i < 79,∀ j < 79,nm i=nm j->i=j:=by decide +kernel
 have low:∀ i < 79,∀ c∈(nm i).cps.toList,c < 2000000:=by decide +kernel
 have out:∀ k,¬ k < 79->nm k=⟨#[k+2000000]⟩:=fun k hk=>by
  unfold nm
  rw [List.getD_eq_getElem?_getD,List.getElem?_eq_none (show nmL.length<=k from Nat.not_lt.mp hk)];rfl
 have mix:∀ i j,i < 79->¬ j < 79->nm i≠nm j:=fun i j hi hj e=>by
  have:=low i hi
  rw [e,out j hj] at this
  exact absurd (this _ (.head _)) (Nat.not_lt.mpr (Nat.le_add_left _ _))
 by_cases hi:i < 79<;>by_cases hj:j < 79
 ·exact key i hi j hj h
 ·exact absurd h (mix i j hi hj)
 ·exact absurd h.symm (mix j i hj hi)
 ·rw [out i hi,out j hj] at h;simpa using h
noncomputable def fldL:List (List Nat):=[[0,1],[2],[14,15,16],[17,8,18,19,20,21,22,23,24,25],[26,27,28,18,29,30,31,32,33,34,35,36,37,38],[3,4,5,6],[7,0,8,9],[7,10,8,9],[11,12,13]]
noncomputable def fld (c:Nat):List Nat:=fldL.getD c []
noncomputable def biL:List Value:=[.builtin "len", .type "bytes", .type "bytearray", .builtin "abs", .type "range", .type "enumerate", .builtin "isinstance", .type "int", .type "list", .builtin "min",
 .builtin "list.append", .builtin "list.pop", .builtin "bytearray.append", .builtin "dict.get", .builtin "bytes.join", .builtin "bytes.partition", .builtin "bytes.index", .builtin "bytes.split"]
noncomputable def biV (b:Nat):Value:=biL.getD b (.builtin "len")
noncomputable def methL:List ((Nat×Nat)×Nat):=[((0,46),43),((0,47),44),((1,48),61),((1,49),62),((1,50),63),((1,51),64),((1,52),65),((1,53),66),((1,54),67),((1,10),68),
 ((2,55),76),((2,56),77),((2,57),78),((3,58),85),((3,59),86),((3,60),87),((3,61),89),((3,62),90)]
abbrev Bs:=List UInt8
inductive D
 | none | bool (b:Bool) | int (i:Int) | str (k:Nat) | bytes (b:Bs) | tup (vs:List D) | obj (c:Nat) (vs:List D) | list (vs:List D) | barr (b:Bs)
inductive V
 | d (x:D) | pair (a b:V) | ref (i:Nat) | inst (c i:Nat) | fn (k:Nat) | cls (c:Nat) | bi (b:Nat)
inductive O
 | list (xs:List D) | refs (is:List Nat) | barr (b:Bs) | ns (c:Nat) (vs:List V) | sdict (fs:List (Nat×V)) | idict (fs:List (Int×D)) | cell (v:Option V) | dead
abbrev Hp:=List O
abbrev Fz:=Addr->Option Obj
structure Wd where
 m:List Addr
 fz:Fz
structure Wd.le (w w':Wd):Prop where
 m:∀ (i:Nat) (a:Addr),w.m[i]?=some a->w'.m[i]?=some a
 fz:∀ (a:Addr) (o:Obj),w.fz a=some o->w'.fz a=some o
theorem Wd.le.refl (w:Wd):w.le w:=⟨fun _ _ h=>h,fun _ _ h=>h⟩
theorem Wd.le.trans {x y z:Wd} (h:x.le y) (k:y.le z):x.le z:=⟨fun i a e=>k.m i a (h.m i a e),fun a o e=>k.fz a o (h.fz a o e)⟩
noncomputable def Fz.set (fz:Fz) (a:Addr) (o:Obj):Fz:=fun b=>if b=a then some o else fz b
noncomputable def Wd.frz (w:Wd) (a:Addr) (o:Obj):Wd:=⟨w.m,w.fz.set a o⟩
theorem Fz.set_at (fz:Fz) (a:Addr) (o:Obj):(fz.set a o) a=some o:=if_pos rfl
theorem Fz.set_ne (fz:Fz) {a b:Addr} (o:Obj) (h:b≠a):(fz.set a o) b=fz b:=if_neg h
theorem Fz.set_eq {fz:Fz} {a b:Addr} {o o':Obj} (e:(fz.set a o) b=some o'):b=a/\o=o'\/fz b=some o':=by
 by_cases q:b=a
 ·subst q;rw [Fz.set_at] at e;exact .inl ⟨rfl,Option.some.inj e⟩
 ·rw [Fz.set_ne _ _ q] at e;exact .inr e
theorem Wd.frz_le {w:Wd} {a:Addr} {o:Obj} (h:w.fz a = .none):w.le (w.frz a o) :=
 ⟨fun _ _ e=>e,fun b o' e=>(Fz.set_ne _ _ fun q:b=a=>by rw [q,h] at e;cases e).trans e⟩
noncomputable def Wd.add (w:Wd) (a:Addr):Wd:=⟨w.m++[a],w.fz⟩
theorem Wd.add_le (w:Wd) (a:Addr):w.le (w.add a) :=
 ⟨fun i _ e=>(List.getElem?_append_left (List.getElem?_eq_some_iff.mp e).1).trans e,fun _ _ e=>e⟩
abbrev tailOf (cP:Addr):List Value:=[.ref cP,.type "Exception", .type "BaseException", .type "object"]
structure Sx where
 prog:Program
 w:World
 K:Frag
 p:Program
 loose:List Str
 mg:Str->Option Value
 mb:Str->Option Value
 cA:Nat->Addr
 fA:Nat->Addr
 base:Heap
 kin:K.In base
 top:TopRead p loose mg mb base
 sys:(base.get? sysModules).isSome=true
 os:OsState
 fz0:Fz
 fz0in:∀ a o,fz0 a=some o->base.get? a=some o
 clsGet:∀ c,plainGet K (cA c) "" = true
 clsDict:∀ c,hasDictIn K (cA c)=true
 clsAttr:∀ c,∀ n∈fld c,∃ a,findIn K (.ref (cA c)) (nm n)=some a/\noGet K a=true
 clsMeth:∀ q∈methL,findIn K (.ref (cA q.1.1)) (nm q.1.2)=some (some (.ref (fA q.2)))/\isFn K (.ref (fA q.2))=true
 fnKeep:∀ k,keepIn K (.ref (fA k))=true
 clsKeep:∀ c,keepIn K (.ref (cA c))=true
 lvl:∃ p rest,findIn K (.ref (cA 3)) (nm 9)=some (some (.ref p))/\specialIn K (.ref p) "__get__" = some (some (.builtin "property.__get__"))/\takesIn K (.ref p)=some true/\recIn K p "property" = some (.ref (fA 84)::rest)
 clsSet:∀ c,findIn K (.ref (cA c)) "__setattr__" = some (some (.builtin "object.__setattr__"))
 clsPlain:∀ c,plainOver K (cA c)=true
 clsTake:∀ c,∀ n∈fld c,takerIn K (cA c) (nm n)=some none
 cE:Addr
 cP:Addr
 xn:Str
 xq:Str
 xN:Addr
 xbs:List Value
 xsn:List Str
 xsub:List Value
 xcol:Option Bool
 xdd:Option Addr
 xk:Option Value×Option Value×Option Value×Option Value×Option Value
 xlook:K.lookup cE=some (excClassObj xn xq cE xN xbs (tailOf cP) true xsn xsub false xcol xdd xk.1 xk.2.1 xk.2.2.1 xk.2.2.2.1 xk.2.2.2.2 "Exception.__new__")
 xinit:findIn K (.ref cE) "__init__" = some (some (.ref (fA 1)))
 xfn:typeIn K (.ref (fA 1))=some (.type "function")
 xset:findIn K (.ref cE) "__setattr__" = some (some (.builtin "object.__setattr__"))
 xget:findIn K (.ref cE) "__getattribute__" = some (some (.builtin "BaseException.__getattribute__"))
 xtold:findIn K (.ref cE) "told" = some none
 xkeep:keepIn K (.ref cE)=true
 xcall:specialIn K (.ref cE) "__call__" = some (some (.builtin "type.__call__"))
 xtyp:instIn K (.ref cE) (.type "type")=some true
 xglob:nsIn K mainGlobals "PsError" = some (some (.ref cE))
inductive IsTup (fz:Fz) (R:List Value->Prop):Value->Prop
 | mk {a:Addr} {cvs:List Value} {n:Nat} {dd:Option Addr} {sl:Array (Option Value)}:fz a=some ⟨.type "tuple", dd,.seq cvs.toArray n,sl⟩->R cvs->IsTup fz R (.ref a)
inductive IsFl (fz:Fz) (R:List Value->Prop):Value->Prop
 | mk {a:Addr} {cvs:List Value} {n:Nat}:fz a=some (listOf cvs.toArray n)->R cvs->IsFl fz R (.ref a)
inductive IsFb (fz:Fz) (b:Bs):Value->Prop
 | mk {a:Addr}:fz a=some { cls := .type "bytearray", data := .bytearray b.toArray 0 }->IsFb fz b (.ref a)
inductive IsCons {α:Type} (R:α->Prop) (Rs:List α->Prop):List α->Prop
 | mk {c:α} {r:List α}:R c->Rs r->IsCons R Rs (c::r)
inductive IsEnt (w:World) (n:Nat) (c:Value):DictEntry->Prop
 | mk {t:Tok}:IsEnt w n c ⟨PyData.keyHash w.params (nm n),.str (nm n) t,c⟩
noncomputable def Ents (w:World) (ns:List Nat) (cvs:List Value):List DictEntry->Prop :=
 cvs.rec (motive:=fun a=>List Nat->List DictEntry->Prop) (fun ns l=>l=[]) (fun c cs ih ns=>ns.casesOn (fun l=>False) fun n ns=>IsCons (IsEnt w n c) (ih ns)) ns
inductive IsOb (w:World) (fz:Fz) (C:Addr) (ns:List Nat) (R:List Value->Prop):Value->Prop
 | mk {a d:Addr} {es:List DictEntry} {n:Nat} {cvs:List Value}:fz a=some (instObj C d)->fz d=some (dictOf es n)->Ents w ns cvs es->R cvs->IsOb w fz C ns R (.ref a)
noncomputable def All2 {α β:Type} (R:α->β->Prop):List α->List β->Prop
 | []=>(·=[])
 | a::r=>IsCons (R a) (All2 R r)
section
variable (S:Sx)
noncomputable def RelD (fz:Fz) (v:D):Value->Prop :=
 D.rec (motive_1:=fun _=>Value->Prop) (motive_2:=fun _=>List Value->Prop) (· = .none) (fun b=>(· = .bool b)) (fun i c=>∃ t,c = .int i t) (fun k c=>∃ t,c = .str (nm k) t) (fun b c=>∃ t,c = .bytes b.toArray t)
  (fun _ r=>IsTup fz r) (fun c _ r=>IsOb S.w fz (S.cA c) (fld c) r) (fun _ r=>IsFl fz r) (fun b=>IsFb fz b) (·=[]) (fun _ _ r rs=>IsCons r rs) v
noncomputable def RelDs (fz:Fz) (vs:List D):List Value->Prop :=
 D.rec_1 (motive_1:=fun _=>Value->Prop) (motive_2:=fun _=>List Value->Prop) (· = .none) (fun b=>(· = .bool b)) (fun i c=>∃ t,c = .int i t) (fun k c=>∃ t,c = .str (nm k) t) (fun b c=>∃ t,c = .bytes b.toArray t)
  (fun _ r=>IsTup fz r) (fun c _ r=>IsOb S.w fz (S.cA c) (fld c) r) (fun _ r=>IsFl fz r) (fun b=>IsFb fz b) (·=[]) (fun _ _ r rs=>IsCons r rs) vs
inductive IsRef (m:List Addr) (i:Nat):Value->Prop
 | mk {a:Addr}:m[i]?=some a->IsRef m i (.ref a)
inductive IsIn (w:Wd) (C:Addr) (i:Nat):Value->Prop
 | mk {a d:Addr}:w.fz a=some (instObj C d)->w.m[i]?=some d->IsIn w C i (.ref a)
noncomputable def Rel (w:Wd) (v:V):Value->Prop :=
 V.rec (motive:=fun _=>Value->Prop) (fun x=>RelD S w.fz x) (fun _ _ r q=>IsTup w.fz (IsCons r (IsCons q (·=[])))) (fun i=>IsRef w.m i) (fun c i=>IsIn w (S.cA c) i) (fun k=>(· = .ref (S.fA k))) (fun c=>(· = .ref (S.cA c))) (fun b=>(·=biV b)) v
end
end Mine
namespace Mine
section
variable {α β:Type} {R R':α->β->Prop}
theorem IsCons.imp {P P':α->Prop} {Q Q':List α->Prop} (h:∀ c,P c->P' c) (k:∀ c,Q c->Q' c) {l:List α} (r:IsCons P Q l):IsCons P' Q' l:=by
 cases r with | mk a b=>exact .mk (h _ a) (k _ b)
theorem All2.imp (h:∀ a b,R a b->R' a b) {l:List α}:∀ {r:List β},All2 R l r->All2 R' l r:=by
 induction l with
 | nil=>exact fun e=>e
 | cons a l ih=>exact fun r=>IsCons.imp (h a) (fun _=>ih) r
theorem All2.length {l:List α}:∀ {r:List β},All2 R l r->r.length=l.length:=by
 induction l with
 | nil=>exact fun e=>congrArg List.length e
 | cons a l ih=>intro r h;cases h with | mk x y=>exact congrArg Nat.succ (ih y)
theorem All2.app {l':List α} {r':List β} (k:All2 R l' r') {l:List α}:∀ {r:List β},All2 R l r->All2 R (l++l') (r++r'):=by
 induction l with
 | nil=>intro r (e:r=[]);rw [e];exact k
 | cons a l ih=>intro r h;cases h with | mk x y=>exact .mk x (ih y)
theorem All2.get {a:α} {l:List α}:∀ {i:Nat} {r:List β},All2 R l r->l[i]?=some a->∃ b,r[i]?=some b/\R a b:=by
 induction l with
 | nil=>intro i r h e;cases e
 | cons c l ih =>
  intro i r h e
  cases h with | mk x y =>
  cases i with
  | zero=>cases e;exact ⟨_,rfl,x⟩
  | succ i=>exact ih (i:=i) y e
theorem All2.rev {l:List α}:∀ {r:List β},All2 R l r->All2 R l.reverse r.reverse:=by
 induction l with
 | nil=>intro r (e:r=[]);rw [e];rfl
 | cons a l ih=>intro r h;cases h with | mk x y=>rw [List.reverse_cons,List.reverse_cons];exact All2.app (l':=[a]) (IsCons.mk (Rs:=All2 R []) x rfl) (ih y)
theorem All2.split {l':List α} {l:List α}:∀ {r:List β},All2 R (l++l') r->∃ c d,r=c++d/\All2 R l c/\All2 R l' d:=by
 induction l with
 | nil=>exact fun h=>⟨[],_,rfl,rfl,h⟩
 | cons a l ih =>
  intro r h
  cases h with | mk x y =>
  obtain ⟨c,d,e,p,q⟩:=ih y
  exact ⟨_::c,d,congrArg _ e,.mk x p,q⟩
end
section
variable {S:Sx} {fz fz':Fz} {w w':Wd}
theorem RelDs.eq {l:List Value}:∀ {vs:List D},RelDs S fz vs l↔All2 (RelD S fz) vs l:=fun {vs} =>
 vs.rec (motive:=fun vs=>∀ {l},RelDs S fz vs l↔All2 (RelD S fz) vs l) .rfl fun _ _ ih=>⟨fun r=>IsCons.imp (fun _ h=>h) (fun _=>ih.mp) r,fun r=>IsCons.imp (fun _ h=>h) (fun _=>ih.mpr) r⟩
theorem IsTup.imp {R R':List Value->Prop} (h:∀ a o,fz a=some o->fz' a=some o) (k:∀ l,R l->R' l) {c:Value} (r:IsTup fz R c):IsTup fz' R' c:=r.rec fun e q => .mk (h _ _ e) (k _ q)
theorem RelD.mono (h:∀ a o,fz a=some o->fz' a=some o) {v:D}:∀ {c:Value},RelD S fz v c->RelD S fz' v c :=
 D.rec (motive_1:=fun v=>∀ {c},RelD S fz v c->RelD S fz' v c) (motive_2:=fun vs=>∀ {l},RelDs S fz vs l->RelDs S fz' vs l) (fun e=>e) (fun _ _ e=>e) (fun _ _ e=>e) (fun _ _ e=>e) (fun _ _ e=>e)
  (fun _ ih _ r=>IsTup.imp h (fun _=>ih) r) (fun _ _ ih _ (r:IsOb ..)=>r.rec fun e f g q => .mk (h _ _ e) (h _ _ f) g (ih q)) (fun _ ih _ (r:IsFl ..)=>r.rec fun e q => .mk (h _ _ e) (ih q)) (fun _ _ (r:IsFb ..)=>r.rec fun e => .mk (h _ _ e))
  (fun e=>e) (fun _ _ a b _ (r:IsCons ..)=>r.imp (fun _=>a) fun _=>b) v
theorem Rel.mono (h:w.le w') {v:V}:∀ {c:Value},Rel S w v c->Rel S w' v c :=
 V.rec (motive:=fun v=>∀ {c},Rel S w v c->Rel S w' v c) (fun _ _ r=>RelD.mono h.fz r) (fun _ _ i j _ r=>IsTup.imp h.fz (fun _ (r:IsCons ..)=>r.imp (fun _=>i) fun _ (r:IsCons ..)=>r.imp (fun _=>j) fun _ e=>e) r)
  (fun _ _ (r:IsRef ..)=>r.rec fun e => .mk (h.m _ _ e)) (fun _ _ _ (r:IsIn ..)=>r.rec fun e f => .mk (h.fz _ _ e) (h.m _ _ f)) (fun _ _ e=>e) (fun _ _ e=>e) (fun _ _ e=>e) v
theorem Rels.mono (h:w.le w') {vs:List V} {cs:List Value} (r:All2 (Rel S w) vs cs):All2 (Rel S w') vs cs:=r.imp fun _ _=>Rel.mono h
inductive IsList (R:List Value->Prop):Obj->Prop
 | mk {cvs:List Value} {n:Nat}:R cvs->IsList R (listOf cvs.toArray n)
inductive IsNs (S:Sx) (w:Wd) (c:Nat) (vs:List V):Obj->Prop
 | mk {es:List DictEntry} {n:Nat} {cvs:List Value}:Ents S.w (fld c) cvs es->All2 (Rel S w) vs cvs->IsNs S w c vs (dictOf es n)
noncomputable def PairR {α β:Type} (g:α->β) {γ:Type} (R:γ->Value->Prop) (p:α×γ) (q:β×Value):Prop:=q.1=g p.1/\R p.2 q.2
inductive IsDi {K:Type} [DecidableEq K] (knd:KeyKind S.prog S.w K) (R:List (K×Value)->Prop):Obj->Prop
 | mk {kvs:List (K×Value)} {o:Obj}:o.IsDictOf knd kvs->R kvs->IsDi knd R o
variable (S) in
noncomputable def ORel (w:Wd) (x:O):Obj->Prop :=
 O.casesOn (motive:=fun _=>Obj->Prop) x (fun xs=>IsList (All2 (RelD S w.fz) xs)) (fun is=>IsList (All2 (IsRef w.m) is)) (fun b=>(·={ cls := .type "bytearray", data := .bytearray b.toArray 0 })) (fun c vs=>IsNs S w c vs)
  (fun fs=>IsDi (strKind S.prog S.w) (All2 (PairR nm (Rel S w)) fs)) (fun fs=>IsDi (intKind S.prog S.w) (All2 (PairR id (RelD S w.fz)) fs))
  (fun v=>v.casesOn (fun o=>o.data = .cell none) fun v o=>∃ cv,o.data = .cell (some cv)/\Rel S w v cv) (fun _=>True)
theorem IsList.imp {R R':List Value->Prop} (h:∀ l,R l->R' l) {o:Obj} (r:IsList R o):IsList R' o:=r.rec fun q => .mk (h _ q)
theorem IsDi.imp {K:Type} [DecidableEq K] {knd:KeyKind S.prog S.w K} {R R':List (K×Value)->Prop} (h:∀ l,R l->R' l) {o:Obj} (r:IsDi knd R o):IsDi knd R' o:=r.rec fun e q => .mk e (h _ q)
theorem IsRef.mono {m m':List Addr} (h:∀ (i:Nat) (a:Addr),m[i]?=some a->m'[i]?=some a) {i:Nat} {c:Value} (r:IsRef m i c):IsRef m' i c:=r.rec fun e => .mk (h _ _ e)
theorem ORel.mono (h:w.le w') {x:O}:∀ {o:Obj},ORel S w x o->ORel S w' x o :=
 x.casesOn (motive:=fun x=>∀ {o},ORel S w x o->ORel S w' x o) (fun _ _ r=>IsList.imp (fun _ q=>All2.imp (fun _ _=>RelD.mono h.fz) q) r) (fun _ _ r=>IsList.imp (fun _ q=>All2.imp (fun _ _=>IsRef.mono h.m) q) r) (fun _ _ e=>e)
  (fun _ _ _ (r:IsNs ..)=>r.rec fun e q => .mk e (Rels.mono h q)) (fun _ _ r=>IsDi.imp (fun _ q=>All2.imp (fun _ _ p=>⟨p.1,Rel.mono h p.2⟩) q) r) (fun _ _ r=>IsDi.imp (fun _ q=>All2.imp (fun _ _ p=>⟨p.1,RelD.mono h.fz p.2⟩) q) r)
  (fun v=>v.casesOn (motive:=fun v=>∀ {o},ORel S w (.cell v) o->ORel S w' (.cell v) o) (fun e=>e) fun _ _ r=>r.elim fun c q=>⟨c,q.1,Rel.mono h q.2⟩) (fun e=>e)
end
end Mine
namespace Mine
abbrev Mp:=Str->Option Value
abbrev Cl:=List (Addr×(Obj->Prop))
structure Inv (S:Sx) (L:Addr) (mp:Mp) (cl:Cl) (w:Wd) (s:Shared) (news:List (Addr×Obj)):Prop where
 fr:Fr S.base L s.heap mp
 nw:News S.base L s.heap news
 nd:(news.map (·.1)).Nodup
 cnd:(cl.map (·.1)).Nodup
 ap:∀ p∈cl,w.fz p.1=none
 own:∀ p∈cl,∃ o,(p.1,o)∈news/\p.2 o
 zero:∀ a o,S.fz0 a=some o->w.fz a=some o
 led:∀ a o,w.fz a=some o->S.base.get? a=some o\/(a,o)∈news
 gens:s.gens=#[]
 os:s.os=S.os
theorem memKey {α:Type} {l:List (Addr×α)} {a:Addr} {o:α} (h:(a,o)∈l):a∈l.map (·.1):=List.mem_map.mpr ⟨_,h,rfl⟩
theorem keyMem {α:Type} {l:List (Addr×α)} {a:Addr} (h:a∈l.map (·.1)):∃ o,(a,o)∈l:=by
 obtain ⟨⟨b,o⟩,m,e⟩:=List.mem_map.mp h
 cases e;exact ⟨o,m⟩
namespace Inv
variable {S:Sx} {L:Addr} {mp mp':Mp} {cl cl':Cl} {w w':Wd} {s s':Shared} {news news':List (Addr×Obj)} {a:Addr} {o o':Obj} {x y:Obj->Prop} {p:Addr×(Obj->Prop)}
theorem has (i:Inv S L mp cl w s news) (h:p∈cl):p.1∈news.map (·.1):=(i.own p h).elim fun _ q=>memKey q.1
theorem at_ (i:Inv S L mp cl w s news) (h:p∈cl):∃ o,s.heap.get? p.1=some o/\p.2 o:=(i.own p h).imp fun _ q=>⟨(i.nw _ q.1).1,q.2⟩
theorem get (i:Inv S L mp cl w s news) (e:w.fz a=some o):s.heap.get? a=some o:=(i.led a o e).elim (i.fr.keep a o) fun q=>(i.nw _ q).1
theorem size (i:Inv S L mp cl w s news):s.heap.objs.size∉news.map (·.1):=fun h=>(keyMem h).elim fun _ m=>absurd (Heap.lt_size (i.nw _ m).1) (Nat.lt_irrefl _)
theorem fzNone (i:Inv S L mp cl w s news) (hb:S.base.get? a=none) (hn:a∉news.map (·.1)):w.fz a=none :=
 Option.eq_none_iff_forall_ne_some.mpr fun _ e=>(i.led _ _ e).elim (fun q=>by rw [hb] at q;cases q) fun q=>hn (memKey q)
theorem conv' (i:Inv S L mp cl w s news) (hz:w'.fz=w.fz) (hc:∀ p∈cl',∃ x,(p.1,x)∈cl/\∀ o,s.heap.get? p.1=some o->x o->p.2 o) (nd:(cl'.map (·.1)).Nodup):Inv S L mp cl' w' s news :=
 ⟨i.fr,i.nw,i.nd,nd,fun p h=>(hc p h).elim fun x q=>(congrFun hz _).trans (i.ap (p.1,x) q.1),fun p h=>(hc p h).elim fun x q=>(i.own (p.1,x) q.1).imp fun o r=>⟨r.1,q.2 o (i.nw _ r.1).1 r.2⟩,hz▸i.zero,hz▸i.led,i.gens,i.os⟩
theorem conv (i:Inv S L mp cl w s news) (hz:w'.fz=w.fz) (hc:∀ p∈cl',∃ x,(p.1,x)∈cl/\∀ o,x o->p.2 o) (nd:(cl'.map (·.1)).Nodup):Inv S L mp cl' w' s news:=i.conv' hz (fun p h=>(hc p h).imp fun _ q=>⟨q.1,fun o _=>q.2 o⟩) nd
theorem sub (i:Inv S L mp cl w s news) (hc:∀ p∈cl',p∈cl) (nd:(cl'.map (·.1)).Nodup):Inv S L mp cl' w s news:=i.conv rfl (fun p h=>⟨p.2,hc p h,fun _ r=>r⟩) nd
theorem same (i:Inv S L mp cl w s news) (F':Fr S.base L s'.heap mp) (N':News S.base L s'.heap news) (e2:s'.gens=s.gens) (e3:s'.os=s.os):Inv S L mp cl w s' news :=
 ⟨F',N',i.nd,i.cnd,i.ap,i.own,i.zero,i.led,e2.trans i.gens,e3.trans i.os⟩
theorem more (i:Inv S L mp cl w s news) (F':Fr S.base L s'.heap mp) (N':News S.base L s'.heap ((a,o)::news)) (hn:a∉news.map (·.1)) (e2:s'.gens=s.gens) (e3:s'.os=s.os):Inv S L mp cl w s' ((a,o)::news) :=
 ⟨F',N',List.nodup_cons.mpr ⟨hn,i.nd⟩,i.cnd,i.ap,fun p h=>(i.own p h).imp fun _ q=>⟨.tail _ q.1,q.2⟩,i.zero,fun b ob e=>(i.led b ob e).imp id (.tail _),e2.trans i.gens,e3.trans i.os⟩
theorem claim (i:Inv S L mp cl w s news) (hm:(a,o)∈news) (hn:a∉cl.map (·.1)) (hz:w.fz a=none) (r:x o):Inv S L mp ((a,x)::cl) w s news :=
 ⟨i.fr,i.nw,i.nd,List.nodup_cons.mpr ⟨hn,i.cnd⟩,fun p h=>(List.mem_cons.mp h).elim (fun e=>e▸hz) (i.ap p),fun p h=>(List.mem_cons.mp h).elim (fun e=>e▸⟨o,hm,r⟩) (i.own p),i.zero,i.led,i.gens,i.os⟩
theorem made (i:Inv S L mp cl w s news) (F':Fr S.base L s'.heap mp) (N':News S.base L s'.heap ((a,o)::news)) (hn:a∉news.map (·.1)) (r:x o) (e2:s'.gens=s.gens) (e3:s'.os=s.os):Inv S L mp ((a,x)::cl) w s' ((a,o)::news) :=
 (i.more F' N' hn e2 e3).claim (.head _) (fun h=>(keyMem h).elim fun _ q=>hn (i.has q)) (i.fzNone (N' _ (.head _)).2.2 hn) r
theorem frozen (i:Inv S L mp cl w s news) (hm:(a,o)∈news) (hn:a∉cl.map (·.1)) (hz:w.fz a=none):Inv S L mp cl (w.frz a o) s news :=
 ⟨i.fr,i.nw,i.nd,i.cnd,fun p h=>(Fz.set_ne _ _ fun e:p.1=a=>hn (e▸List.mem_map_of_mem h)).trans (i.ap p h),i.own,fun b ob e=>(Wd.frz_le hz).fz _ _ (i.zero b ob e),
  fun b ob e=>(Fz.set_eq e).elim (fun q => .inr (by rw [q.1,<- q.2];exact hm)) (i.led b ob),i.gens,i.os⟩
noncomputable def put (a:Addr) (o:Obj) (news:List (Addr×Obj)):List (Addr×Obj):=news.map fun p=>(p.1,if p.1=a then o else p.2)
theorem put_keys:(put a o news).map (·.1)=news.map (·.1):=by unfold put;rw [List.map_map];rfl
theorem put_at (h:a∈news.map (·.1)):(a,o)∈put a o news:=(keyMem h).elim fun _ m=>List.mem_map.mpr ⟨_,m,by rw [if_pos rfl]⟩
theorem put_ne {b:Addr} (h:(b,o')∈news) (q:b≠a):(b,o')∈put a o news:=List.mem_map.mpr ⟨_,h,by rw [if_neg q]⟩
theorem put_mem {q:Addr×Obj} (h:q∈put a o news):q=(a,o)\/q∈news/\q.1≠a:=by
 obtain ⟨p,m,rfl⟩:=List.mem_map.mp h
 by_cases k:p.1=a
 ·rw [if_pos k,k];exact .inl rfl
 ·rw [if_neg k];exact .inr ⟨m,k⟩
theorem updN (i:Inv S L mp cl w s news) (h:(a,x)∈cl) (F':Fr S.base L s'.heap mp) (N':News S.base L s'.heap (put a o news)) (r:y o) (hc:∀ p∈cl',p=(a,y)\/p∈cl/\p.1≠a) (nd:(cl'.map (·.1)).Nodup)
  (e2:s'.gens=s.gens) (e3:s'.os=s.os):Inv S L mp cl' w s' (put a o news):=by
 have hz:=i.ap (a,x) h
 refine ⟨F',N',(put_keys (a:=a) (o:=o) (news:=news)).symm▸i.nd,nd,fun q hq=>?_,fun q hq=>?_,i.zero,fun b ob e=>?_,e2.trans i.gens,e3.trans i.os⟩
 ·rcases hc q hq with rfl | ⟨m,z⟩
  ·exact hz
  ·exact i.ap q m
 ·rcases hc q hq with rfl | ⟨m,k⟩
  ·exact ⟨o,put_at (i.has h),r⟩
  ·exact (i.own q m).imp fun a z=>⟨put_ne z.1 k,z.2⟩
 ·exact (i.led b ob e).imp id fun m=>put_ne m fun q=>by rw [q,hz] at e;cases e
theorem upd (i:Inv S L mp cl w s news) (h:(a,x)∈cl) (hx:Heap.ExtBut a s.heap s'.heap) (ho:s'.heap.get? a=some o) (r:y o) (hc:∀ p∈cl',p=(a,y)\/p∈cl/\p.1≠a) (nd:(cl'.map (·.1)).Nodup)
  (e2:s'.gens=s.gens) (e3:s'.os=s.os):Inv S L mp cl' w s' (put a o news):=by
 have hb:a≠L/\S.base.get? a=none:=(keyMem (i.has h)).elim fun z q=>(i.nw _ q).2
 refine i.updN h ⟨i.fr.ns.extBut hx (Ne.symm hb.1),fun b ob e=>hx b ob (fun q=>by rw [q,hb.2] at e;cases e) (i.fr.keep b ob e),i.fr.above⟩ (fun q hq=>?_) r hc nd e2 e3
 rcases put_mem hq with rfl | ⟨m,k⟩
 ·exact ⟨ho,hb⟩
 ·exact ⟨hx _ _ k (i.nw _ m).1,(i.nw _ m).2⟩
end Inv
def Spc (o ob:Obj):Prop:=∃ sl,ob={ o with slots:=sl }
structure Fx (S:Sx) where
 A:Around
 env:Env
 fr:List Env
 hid:Cl
 L:Addr
 names:List Str
 d:Nat
 stack:A.frames=some fr
 loc:env.locals=L
 glob:env.globals=mainGlobals
 bi:env.builtins=builtinsNs
 kind:env.scope.kind = .function
 nodup:names.Nodup
 frs:∀ e∈fr,e.scope.kind ≠ .module/\(e.frame=some L\/∃ a o,(a,Spc o)∈hid/\e.frame=some a/\∀ vs,o.data ≠ .fields vs)
 handled:A.handled=none
 guards:A.guards=some []
 room:A.depth+1+2*d<=recursionLimit
 units:A.units+5+8*d<=cLine
noncomputable def live (x:O):Bool:=x.casesOn (fun a=>true) (fun a=>true) (fun a=>true) (fun a b=>true) (fun a=>true) (fun a=>true) (fun a=>true) false
noncomputable def cells (S:Sx) (w:Wd) (hp:Hp):Cl:=((w.m.zip hp).filter fun q=>live q.2).map fun q=>(q.1,ORel S w q.2)
structure Wf {S:Sx} (F:Fx S) (hp:Hp) (w:Wd):Prop where
 len:w.m.length=hp.length
 nd:(F.hid.map (·.1)++w.m).Nodup
 dd:∀ (i:Nat) (a:Addr),w.m[i]?=some a->hp[i]?=some .dead->∃ o,w.fz a=some o
structure At {S:Sx} (F:Fx S) (mp:Mp) (hp:Hp) (w:Wd) (s:Shared):Prop where
 len:Wf F hp w
 inv:∃ news,Inv S F.L mp (F.hid++cells S w hp) w s news
end Mine
namespace Mine
variable {S:Sx} {F:Fx S} {mp mp':Mp} {hp hp':Hp} {w w':Wd} {s s':Shared} {news:List (Addr×Obj)} {a:Addr} {o o':Obj} {x y:O} {P P':Obj->Prop} {cl l l':Cl}
theorem cells_mem {p:Addr×(Obj->Prop)} (h:p∈cells S w hp):∃ (i:Nat) (x:O),w.m[i]?=some p.1/\hp[i]?=some x/\p.2=ORel S w x/\live x=true:=by
 obtain ⟨q,m,rfl⟩:=List.mem_map.mp h
 obtain ⟨m,l⟩:=List.mem_filter.mp m
 obtain ⟨i,e⟩:=List.mem_iff_getElem?.mp m
 exact ⟨i,q.2,(List.getElem?_zip_eq_some.mp e).1,(List.getElem?_zip_eq_some.mp e).2,rfl,l⟩
theorem cells_at {i:Nat} (h:w.m[i]?=some a) (k:hp[i]?=some x) (l:live x=true):(a,ORel S w x)∈cells S w hp:=List.mem_map.mpr ⟨(a,x),List.mem_filter.mpr ⟨List.mem_of_getElem? (List.getElem?_zip_eq_some.mpr ⟨h,k⟩),l⟩,rfl⟩
theorem cells_sub (h:w.m.length=hp.length):((cells S w hp).map (·.1)).Sublist w.m:=by
 unfold cells;rw [List.map_map]
 have:=(List.filter_sublist (l:=w.m.zip hp) (p:=fun q=>live q.2)).map (·.1)
 rwa [List.map_fst_zip (Nat.le_of_eq h)] at this
theorem Inv.reach {cl0:Cl} (i:Inv S F.L mp cl0 w s news) (hl:Wf F hp' w') (hz:w'.fz=w.fz) (hh:∀ p∈F.hid,∃ P,(p.1,P)∈cl0/\∀ o,P o->p.2 o) (hc:∀ (i:Nat) (a:Addr) (x:O),live x=true->w'.m[i]?=some a->hp'[i]?=some x->∃ P,(a,P)∈cl0/\∀ o,P o->ORel S w' x o):At F mp hp' w' s :=
 ⟨hl,news,i.conv hz (fun p h=>(List.mem_append.mp h).elim (hh p) fun h=>(cells_mem h).elim fun i q=>q.elim fun x q=>q.2.2.1▸hc i p.1 x q.2.2.2 q.1 q.2.1) (by rw [List.map_append];exact hl.nd.sublist (List.Sublist.append_left (cells_sub hl.len) _))⟩
theorem At.nd (h:At F mp hp w s):(F.hid.map (·.1)++w.m).Nodup:=h.len.nd
theorem dead_of (h:live x=false):x = .dead:=by cases x<;>first | rfl | cases h
theorem Inv.apart {L:Addr} {x:Obj->Prop} (i:Inv S L mp ((a,x)::(F.hid++cells S w hp)) w s news) (hl:Wf F hp w):a∉w.m:=fun m=>by
 obtain ⟨k,e⟩:=List.mem_iff_getElem?.mp m
 obtain ⟨y,e2⟩ : ∃ y,hp[k]?=some y:=⟨_,List.getElem?_eq_getElem (hl.len▸(List.getElem?_eq_some_iff.mp e).1)⟩
 cases l:live y with
 | true=>exact (List.nodup_cons.mp i.cnd).1 (List.mem_map_of_mem (f:=(·.1)) (List.mem_append_right _ (cells_at (S:=S) e e2 l)))
 | false =>
  obtain ⟨o,q⟩:=hl.dd k a e (e2.trans (congrArg some (dead_of l)))
  exact nomatch q.symm.trans (i.ap _ (.head _))
theorem Wf.snoc (h:Wf F hp w) (hn:a∉F.hid.map (·.1)) (hm:a∉w.m) (l:live x=true):Wf F (hp++[x]) (w.add a):=by
 refine ⟨by show (w.m++[a]).length=_;rw [List.length_append,List.length_append,h.len];rfl,?_,fun i b e1 e2=>?_⟩
 ·show (_++(w.m++[a])).Nodup
  rw [<- List.append_assoc]
  exact (List.perm_append_singleton a _).nodup_iff.mpr (List.nodup_cons.mpr ⟨fun m=>(List.mem_append.mp m).elim hn hm,h.nd⟩)
 ·have e1:(w.m++[a])[i]?=some b:=e1
  by_cases k:i < hp.length
  ·rw [List.getElem?_append_left k] at e2
   rw [List.getElem?_append_left (h.len▸k)] at e1
   exact h.dd i b e1 e2
  ·rw [List.getElem?_append_right (Nat.not_lt.mp k)] at e2
   rw [<- List.mem_singleton.mp (List.mem_of_getElem? e2)] at l
   exact nomatch l
theorem Inv.done (i:Inv S F.L mp ((a,ORel S w x)::(F.hid++cells S w hp)) w s news) (hl:Wf F hp w) (l:live x=true:=by rfl):At F mp (hp++[x]) (w.add a) s:=by
 have nd:=List.nodup_cons.mp i.cnd
 refine i.reach (hl.snoc (fun m=>nd.1 (by rw [List.map_append];exact List.mem_append_left _ m)) (i.apart hl) l) rfl (fun p m=>⟨p.2,.tail _ (List.mem_append_left _ m),fun _ r=>r⟩) (fun j b y l' e1 e2=>?_)
 have e1:(w.m++[a])[j]?=some b:=e1
 by_cases k:j < hp.length
 ·rw [List.getElem?_append_left k] at e2
  rw [List.getElem?_append_left (hl.len▸k)] at e1
  exact ⟨_,.tail _ (List.mem_append_right _ (cells_at e1 e2 l')),fun _=>ORel.mono (w.add_le a)⟩
 ·rw [List.getElem?_append_right (Nat.not_lt.mp k)] at e2
  rw [List.getElem?_append_right (hl.len▸Nat.not_lt.mp k),hl.len] at e1
  rw [List.mem_singleton.mp (List.mem_of_getElem? e1),List.mem_singleton.mp (List.mem_of_getElem? e2)]
  exact ⟨_,.head _,fun _=>ORel.mono (w.add_le a)⟩
theorem Inv.alloc (i:Inv S F.L mp (F.hid++cells S w hp) w s news) (hl:Wf F hp w) (F':Fr S.base F.L s'.heap mp) (N':News S.base F.L s'.heap ((a,o)::news)) (hn:a∉news.map (·.1)) (r:ORel S w x o) (e2:s'.gens=s.gens) (e3:s'.os=s.os) (l:live x=true:=by rfl) :
  At F mp (hp++[x]) (w.add a) s':=(i.made F' N' hn r e2 e3).done hl l
theorem Wf.frz (h:Wf F hp w) (hz:w.fz a=none):Wf F hp (w.frz a o):=⟨h.len,h.nd,fun i b e1 e2=>(h.dd i b e1 e2).imp fun o q=>(Wd.frz_le hz).fz b o q⟩
theorem At.frozen (h:At F mp hp w s) (hm:(a,o)∈news) (i:Inv S F.L mp (F.hid++cells S w hp) w s news) (hn:a∉(F.hid++cells S w hp).map (·.1)) (hz:w.fz a=none):At F mp hp (w.frz a o) s :=
 (i.frozen hm hn hz).reach (h.len.frz hz) rfl (fun p m=>⟨p.2,List.mem_append_left _ m,fun _ r=>r⟩) (fun _ _ _ l e1 e2=>⟨_,List.mem_append_right _ (cells_at e1 e2 l),fun _=>ORel.mono (Wd.frz_le hz)⟩)
theorem Inv.icy (i:Inv S F.L mp (F.hid++cells S w hp) w s news) (hl:Wf F hp w) (F':Fr S.base F.L s'.heap mp) (N':News S.base F.L s'.heap ((a,o)::news)) (hn:a∉news.map (·.1)) (e2:s'.gens=s.gens) (e3:s'.os=s.os) :
  At F mp hp (w.frz a o) s'/\w.le (w.frz a o) :=
 have j:=i.more F' N' hn e2 e3
 have hz:=i.fzNone (N' _ (.head _)).2.2 hn
 ⟨At.frozen ⟨hl,_,j⟩ (.head _) j (fun h=>(keyMem h).elim fun _ q=>hn (i.has q)) hz,Wd.frz_le hz⟩
theorem At.cell {i:Nat} (h:At F mp hp w s) (e:hp[i]?=some x) (l:live x=true:=by rfl):∃ a o,w.m[i]?=some a/\s.heap.get? a=some o/\ORel S w x o:=by
 obtain ⟨news,iv⟩:=h.inv
 have hi:i < w.m.length:=h.len.len▸(List.getElem?_eq_some_iff.mp e).1
 have ha:w.m[i]?=some w.m[i]:=List.getElem?_eq_getElem hi
 exact ⟨_,(iv.at_ (List.mem_append_right _ (cells_at ha e l))).imp fun _ q=>⟨ha,q⟩⟩
theorem At.get (h:At F mp hp w s) (e:w.fz a=some o):s.heap.get? a=some o:=h.inv.elim fun _ i=>i.get e
theorem At.zero (h:At F mp hp w s):∀ a o,S.fz0 a=some o->w.fz a=some o:=h.inv.elim fun _ i=>i.zero
theorem At.kIn (h:At F mp hp w s):S.K.In s.heap:=h.inv.elim fun _ i=>S.kin.keeps i.fr.keep
theorem At.keep (h:At F mp hp w s) (e1:s'.heap=s.heap) (e2:s'.gens=s.gens) (e3:s'.os=s.os):At F mp hp w s' :=
 ⟨h.len,h.inv.imp fun _ i=>i.same (e1▸i.fr) (e1▸i.nw) e2 e3⟩
theorem At.toks (h:At F mp hp w s) (k:Nat):At F mp hp w { s with toks:=k }:=h.keep rfl rfl rfl
theorem At.ext {h':Heap} {tk:Tok} (h:At F mp hp w s) (hk:∀ b o,s.heap.get? b=some o->h'.get? b=some o):At F mp hp w { s with heap:=h',toks:=tk } :=
 ⟨h.len,h.inv.imp fun _ i=>i.same ⟨i.fr.ns.elim fun o q=>⟨o,q.imp fun _ q=>q.imp fun _ q=>⟨hk _ _ q.1,q.2⟩⟩,fun b ob e=>hk b ob (i.fr.keep b ob e),i.fr.above⟩ (fun p m=>⟨hk _ _ (i.nw p m).1,(i.nw p m).2⟩) rfl rfl⟩
theorem headNe (h:((a,P)::cl).map (·.1) |>.Nodup) {p:Addr×(Obj->Prop)} (m:p∈cl):p.1≠a:=fun e=>(List.nodup_cons.mp h).1 (e▸List.mem_map_of_mem (f:=(·.1)) m)
theorem At.putCl {i:Nat} (h:At F mp hp w s) (e:hp[i]?=some x) (ha:w.m[i]?=some a) (lx:live x=true) (ly:live y=true):(a,ORel S w x)∈F.hid++cells S w hp/\Wf F (hp.set i y) w/\((F.hid++cells S w (hp.set i y)).map (·.1)).Nodup/\∀ p∈F.hid++cells S w (hp.set i y),p=(a,ORel S w y)\/p∈F.hid++cells S w hp/\p.1≠a:=by
 have hl:w.m.length=(hp.set i y).length:=by rw [List.length_set];exact h.len.len
 have nd:=List.nodup_append.mp h.nd
 have hi:=(List.getElem?_eq_some_iff.mp e).1
 refine ⟨List.mem_append_right _ (cells_at ha e lx),⟨hl,h.nd,fun j b e1 e2=>?_⟩,by rw [List.map_append];exact h.nd.sublist (List.Sublist.append_left (cells_sub hl) _),fun p hp=>?_⟩
 ·by_cases k:i=j
  ·subst k
   rw [List.getElem?_set_self hi] at e2
   cases e2;exact nomatch ly
  ·rw [List.getElem?_set_ne k] at e2
   exact h.len.dd j b e1 e2
 rcases List.mem_append.mp hp with k | k
 ·exact .inr ⟨List.mem_append_left _ k,nd.2.2 _ (List.mem_map_of_mem k) _ (List.mem_of_getElem? ha)⟩
 ·obtain ⟨j,z,q1,q2,q3,q4⟩:=cells_mem k
  by_cases k:i=j
  ·subst k
   rw [List.getElem?_set_self hi] at q2
   exact .inl (Prod.ext (Option.some.inj (q1.symm.trans ha)) (q3.trans (Option.some.inj q2▸rfl)))
  ·rw [List.getElem?_set_ne k] at q2
   exact .inr ⟨List.mem_append_right _ (by have:=cells_at (S:=S) q1 q2 q4;rwa [<- q3] at this),fun e=>k ((List.getElem?_inj (List.getElem?_eq_some_iff.mp ha).1 nd.2.1).mp (ha.trans (e▸q1.symm)))⟩
theorem At.put {i:Nat} {h':Heap} {tk:Tok} (h:At F mp hp w s) (e:hp[i]?=some x) (ha:w.m[i]?=some a) (hx:Heap.ExtBut a s.heap h') (ho:h'.get? a=some o) (r:ORel S w y o) (lx:live x=true:=by rfl) (ly:live y=true:=by rfl):At F mp (hp.set i y) w { s with heap:=h',toks:=tk } :=
 have c:=h.putCl (y:=y) e ha lx ly
 ⟨c.2.1,h.inv.elim fun n iv=>⟨_,iv.upd c.1 hx ho r c.2.2.2 c.2.2.1 rfl rfl⟩⟩
theorem Inv.putN {i:Nat} (iv:Inv S F.L mp (F.hid++cells S w hp) w s news) (h:At F mp hp w s) (e:hp[i]?=some x) (ha:w.m[i]?=some a) (F':Fr S.base F.L s'.heap mp) (N':News S.base F.L s'.heap (Inv.put a o news)) (r:ORel S w y o) (e2:s'.gens=s.gens) (e3:s'.os=s.os) (lx:live x=true:=by rfl) (ly:live y=true:=by rfl):At F mp (hp.set i y) w s' :=
 have c:=h.putCl (y:=y) e ha lx ly
 ⟨c.2.1,_,iv.updN c.1 F' N' r c.2.2.2 c.2.2.1 e2 e3⟩
theorem At.kill {i:Nat} (h:At F mp hp w s) (e:hp[i]?=some x) (ha:w.m[i]?=some a) (ho:s.heap.get? a=some o) (lx:live x=true:=by rfl):w.le (w.frz a o)/\At F mp (hp.set i .dead) (w.frz a o) s:=by
 obtain ⟨news,iv⟩:=h.inv
 have nd:=List.nodup_append.mp h.nd
 have hi:=(List.getElem?_eq_some_iff.mp e).1
 have hm:=List.mem_append_right F.hid (cells_at (S:=S) ha e lx)
 have hz:w.fz a=none:=iv.ap _ hm
 obtain ⟨ob,m1,r1⟩:=iv.own _ hm
 cases ((iv.nw _ m1).1.symm.trans ho)
 have sub:∀ p∈F.hid++cells S w (hp.set i .dead),p∈F.hid++cells S w hp/\p.1≠a:=fun p hp'=>by
  rcases List.mem_append.mp hp' with k | k
  ·exact ⟨List.mem_append_left _ k,nd.2.2 _ (List.mem_map_of_mem k) _ (List.mem_of_getElem? ha)⟩
  ·obtain ⟨j,z,q1,q2,q3,q4⟩:=cells_mem k
   by_cases k:i=j
   ·subst k
    rw [List.getElem?_set_self hi] at q2
    cases q2;exact nomatch q4
   ·rw [List.getElem?_set_ne k] at q2
    exact ⟨List.mem_append_right _ (by have:=cells_at (S:=S) q1 q2 q4;rwa [<- q3] at this),fun e=>k ((List.getElem?_inj (List.getElem?_eq_some_iff.mp ha).1 nd.2.1).mp (ha.trans (e▸q1.symm)))⟩
 have hl:w.m.length=(hp.set i .dead).length:=by rw [List.length_set];exact h.len.len
 have j0:=iv.sub (fun p m=>(sub p m).1) (by rw [List.map_append];exact h.nd.sublist (List.Sublist.append_left (cells_sub hl) _))
 have j1:=j0.frozen m1 (fun m=>(keyMem m).elim fun _ m=>(sub _ m).2 rfl) hz
 refine ⟨Wd.frz_le hz,j1.reach (F:=F) (w':=w.frz a _) (hp':=hp.set i .dead) ⟨hl,h.nd,fun j b e1 e2=>?_⟩ rfl (fun p m=>⟨p.2,List.mem_append_left _ m,fun _ r=>r⟩) fun _ _ _ l e1 e2=>⟨_,List.mem_append_right _ (cells_at e1 e2 l),fun _=>ORel.mono (Wd.frz_le hz)⟩⟩
 by_cases k:i=j
 ·subst k
  cases ha.symm.trans e1
  exact ⟨_,Fz.set_at _ _ _⟩
 ·rw [List.getElem?_set_ne k] at e2
  exact (h.len.dd j b e1 e2).imp fun o q=>(Wd.frz_le hz).fz b o q
theorem upd_put (m:(a,o)∈news) (nd:(news.map (·.1)).Nodup):Upd a o o' news (Inv.put a o' news):=by
 induction news with
 | nil=>exact nomatch m
 | cons p r ih =>
  have n:=List.nodup_cons.mp nd
  rcases List.mem_cons.mp m with rfl | m
  ·have hr:∀ q∈r,q.1≠a:=fun q k e=>n.1 (List.mem_map.mpr ⟨q,k,e⟩)
   have:Inv.put a o' ((a,o)::r)=(a,o')::r:=by
    unfold Inv.put
    rw [List.map_cons,if_pos rfl]
    exact congrArg _ ((List.map_congr_left (g:=id) fun q k=>by rw [if_neg (hr q k)];rfl).trans (List.map_id _))
   rw [this];exact .head hr
  ·have:p.1≠a:=fun e=>n.1 (show p.1∈_ by rw [e];exact memKey m)
   have h:=ih m n.2
   unfold Inv.put
   rw [List.map_cons,if_neg this];exact .tail this h
noncomputable def Fx.plus (F:Fx S) (l:Cl):Fx S :=
 { F with hid:=l++F.hid,stack:=F.stack,frs:=fun e h=>⟨(F.frs e h).1,(F.frs e h).2.imp id fun q=>q.imp fun _ q=>q.imp fun _ q=>⟨List.mem_append_right _ q.1,q.2⟩⟩ }
def Is (o ob:Obj):Prop:=ob=o
theorem At.hid (h:At F mp hp w s) {n:Nat} (hn:n=s.heap.objs.size) (hf:o.isFreed=false:=by rfl):At (F.plus [(n,Is o)]) mp hp w { s with heap:=s.heap.push o } :=
 hn▸h.inv.elim fun _ i =>
  have j:=i.made (x:=Is o) (s':={ s with heap:=s.heap.push o }) (i.fr.push o) (i.nw.push i.fr o hf) i.size rfl rfl rfl
  ⟨⟨h.len.len,List.nodup_cons.mpr ⟨fun m=>(List.mem_append.mp m).elim (fun m=>(List.nodup_cons.mp j.cnd).1 (by rw [List.map_append];exact List.mem_append_left _ m)) (j.apart h.len),h.nd⟩,h.len.dd⟩,_,j⟩
theorem At.sub (h:At (F.plus l) mp hp w s) (hs:∀ q∈l',q∈l) (hn:(l'.map (·.1)).Nodup):At (F.plus l') mp hp w s:=by
 obtain ⟨news,i⟩:=h.inv
 have nd:=h.nd
 have e:∀ l:Cl,(F.plus l).hid.map (·.1)++w.m=l.map (·.1)++(F.hid.map (·.1)++w.m):=fun l=>by
  show (l++F.hid).map _++_=_
  rw [List.map_append,List.append_assoc]
 rw [e,List.nodup_append] at nd
 refine i.reach (F:=F.plus l') ⟨h.len.len,?_,h.len.dd⟩ rfl (fun p m=>⟨p.2,List.mem_append_left _ (List.mem_append.mpr ((List.mem_append.mp m).imp (hs p) id)),fun _ r=>r⟩) (fun _ _ _ l e1 e2=>⟨_,List.mem_append_right _ (cells_at e1 e2 l),fun _ r=>r⟩)
 rw [e,List.nodup_append]
 refine ⟨hn,nd.2.1,fun a k=>?_⟩
 obtain ⟨q,m,rfl⟩:=List.mem_map.mp k
 exact nd.2.2 _ (List.mem_map_of_mem (hs q m))
theorem At.drop (h:At (F.plus l) mp hp w s):At F mp hp w s:=h.sub (l':=[]) (fun _ m=>nomatch m) .nil
theorem At.heldP (h:At (F.plus l) mp hp w s) (hm:(a,P)∈l):∃ o,s.heap.get? a=some o/\P o:=h.inv.elim fun _ i=>i.at_ (p:=(a,P)) (List.mem_append_left _ (List.mem_append_left _ hm))
theorem At.held (h:At (F.plus l) mp hp w s) (hm:(a,Is o)∈l):s.heap.get? a=some o:=(h.heldP hm).elim fun _ q=>q.2▸q.1
theorem At.turn {h':Heap} {tk:Tok} (h:At (F.plus ((a,P)::l)) mp hp w s) (hx:Heap.ExtBut a s.heap h') (ho:h'.get? a=some o) (r:P' o):At (F.plus ((a,P')::l)) mp hp w { s with heap:=h',toks:=tk } :=
 ⟨⟨h.len.len,h.nd,h.len.dd⟩,h.inv.elim fun _ i=>⟨_,i.upd (.head _) hx ho r (fun _ m=>(List.mem_cons.mp m).imp id fun m=>⟨.tail _ m,headNe i.cnd m⟩) i.cnd rfl rfl⟩⟩
theorem Wf.tail (h:Wf (F.plus ((a,P)::l)) hp w):Wf (F.plus l) hp w:=⟨h.len,(List.nodup_cons.mp h.nd).2,h.dd⟩
theorem At.adopt (h:At (F.plus ((a,P)::l)) mp hp w s) (r:∀ o,P o->ORel S w x o) (lx:live x=true:=by rfl):At (F.plus l) mp (hp++[x]) (w.add a) s :=
 h.inv.elim fun _ i=>Inv.done (F:=F.plus l) (i.conv rfl (fun p m=>(List.mem_cons.mp m).elim (fun e=>e▸⟨P,.head _,r⟩) fun m=>⟨p.2,.tail _ m,fun _ q=>q⟩) i.cnd) h.len.tail lx
theorem At.ice (h:At (F.plus ((a,Is o)::l)) mp hp w s):w.le (w.frz a o)/\At (F.plus l) mp hp (w.frz a o) s :=
 have ⟨_,i⟩:=h.inv
 have hz:=i.ap _ (.head _)
 have j:=i.sub (cl':=(F.plus l).hid++cells S w hp) (fun _ m => .tail _ m) (List.nodup_cons.mp i.cnd).2
 ⟨Wd.frz_le hz,At.frozen ⟨h.len.tail,_,j⟩ ((i.own _ (.head _)).elim fun ob q=>(show ob=o from q.2)▸q.1) j (List.nodup_cons.mp i.cnd).1 hz⟩
end Mine
namespace Mine.C
noncomputable def decOk:Code->Bool
 | .builtin id _ => !(Builtin.Bytes.decodersThatHold.contains id)
 | _=>true
noncomputable def CleanB (l:List (Code×Pos)):Prop:=∀ q∈l,decOk q.1=true
noncomputable def wpAny {α:Type} (M:Model) (A:Around) (t:Sem α) (Q:α->Shared->Prop) (E:Value->Shared->Prop) (s:Shared):Prop :=
 ∀ Γ p,Γ.In A->decOk Γ.code=true->CleanB Γ.below->Sem.wp M Γ t (fun a _ s'=>Q a s') (fun e _ s'=>E e s') p s
noncomputable def codeAny (M:Model) (A:Around) (c:Code) (R:Result->Shared->Prop) (s:Shared):Prop :=
 ∀ Γ p,Γ.code=c->Γ.Below A->CleanB Γ.below->wpCode M Γ R p s
section
variable {α β:Type} {M:Model} {A:Around} {E:Value->Shared->Prop} {s:Shared} {R:Result->Shared->Prop}
theorem lf {t:Sem α} {Q:α->Shared->Prop} (h:PySem.wpAny M A t Q E s):wpAny M A t Q E s:=fun Γ p hΓ _ _=>h Γ p hΓ
theorem lfc {c:Code} (h:PySem.codeAny M A c R s):codeAny M A c R s:=fun Γ p hc hΓ _=>h Γ p hc hΓ
theorem wpAny_pure {a:α} {Q:α->Shared->Prop} (h:Q a s):wpAny M A (pure a) Q E s:=lf (PySem.wpAny_pure h)
theorem wpAny_mono {t:Sem α} {Q Q':α->Shared->Prop} {E':Value->Shared->Prop} (h:wpAny M A t Q E s) (hQ:∀ a s,Q a s->Q' a s) (hE:∀ e s,E e s->E' e s):wpAny M A t Q' E' s :=
 fun Γ p hΓ c1 c2=>Sem.wp_mono M Γ t (fun a _ s=>hQ a s) (fun e _ s=>hE e s) p s (h Γ p hΓ c1 c2)
theorem wpAny_bind {m:Sem α} {f:α->Sem β} {Q:β->Shared->Prop} (h:wpAny M A m (fun a s'=>wpAny M A (f a) Q E s') E s):wpAny M A (m >>= f) Q E s:=fun Γ p hΓ c1 c2=>by
 rw [Sem.wp_bind']
 exact Sem.wp_mono M Γ m (fun a p' s' h'=>h' Γ p' hΓ c1 c2) (fun _ _ _ h'=>h') p s (h Γ p hΓ c1 c2)
theorem wpAny_onRaise {m:Sem α} {k:Value->Sem Unit} {Q:α->Shared->Prop} (h:wpAny M A m Q (fun e s'=>wpAny M A (k e) (fun _ s''=>E e s'') E s') s):wpAny M A (m.onRaise k) Q E s:=fun Γ p hΓ c1 c2=>by
 rw [Sem.wp_onRaise]
 exact Sem.wp_mono M Γ m (fun _ _ _ h'=>h') (fun e p' s' h'=>h' Γ p' hΓ c1 c2) p s (h Γ p hΓ c1 c2)
theorem wpAny_attempt {m:Sem α} {Q:Except Value α->Shared->Prop} (h:wpAny M A m (fun a=>Q (.ok a)) (fun e=>Q (.error e)) s):wpAny M A m.attempt Q E s:=fun Γ p hΓ c1 c2=>by
 rw [Sem.wp_attempt];exact h Γ p hΓ c1 c2
theorem wpAny_holding {vs:List Value} {m:Sem α} {Q:α->Shared->Prop} (h:wpAny M A m Q E s):wpAny M A (holding vs m) Q E s:=fun Γ p hΓ c1 c2=>by
 rw [Sem.wp_holding];exact h Γ p hΓ c1 c2
theorem wpAny_standAt {pos:Pos} {Q:Unit->Shared->Prop} (h:Q () s):wpAny M A (standAt pos) Q E s:=lf (PySem.wpAny_standAt h)
theorem wpAny_of_eq {a:α} {m:Sem α} {Q:α->Shared->Prop} (e:m=pure a) (h:Q a s):wpAny M A m Q E s:=lf (PySem.wpAny_of_eq e h)
theorem wpAny_rule {tag:String} {Q:Unit->Shared->Prop} (h:Q () s):wpAny M A (rule tag) Q E s:=lf (PySem.wpAny_rule h)
theorem wpAny_ite_split {c:Prop} [Decidable c] {a b:Sem α} {Q:α->Shared->Prop} (ha:c->wpAny M A a Q E s) (hb:¬ c->wpAny M A b Q E s):wpAny M A (if c then a else b) Q E s:=by
 by_cases h:c
 ·rw [if_pos h];exact ha h
 ·rw [if_neg h];exact hb h
theorem cleanIn {Γ:Ctx} {p:Pos} (c1:decOk Γ.code=true) (c2:CleanB Γ.below):CleanB ((Γ.code,p)::Γ.below):=fun q hq=>by
 rcases List.mem_cons.mp hq with e | e
 ·subst e;exact c1
 ·exact c2 q e
theorem wpAny_run {c:Code} {h:Option Value} {Q:Flow->Shared->Prop} (hc:codeAny M (A.mark h) c (fun r s'=>match r with | .ok f=>Q f s' | .error e=>E e s') s) (hnb:h≠some byPass:=by intro x;cases x) :
  wpAny M A (run c h) Q E s:=fun Γ p hΓ c1 c2=>by
 rw [Sem.wp_run];exact hc _ p rfl (hΓ.enter c h p hnb) (cleanIn c1 c2)
theorem wpAny_runValue {c:Code} {Q:Value->Shared->Prop} (hc:codeAny M A c (fun r s'=>match r with | .ok (.ret v)=>Q v s' | .ok _=>False | .error e=>E e s') s):wpAny M A (runValue c) Q E s:=fun Γ p hΓ c1 c2=>by
 rw [Sem.wp_runValue];exact hc _ p rfl (hΓ.enter c none p (by intro x;cases x)) (cleanIn c1 c2)
theorem wpAny_call {f:Value} {pos:List Value} {kw:List (Str×Value)} {Q:Value->Shared->Prop} (hc:codeAny M A (.call f ⟨pos,kw⟩) (fun r s'=>match r with | .ok (.ret v)=>Q v s' | .ok _=>False | .error e=>E e s') s) :
  wpAny M A (call f pos kw) Q E s:=wpAny_runValue hc
theorem codeAny_mono {c:Code} {R R':Result->Shared->Prop} (h:codeAny M A c R s) (hR:∀ r s,R r s->R' r s):codeAny M A c R' s:=fun Γ p hc hΓ c2=>wpCode_mono hR (h Γ p hc hΓ c2)
theorem codeAny_of_tree {c:Code} (hd:decOk c=true) (h:wpAny M (A.under c) (M.den c) (fun fin s'=>match fin with | .done f=>R (.ok f) s' | .again c'=>c'.quiet=true/\codeAny M A c' R s') (fun e s'=>R (.error e) s') s):codeAny M A c R s:=fun Γ p hc hΓ c2=>by
 rw [wpCode_iff_wp,hc]
 refine Sem.wp_mono M Γ _ (fun fin p' s' h'=>?_) (fun _ _ _ h'=>h') p s (h Γ p (hc▸hΓ.in) (hc▸hd) c2)
 cases fin with
 | done f=>exact h'
 | again c'=>exact ⟨h'.1,h'.2 (Γ.goto c') p' rfl (hΓ.goto c') c2⟩
theorem wpAny_runOwn {env:Env} {c:Code} {h:Option Value} {Q:Flow->Shared->Prop} (hc:codeAny M (A.mark h) c (fun r s'=>match r with | .ok f=>Q f s' | .error e=>cameBackBy M A env E e s') s) (hnb:h≠some byPass:=by intro x;cases x) :
  wpAny M A (runOwn c env h) Q E s:=by
 unfold runOwn
 exact wpAny_onRaise (wpAny_run (codeAny_mono hc fun r s' hr=>by
  cases r with
  | ok f=>exact hr
  | error e=>exact lf hr) hnb)
end
end Mine.C
namespace Mine.C
section
variable {α:Type} {M:Model} {A:Around} {E:Value->Shared->Prop} {s:Shared} {env:Env}
theorem wpAny_operate' {vs:List Value} {m:Sem Value} {Q:Value->Shared->Prop} (h:wpAny M A m Q E s):wpAny M A (operate vs m) Q E s:=fun Γ p hΓ c1 c2=>by
 rw [Sem.wp_operate];exact h Γ p hΓ c1 c2
theorem wpAny_keep {vs:List Value} {m:Sem α} {Q:α->Shared->Prop} (h:wpAny M A m Q E s):wpAny M A (m.keep vs) Q E s:=fun Γ p hΓ c1 c2=>by
 rw [Sem.wp_keep];exact h Γ p hΓ c1 c2
theorem thn {β:Type} {m:Sem α} {f:α->Sem β} {Q:β->Shared->Prop} {P:α->Shared->Prop} (h:wpAny M A m P E s) (k:∀ a s,P a s->wpAny M A (f a) Q E s):wpAny M A (m >>= f) Q E s:=wpAny_bind (wpAny_mono h k fun _ _ x=>x)
theorem stood {β:Type} {pos:Pos} {f:Unit->Sem β} {Q:β->Shared->Prop} (h:wpAny M A (f ()) Q E s):wpAny M A (standAt pos >>= f) Q E s:=wpAny_bind (wpAny_standAt h)
theorem held {β:Type} {vs:List Value} {m:Sem α} {f:α->Sem β} {Q:β->Shared->Prop} {P:α->Shared->Prop} (h:wpAny M A m P E s) (k:∀ a s,P a s->wpAny M A (f a) Q E s):wpAny M A (holding vs m >>= f) Q E s:=thn (wpAny_holding h) k
theorem released {β:Type} {vs keep:List Value} {f:Unit->Sem β} {Q:β->Shared->Prop} (h:wpAny M A (f ()) Q E s):wpAny M A (release vs keep >>= f) Q E s:=wpAny_bind (lf (wpAny_release' h))
theorem Attribute_any_ {prog:Program} {w:World} {value:PySem.Expr} {attr:Str} {pos:Pos} {Q:Value->Shared->Prop}
  (h:wpAny (model prog w) A (eval value env) (fun o s₁=>wpAny (model prog w) A (getAttr o attr true) Q E s₁) E s)
  (he:eval (.Attribute value attr pos) env=(do
   let o <- eval value env
   standAt pos.atName
   let r <- holding [o] (getAttr o attr true)
   letTemporaryGo value o r
   pure r):=by with_unfolding_all rfl) :
  wpAny (model prog w) A (eval (.Attribute value attr pos) env) Q E s:=by
 rw [he]
 exact thn h fun o s1 h1=>stood (held h1 fun r s2 h2=>wpAny_bind (lf (wpAny_letTemporaryGo (wpAny_pure h2))))
theorem BoolOp_and {e₁ e₂ rest pos} {Q:Value->Shared->Prop}
  (h:wpAny M A (eval e₁ env) (fun v s₁=>wpAny M A (truthy v) (fun c s₂=>if c then wpAny M A (eval (.BoolOp .And (e₂::rest) pos) env) Q E s₂ else Q v s₂) E s₁) E s) :
  wpAny M A (eval (.BoolOp .And (e₁::e₂::rest) pos) env) Q E s:=by
 show wpAny M A (eval e₁ env >>= fun v=>standAt pos >>= fun _=>holding [v] (truthy v) >>= fun c=>match BoolOp.And,c with
  | .And,false | .Or,true=>pure v
  | _,_=>boolOp pos .And (eval e₂ env::evalEach rest env)) Q E s
 refine thn h fun v s1 h1=>stood (held h1 fun c s2 h2=>?_)
 cases c with
 | false=>exact wpAny_pure h2
 | true=>exact h2
theorem BoolOp_one {op e pos} {Q:Value->Shared->Prop} (h:wpAny M A (eval e env) Q E s):wpAny M A (eval (.BoolOp op [e] pos) env) Q E s:=h
theorem BoolOp_or {e₁ e₂ rest pos} {Q:Value->Shared->Prop}
  (h:wpAny M A (eval e₁ env) (fun v s₁=>wpAny M A (truthy v) (fun c s₂=>if c then Q v s₂ else wpAny M A (eval (.BoolOp .Or (e₂::rest) pos) env) Q E s₂) E s₁) E s) :
  wpAny M A (eval (.BoolOp .Or (e₁::e₂::rest) pos) env) Q E s:=by
 show wpAny M A (eval e₁ env >>= fun v=>standAt pos >>= fun _=>holding [v] (truthy v) >>= fun c=>match BoolOp.Or,c with
  | .And,false | .Or,true=>pure v
  | _,_=>boolOp pos .Or (eval e₂ env::evalEach rest env)) Q E s
 refine thn h fun v s1 h1=>stood (held h1 fun c s2 h2=>?_)
 cases c with
 | false=>exact h2
 | true=>exact wpAny_pure h2
theorem Call_ {func:PySem.Expr} {args:List PySem.Expr} {pos:Pos} {Q:Value->Shared->Prop}
  (h:wpAny M A (eval func env) (fun f s₁=>wpAny M A (callWith pos f [] (backTo pos (starEach args env)) []) Q E s₁) E s)
  (he:eval (.Call func args [] pos) env=(do callWith pos (<- eval func env) [] (backTo pos (starEach args env)) (backToKw pos (keywordEach [] env))):=by rfl) :
  wpAny M A (eval (.Call func args [] pos) env) Q E s:=by
 rw [he];exact wpAny_bind h
theorem Compare_chain {l op₁ op₂ ops r₁ r₂ rs pos} {Q:Value->Shared->Prop}
  (h:wpAny M A (eval l env) (fun a s₁=>wpAny M A (compareChain pos a (op₁::op₂::ops) (eval r₁ env::eval r₂ env::evalEach rs env)) Q E s₁) E s)
  (hm:lastMarks (op₁::op₂::ops) (r₁::r₂::rs)=false:=by with_unfolding_all rfl) :
  wpAny M A (eval (.Compare l (op₁::op₂::ops) (r₁::r₂::rs) pos) env) Q E s:=by
 show wpAny M A (eval l env >>= fun a=>compareChain pos a (op₁::op₂::ops) (markedEach (op₁::op₂::ops) (r₁::r₂::rs) (evalEach (r₁::r₂::rs) env))) Q E s
 rw [markedEach_of_false _ _ _ hm]
 exact wpAny_bind h
theorem List_ {elts:List PySem.Expr} {pos:Pos} {Q:Value->Shared->Prop} (h:wpAny M A (spliced (backTo pos (starEach elts env))) (fun vs s₁=>wpAny M A (newList vs) Q E s₁) E s):wpAny M A (eval (.List elts pos) env) Q E s:=by
 show wpAny M A (standAt pos >>= fun _=>spliced (backTo pos (starEach elts env)) >>= fun vs=>newList vs) Q E s
 exact stood (wpAny_bind h)
theorem Tuple_ {elts:List PySem.Expr} {k:Nat} {pos:Pos} {Q:Value->Shared->Prop} (h:wpAny M A (spliced (backTo pos (starEach elts env))) (fun vs s₁=>wpAny M A (newTuple vs) Q E s₁) E s):wpAny M A (eval (.Tuple elts k pos) env) Q E s:=by
 show wpAny M A (standAt pos >>= fun _=>spliced (backTo pos (starEach elts env)) >>= fun vs=>newTuple vs) Q E s
 exact stood (wpAny_bind h)
theorem MethodCall_ {o:PySem.Expr} {name:Str} {apos pos:Pos} {args:List PySem.Expr} {pl:Sem Bool} {Q:Value->Shared->Prop}
  (h:wpAny M A (eval o env) (fun ov s₁=>wpAny M A (getMethod ov name pl) (fun fx s₂=>wpAny M A (callWith pos fx.1 fx.2 (backTo pos (starEach args env)) []) Q E s₂) E s₁) E s)
  (he:eval (.Call (.Attribute o name apos) args [] pos) env=(do
   let ov <- eval o env
   standAt apos.atName
   let (f,first) <- holding [ov] (getMethod ov name pl)
   callWith pos f first (backTo pos (starEach args env)) []):=by rfl) :
  wpAny M A (eval (.Call (.Attribute o name apos) args [] pos) env) Q E s:=by
 rw [he]
 exact thn h fun ov s1 h1=>stood (held h1 fun fx s2 h2=>h2)
theorem Subscript_ {value slice pos} {Q:Value->Shared->Prop}
  (h:wpAny M A (eval value env) (fun o s₁=>wpAny M A (eval slice env) (fun i s₂=>wpAny M A (subscriptTail value slice o i) Q E s₂) E s₁) E s):wpAny M A (eval (.Subscript value slice pos) env) Q E s:=by
 rw [eval_Subscript]
 exact thn h fun o s1 h1=>held h1 fun i s2 h2=>stood h2
theorem UnaryOp_ {op x pos} {Q:Value->Shared->Prop} (h:wpAny M A (eval x env) (fun v s₁=>wpAny M A (unaryOp op v) Q E s₁) E s):wpAny M A (eval (.UnaryOp op x pos) env) Q E s:=by
 rw [eval_UnaryOp]
 exact thn h fun v s1 h1=>stood (wpAny_holding h1)
theorem chain_last {pos:Pos} {a:Value} {op:CmpOp} {r:Sem Value} {Q:Value->Shared->Prop} (h:wpAny M A r (fun b s₁=>wpAny M A (compareOp op a b) Q E s₁) E s):wpAny M A (compareChain pos a [op] [r]) Q E s:=by
 show wpAny M A (holding [a] r >>= fun rv=>standAt pos >>= fun _=>operate [a,rv] (compareOp op a rv)) Q E s
 exact held h fun b s1 h1=>stood (wpAny_operate' h1)
theorem chain_link {pos:Pos} {a:Value} {op op':CmpOp} {ops:List CmpOp} {r r':Sem Value} {rs:List (Sem Value)} {Q:Value->Shared->Prop}
  (h:wpAny M A r (fun b s₁=>wpAny M A (compareOp op a b) (fun c s₂=>wpAny M A (truthy c) (fun t s₃=>if t then wpAny M A (compareChain pos b (op'::ops) (r'::rs)) Q E s₃ else Q c s₃) E s₂) E s₁) E s) :
  wpAny M A (compareChain pos a (op::op'::ops) (r::r'::rs)) Q E s:=by
 show wpAny M A (holding [a] r >>= fun rv=>standAt pos >>= fun _=>holding [a,rv] (compareOp op a rv) >>= fun c=>release [a,rv] [c] >>= fun _=>holding [c,rv] (truthy c) >>= fun t =>
  if t then compareChain pos rv (op'::ops) (r'::rs) else pure c) Q E s
 refine held h fun b s1 h1=>stood (held h1 fun c s2 h2=>released (held h2 fun t s3 h3=>?_))
 cases t with
 | false=>exact wpAny_pure h3
 | true=>exact h3
theorem test_last {pos:Pos} {a:Value} {op:CmpOp} {r:Sem Value} {Q:Bool->Shared->Prop} (h:wpAny M A r (fun b s₁=>wpAny M A (compareOp op a b) (fun c s₂=>wpAny M A (truthy c) Q E s₂) E s₁) E s):wpAny M A (testChain pos a [op] [r]) Q E s:=by
 show wpAny M A (holding [a] r >>= fun rv=>standAt pos >>= fun _=>operate [a,rv] (compareOp op a rv) >>= fun c=>holding [c] (truthy c)) Q E s
 exact held h fun b s1 h1=>stood (thn (wpAny_operate' h1) fun c s2 h2=>wpAny_holding h2)
theorem test_link {pos:Pos} {a:Value} {op op':CmpOp} {ops:List CmpOp} {r r':Sem Value} {rs:List (Sem Value)} {Q:Bool->Shared->Prop}
  (h:wpAny M A r (fun b s₁=>wpAny M A (compareOp op a b) (fun c s₂=>wpAny M A (truthy c) (fun t s₃=>if t then wpAny M A (testChain pos b (op'::ops) (r'::rs)) Q E s₃ else Q false s₃) E s₂) E s₁) E s) :
  wpAny M A (testChain pos a (op::op'::ops) (r::r'::rs)) Q E s:=by
 show wpAny M A (holding [a] r >>= fun rv=>standAt pos >>= fun _=>holding [a,rv] (compareOp op a rv) >>= fun c=>release [a,rv] [c] >>= fun _=>holding [c,rv] (truthy c) >>= fun t =>
  if t then testChain pos rv (op'::ops) (r'::rs) else pure false) Q E s
 refine held h fun b s1 h1=>stood (held h1 fun c s2 h2=>released (held h2 fun t s3 h3=>?_))
 cases t with
 | false=>exact wpAny_pure h3
 | true=>exact h3
theorem isTrue_and {x rest pos whole} {Q:Bool->Shared->Prop} (h:wpAny M A (isTrue x env (eval x env)) (fun c s'=>if c then wpAny M A (isTrue (.BoolOp .And rest pos) env whole) Q E s' else Q false s') E s) :
  wpAny M A (isTrue (.BoolOp .And (x::rest) pos) env whole) Q E s:=by
 show wpAny M A (isTrue x env (eval x env) >>= fun c=>match BoolOp.And,c with
  | .And,false=>pure false
  | .Or,true=>pure true
  | _,_=>allTrue .And rest env) Q E s
 refine thn h fun c s' h'=>?_
 cases c with
 | false=>exact wpAny_pure h'
 | true=>exact h'
theorem isTrue_or {x rest pos whole} {Q:Bool->Shared->Prop} (h:wpAny M A (isTrue x env (eval x env)) (fun c s'=>if c then Q true s' else wpAny M A (isTrue (.BoolOp .Or rest pos) env whole) Q E s') E s) :
  wpAny M A (isTrue (.BoolOp .Or (x::rest) pos) env whole) Q E s:=by
 show wpAny M A (isTrue x env (eval x env) >>= fun c=>match BoolOp.Or,c with
  | .And,false=>pure false
  | .Or,true=>pure true
  | _,_=>allTrue .Or rest env) Q E s
 refine thn h fun c s' h'=>?_
 cases c with
 | false=>exact h'
 | true=>exact wpAny_pure h'
theorem isTrue_not {x pos whole} {Q:Bool->Shared->Prop} (h:wpAny M A (isTrue x env (eval x env)) (fun c s'=>Q (!c) s') E s):wpAny M A (isTrue (.UnaryOp .Not x pos) env whole) Q E s:=by
 show wpAny M A (isTrue x env (eval x env) >>= fun c=>pure (!c)) Q E s
 exact thn h fun c s' h'=>wpAny_pure h'
theorem isTrue_chain {l op₁ op₂ ops r₁ r₂ rs pos whole} {Q:Bool->Shared->Prop}
  (h:wpAny M A (eval l env) (fun a s₁=>wpAny M A (testChain pos a (op₁::op₂::ops) (eval r₁ env::eval r₂ env::evalEach rs env)) Q E s₁) E s)
  (hm:lastMarks (op₁::op₂::ops) (r₁::r₂::rs)=false:=by with_unfolding_all rfl) :
  wpAny M A (isTrue (.Compare l (op₁::op₂::ops) (r₁::r₂::rs) pos) env whole) Q E s:=by
 show wpAny M A (eval l env >>= fun a=>testChain pos a (op₁::op₂::ops) (markedEach (op₁::op₂::ops) (r₁::r₂::rs) (evalEach (r₁::r₂::rs) env))) Q E s
 rw [markedEach_of_false _ _ _ hm]
 exact wpAny_bind h
theorem isTrue_plain {e:PySem.Expr} {whole:Sem Value} {Q:Bool->Shared->Prop} (h:wpAny M A whole (fun v s₁=>wpAny M A (truthy v) Q E s₁) E s)
  (he:PySem.isTrue e env whole=(do let v <- whole;standAt e.pos;holding [v] (truthy v)):=by rfl):wpAny M A (PySem.isTrue e env whole) Q E s:=by
 rw [he]
 exact thn h fun v s1 h1=>stood (wpAny_holding h1)
theorem not_of {v:Value} {Q:Value->Shared->Prop} (h:wpAny M A (truthy v) (fun c s'=>Q (.bool (!c)) s') E s):wpAny M A (unaryOp .Not v) Q E s:=by
 unfold unaryOp
 exact wpAny_holding (thn h fun c s' h'=>wpAny_pure h')
theorem spliced_cons {x:Sem Value} {rest:List (Bool×Sem Value)} {Q:List Value->Shared->Prop} (h:wpAny M A x (fun v s₁=>wpAny M A (spliced rest) (fun vs s₂=>Q (v::vs) s₂) E s₁) E s):wpAny M A (spliced ((false,x)::rest)) Q E s:=by
 rw [spliced]
 refine thn h fun v s1 h1=>?_
 simp only [Bool.false_eq_true,if_false]
 exact wpAny_bind (wpAny_pure (held h1 fun vs s2 h2=>wpAny_pure h2))
theorem spliced_more {e:PySem.Expr} {rest:List PySem.Expr} {pos:Pos} {Q:List Value->Shared->Prop}
  (h:wpAny M A (eval e env) (fun v s₁=>wpAny M A (spliced (backTo pos (starEach rest env))) (fun vs s₂=>Q (v::vs) s₂) E s₁) E s)
  (he:starEach (e::rest) env=(false,eval e env)::starEach rest env:=by rfl):wpAny M A (spliced (backTo pos (starEach (e::rest) env))) Q E s:=by
 rw [he];exact spliced_cons h
theorem evalArgs_plain {f:Value} {x:Sem Value} {rest:List (Bool×Sem Value)} {Q:Args->Shared->Prop} (h:wpAny M A (spliced ((false,x)::rest)) (fun vs s'=>Q ⟨vs,[]⟩ s') E s):wpAny M A (evalArgs f true ((false,x)::rest) []) Q E s:=by
 unfold evalArgs
 show wpAny M A (spliced ((false,x)::rest) >>= _) Q E s
 exact thn h fun vs s' h'=>wpAny_holding (wpAny_bind (wpAny_pure (wpAny_bind (wpAny_pure (wpAny_pure h')))))
theorem callWith_of {f:Value} {first:List Value} {pos:Pos} {P:Heap->Prop} {args:List (Bool×Sem Value)} {keywords:List (Option Str×Sem Value)} {Q:Value->Shared->Prop} (hplain:(args.any (·.1)||keywords.any (·.1.isNone))=false)
  (hk:∀ h,P h->∃ k,(k=Keeper.frame\/k=Keeper.machine\/k=Keeper.boundFrame)/\Looks M h (keeperOf f) k)
  (h:wpAny M A (evalArgs f true args keywords) (fun a s₁=>P s₁.heap/\wpAny M A (call f (first++a.pos) a.kw) Q E s₁) E s):wpAny M A (callWith pos f first args keywords) Q E s:=by
 unfold callWith
 refine held h fun a s1 h1=>stood ?_
 obtain ⟨k,hk',L⟩:=hk _ h1.1
 rw [hplain]
 refine wpAny_bind (lf (L.here ?_))
 have tail:∀ {t:Sem Value},wpAny M A t Q E s1->wpAny M A (t >>= fun r=>holding [r] point >>= fun _=>pure r) Q E s1 :=
  fun ht=>thn ht fun r s2 hr=>held (lf (wpAny_point (Q:=fun _ s=>Q r s) hr)) fun _ _ x=>wpAny_pure x
 have marked (mk:Value):wpAny M A (callMarked mk f (first++a.pos) a.kw) Q E s1:=by unfold callMarked;exact wpAny_keep h1.2
 rcases hk' with rfl | rfl | rfl<;>dsimp only<;>first | exact tail h1.2 | (split<;>first | exact tail h1.2 | exact tail (marked _))
theorem wpAny_BinOp {l op r pos} {Q:Value->Shared->Prop} (h:wpAny M A (eval l env) (fun a s₁=>wpAny M A (eval r env) (fun b s₂=>wpAny M A (binaryOp op a b) Q E s₂) E s₁) E s):wpAny M A (eval (.BinOp l op r pos) env) Q E s:=by
 rw [eval_BinOp]
 exact thn h fun a s1 h1=>held h1 fun b s2 h2=>stood (wpAny_operate' h2)
theorem wpAny_Compare1 {l op r pos} {Q:Value->Shared->Prop} (h:wpAny M A (eval l env) (fun a s₁=>wpAny M A (eval r env) (fun b s₂=>wpAny M A (compareOp op a b) Q E s₂) E s₁) E s)
  (hm:behindInMarks op r=false:=by with_unfolding_all rfl):wpAny M A (eval (.Compare l [op] [r] pos) env) Q E s:=by
 rw [eval_Compare1,markedBehindIn_of_false hm]
 exact thn h fun a s1 h1=>held h1 fun b s2 h2=>stood (wpAny_operate' h2)
theorem wpAny_isTrue_Compare1 {l op r pos whole} {Q:Bool->Shared->Prop} (h:wpAny M A (eval l env) (fun a s₁=>wpAny M A (eval r env) (fun b s₂=>wpAny M A (compareOp op a b) (fun c s₃=>wpAny M A (truthy c) Q E s₃) E s₂) E s₁) E s)
  (hm:behindInMarks op r=false:=by with_unfolding_all rfl):wpAny M A (PySem.isTrue (.Compare l [op] [r] pos) env whole) Q E s:=by
 rw [isTrue_Compare1,markedBehindIn_of_false hm]
 exact thn h fun a s1 h1=>held h1 fun b s2 h2=>stood (thn (wpAny_operate' h2) fun c s3 h3=>wpAny_holding h3)
theorem wpAny_IfExp {test body orelse:PySem.Expr} {pos:Pos} {Q:Value->Shared->Prop} (h:wpAny M A (PySem.isTrue test env (eval test env)) (fun b s₁=>if b then wpAny M A (eval body env) Q E s₁ else wpAny M A (eval orelse env) Q E s₁) E s) :
  wpAny M A (eval (.IfExp test body orelse pos) env) Q E s:=by
 rw [arm_eval_IfExp]
 refine thn h fun b s1 h1=>?_
 cases b<;>exact h1
theorem wpAny_evalPart_some {e:PySem.Expr} {Q:Value->Shared->Prop} (h:wpAny M A (eval e env) Q E s):wpAny M A (evalPart (some e) env) Q E s:=h
theorem wpAny_Slice {lower upper step:Option PySem.Expr} {p:Pos} {Q:Value->Shared->Prop}
  (h:wpAny M A (evalPart lower env) (fun l s₁=>wpAny M A (evalPart upper env) (fun u s₂=>wpAny M A (evalPart step env) (fun st s₃ =>
   Q (.ref s₃.heap.objs.size) { s₃ with heap:=s₃.heap.push { cls := .type "slice", data := .fields #[l,u,st] } }) E s₂) E s₁) E s):wpAny M A (eval (.Slice lower upper step p) env) Q E s:=by
 rw [arm_eval_Slice]
 exact thn h fun l s1 h1=>held h1 fun u s2 h2=>held h2 fun st s3 h3=>lf (wpAny_newObj_type h3)
theorem wpAny_execs_cons {st rest} {Q:Flow->Shared->Prop} (h:wpAny M A (exec st env) (fun f s'=>match f with | .next=>wpAny M A (execs rest env) Q E s' | f=>Q f s') E s):wpAny M A (execs (st::rest) env) Q E s:=by
 rw [execs_cons]
 refine thn h fun f s' h'=>?_
 cases f<;>first | exact h' | exact wpAny_pure h'
theorem wpAny_Expr {e pos} {Q:Flow->Shared->Prop} (h:wpAny M A (eval e env) (fun v s'=>match v with | .ref _=>False | _=>Q .next s') E s) (hi:interactive env=false:=by rfl) (hs:swapsWith e none pos.line env=pure false:=by rfl):wpAny M A (exec (.Expr e pos) env) Q E s:=by
 rw [exec_Expr env e pos hi hs]
 refine stood (thn h fun v s' h'=>?_)
 have hv:∀ a,v ≠ .ref a:=fun a hva=>by subst hva;exact h'
 rw [dropValue_plain hv]
 refine wpAny_pure ?_
 cases v<;>first | exact h' | exact (hv _ rfl).elim
theorem wpAny_Assign_Name {x pos' value pos} {Q:Flow->Shared->Prop} (h:wpAny M A (eval value env) (fun v s₁=>wpAny M A (storeName env x v) (fun _=>Q .next) E s₁) E s) (hs:swapsWith value (some (.Name x pos')) pos.line env=pure false:=by rfl):wpAny M A (exec (.Assign [.Name x pos'] value pos) env) Q E s:=by
 rw [exec_Assign_Name env x pos' value pos hs]
 refine stood (thn h fun v s1 h1=>stood (thn (P:=fun _=>Q .next) ?_ fun _ s2 h2=>wpAny_pure h2))
 exact fun Γ p hΓ c1 c2=>by rw [Sem.wp_bindName];exact h1 Γ p hΓ c1 c2
theorem plainObj_wpAny_Assign_Attribute {o attr pos' value pos} {Q:Flow->Shared->Prop} (h:wpAny M A (eval value env) (fun v s₁=>wpAny M A (eval o env) (fun ov s₂=>wpAny M A (setAttr ov attr v) (fun _=>Q .next) E s₂) E s₁) E s)
  (hs:swapsWith value (some (.Attribute o attr pos')) pos.line env=pure false:=by rfl):wpAny M A (exec (.Assign [.Attribute o attr pos'] value pos) env) Q E s:=by
 rw [plainObj_exec_Assign_Attribute o attr pos' value pos hs]
 refine stood (thn h fun v s1 h1=>thn (P:=fun _=>Q .next) ?_ fun _ s2 h2=>wpAny_pure h2)
 rw [assign_Attribute]
 exact held h1 fun ov s2 h2=>stood (held h2 fun _ s3 h3=>lf (wpAny_release' h3))
theorem wpAny_Assign_Subscript {o i pos' value pos} {Q:Flow->Shared->Prop} (h:wpAny M A (eval value env) (fun v s₁=>wpAny M A (eval o env) (fun ov s₂=>wpAny M A (eval i env) (fun iv s₃=>wpAny M A (setItem ov iv v) (fun _=>Q .next) E s₃) E s₂) E s₁) E s)
  (hs:swapsWith value (some (.Subscript o i pos')) pos.line env=pure false:=by rfl):wpAny M A (exec (.Assign [.Subscript o i pos'] value pos) env) Q E s:=by
 rw [exec_Assign_Subscript o i pos' value pos hs]
 refine stood (thn h fun v s1 h1=>thn (P:=fun _=>Q .next) ?_ fun _ s2 h2=>wpAny_pure h2)
 rw [assign_Subscript]
 exact held h1 fun ov s2 h2=>held h2 fun iv s3 h3=>stood (held h3 fun _ s4 h4=>lf (wpAny_release' h4))
theorem wpAny_If {test body orelse pos} {Q:Flow->Shared->Prop} (h:wpAny M A (PySem.isTrue test env (eval test env)) (fun b s₂=>if b then wpAny M A (execs body env) Q E s₂ else wpAny M A (execs orelse env) Q E s₂) E s):wpAny M A (exec (.If test body orelse pos) env) Q E s:=by
 rw [exec_If]
 refine stood (thn h fun b s1 h1=>?_)
 cases b<;>exact h1
theorem wpAny_Return_some {e pos} {Q:Flow->Shared->Prop} (h:wpAny M A (eval e env) (fun v=>Q (.ret v)) E s):wpAny M A (exec (.Return (some e) pos) env) Q E s:=by
 rw [exec_Return_some]
 exact stood (thn h fun v s1 h1=>wpAny_pure h1)
theorem Assign_Tuple {elts k tpos value pos} {Q:Flow->Shared->Prop} (h:wpAny M A (eval value env) (fun v s₁=>wpAny M A (assign (.Tuple elts k tpos) env v) (fun _=>Q .next) E s₁) E s)
  (hs:swapsWithSole [.Tuple elts k tpos] value pos.line env=pure false:=by rfl) (hw:swappedStores [.Tuple elts k tpos] value env=pure none:=by rfl):wpAny M A (exec (.Assign [.Tuple elts k tpos] value pos) env) Q E s:=by
 rw [exec_Assign]
 refine stood ?_
 rw [hs]
 refine wpAny_bind (wpAny_pure ?_)
 rw [if_neg (by decide)]
 refine thn h fun v s1 h1=>?_
 rw [hw]
 refine wpAny_bind (wpAny_pure ?_)
 show wpAny M A (assignAll v [assign (.Tuple elts k tpos) env] >>= fun _=>pure .next) Q E s1
 exact thn h1 fun _ _ x=>wpAny_pure x
theorem Assign_Tuple_swapped {elts k tpos value pos} {names:List Str} {Q:Flow->Shared->Prop}
  (h:wpAny M A (eval value env) (fun v s₁=>wpAny M A (unpackItems v names.length none) (fun items s₂=>wpAny M A (assignInOrder (names.reverse.map fun n=>bindName env n) items.reverse) (fun _=>Q .next) E s₂) E s₁) E s)
  (hs:swapsWithSole [.Tuple elts k tpos] value pos.line env=pure false:=by rfl) (hw:swappedStores [.Tuple elts k tpos] value env=pure (some names):=by rfl):wpAny M A (exec (.Assign [.Tuple elts k tpos] value pos) env) Q E s:=by
 rw [exec_Assign]
 refine stood ?_
 rw [hs]
 refine wpAny_bind (wpAny_pure ?_)
 rw [if_neg (by decide)]
 refine thn h fun v s1 h1=>?_
 rw [hw]
 refine wpAny_bind (wpAny_pure ?_)
 show wpAny M A (rule "assign.swapped-stores" >>= fun _=>unpackItems v names.length none >>= fun items=>assignInOrder (names.reverse.map fun n=>bindName env n) items.reverse >>= fun _=>pure .next) Q E s1
 exact wpAny_bind (wpAny_rule (thn h1 fun items s2 h2=>thn h2 fun _ _ x=>wpAny_pure x))
end
end Mine.C
namespace Mine.C
section
variable {α:Type} {M:Model} {A:Around} {E:Value->Shared->Prop} {s:Shared} {env:Env} {prog:Program} {w:World} {R:Result->Shared->Prop}
theorem wpAny_noted {m:Sem α} {Q:α->Shared->Prop} (h:wpAny M A m Q (notedBy M A env E) s):wpAny M A (m.onRaise fun x=>do noteFrame x env;theTreesLotGoes x) Q E s :=
 wpAny_onRaise (wpAny_mono h (fun _ _ q=>q) fun _ _ hx=>thn (lf hx) fun _ _ e=>lf (wpAny_theTreesLotGoes e))
theorem wpAny_notedAt {m:Sem α} {pos:Pos} {Q:α->Shared->Prop} (h:wpAny M A m Q (notedBy M A env E) s):wpAny M A (m.onRaise fun x=>do noteFrame x env;standAt pos) Q E s :=
 wpAny_onRaise (wpAny_mono h (fun _ _ q=>q) fun _ _ hx=>thn (lf hx) fun _ _ e=>wpAny_standAt e)
theorem codeAny_block {stmts:List Stmt} (h:wpAny (model prog w) A (execs stmts env) (fun f s'=>R (.ok f) s') (notedBy (model prog w) A env fun e s'=>R (.error e) s') s):codeAny (model prog w) A (.block stmts env) R s:=by
 refine codeAny_of_tree rfl ?_
 show wpAny _ _ ((execs stmts env).onRaise (fun x=>do noteFrame x env;theTreesLotGoes x) >>= fun f=>pure (Fin.done f)) _ _ s
 exact wpAny_bind (wpAny_noted (wpAny_mono h (fun f s' h'=>wpAny_pure h') fun _ _ h'=>h'))
noncomputable def TurnEnd (R:Result->Shared->Prop) (G:Shared->Prop) (f:Flow) (s:Shared):Prop:=match f with
 | .next | .cont=>G s
 | .brk=>R (.ok .next) s
 | .ret v=>R (.ok (.ret v)) s
theorem codeAny_while {test body} (turn:wpAny (model prog w) A (PySem.isTrue test env (eval test env)) (fun b s₂=>b.casesOn (R (.ok .next) s₂)
    (wpAny (model prog w) A (execs body env) (TurnEnd R (codeAny (model prog w) A (.whileLoop test body [] env) R)) (notedBy (model prog w) A env fun e s'=>R (.error e) s') s₂)) (notedBy (model prog w) A env fun e s'=>R (.error e) s') s):codeAny (model prog w) A (.whileLoop test body [] env) R s:=by
 refine codeAny_of_tree rfl ?_
 show wpAny _ _ ((whileTurn test body [] env).onRaise (fun x=>do noteFrame x env;theTreesLotGoes x)) _ _ s
 refine wpAny_noted ?_
 unfold whileTurn
 refine thn turn fun b s₂ h₂=>?_
 cases b with
 | false=>exact thn (lf (wpAny_execs_nil h₂)) fun f s₃ h₃=>wpAny_pure h₃
 | true =>
  refine thn h₂ fun f s₃ h₃=>?_
  cases f with
  | next=>exact wpAny_pure ⟨rfl,h₃⟩
  | cont=>exact wpAny_pure ⟨rfl,h₃⟩
  | brk=>exact wpAny_pure h₃
  | ret v=>exact wpAny_pure h₃
theorem wpAny_While {test body orelse pos} {Q:Flow->Shared->Prop} (h:codeAny M A (.whileLoop test body orelse env) (fun r s'=>match r with | .ok f=>Q f s' | .error e=>cameBackBy M A env E e s') s):wpAny M A (exec (.While test body orelse pos) env) Q E s:=by
 rw [exec_While];exact stood (wpAny_runOwn h)
theorem codeAny_for {target it body} (turn:wpAny (model prog w) A (pyNext it) (fun r s₁=>r.casesOn (R (.ok .next) s₁) fun v=>wpAny (model prog w) A (letOwnedTupleGo target it v) (fun _ s₁' =>
     wpAny (model prog w) A (assign target env v) (fun _ s₂=>wpAny (model prog w) A (execs body env) (TurnEnd R (codeAny (model prog w) A (.forLoop target it body [] env) R)) (notedBy (model prog w) A env fun e s'=>R (.error e) s') s₂) (notedBy (model prog w) A env fun e s'=>R (.error e) s') s₁') (notedBy (model prog w) A env fun e s'=>R (.error e) s') s₁) (notedBy (model prog w) A env fun e s'=>R (.error e) s') s) :
  codeAny (model prog w) A (.forLoop target it body [] env) R s:=by
 refine codeAny_of_tree rfl ?_
 show wpAny _ A ((forTurn target it body [] env).onRaise (fun x=>do noteFrame x env;theTreesLotGoes x)) _ _ s
 refine wpAny_noted ?_
 unfold forTurn
 refine stood (wpAny_bind (wpAny_onRaise (wpAny_mono turn (fun r s₁ h₁=>?_) fun _ _ h'=>wpAny_standAt h')))
 cases r with
 | none=>exact wpAny_pure ⟨rfl,codeAny_block (lf (wpAny_execs_nil h₁))⟩
 | some v =>
  refine thn h₁ fun _ s₁' h₁'=>thn h₁' fun _ s₂ h₂=>thn h₂ fun f s₃ h₃=>?_
  cases f with
  | next=>exact wpAny_pure ⟨rfl,h₃⟩
  | cont=>exact wpAny_pure ⟨rfl,h₃⟩
  | brk=>exact wpAny_pure h₃
  | ret v=>exact wpAny_pure h₃
theorem wpAny_For {target iter body orelse pos} {Q:Flow->Shared->Prop}
  (h:wpAny M A (eval iter env) (fun x s₁=>wpAny M A (pyIter x) (fun it s₂=>codeAny M A (.forLoop target it body orelse env) (fun r s'=>match r with | .ok f=>Q f s' | .error e=>cameBackBy M A env E e s') s₂) E s₁) E s)
  (hs:∀ x,foldedSetIterable iter env x=pure x:=by intro _;rfl):wpAny M A (exec (.For target iter body orelse pos) env) Q E s:=by
 rw [exec_For]
 exact stood (thn h fun x s₁ h₁=>wpAny_bind (wpAny_of_eq (hs x) (stood (held h₁ fun it s₂ h₂=>wpAny_runOwn h₂))))
theorem wpAny_assign_Name {x pos v} {Q:Unit->Shared->Prop} (h:wpAny M A (storeName env x v) Q E s):wpAny M A (assign (.Name x pos) env v) Q E s:=by
 rw [PySem.assign_Name]
 exact stood fun Γ p hΓ c1 c2=>by rw [Sem.wp_bindName];exact h Γ p hΓ c1 c2
theorem codeAny_comp {elt target iter:PySem.Expr} {ifs:List PySem.Expr} {scope:Scope} {pos:Pos} {it acc:Value}
  (turn:wpAny (model prog w) A (pyNext it) (fun r s₁=>r.casesOn (R (.ok .next) s₁) fun v=>wpAny (model prog w) A (assign target env v) (fun _ s₂ =>
     wpAny (model prog w) A (forIn ifs true fun c r=>if r=true then do let ok <- PySem.isTrue c env (eval c env);pure (ForInStep.yield ok) else pure (ForInStep.yield r)) (fun ok s₃=>ok.casesOn (codeAny (model prog w) A (.compLoop (.ListComp elt [⟨target,iter,ifs,0⟩] scope pos) 0 it acc env) R s₃)
      (wpAny (model prog w) A (eval elt env) (fun x s₄=>wpAny (model prog w) A (call (.builtin "list.append") [acc,x]) (fun _ s₅=>codeAny (model prog w) A (.compLoop (.ListComp elt [⟨target,iter,ifs,0⟩] scope pos) 0 it acc env) R s₅) (notedBy (model prog w) A env fun e s'=>R (.error e) s') s₄) (notedBy (model prog w) A env fun e s'=>R (.error e) s') s₃))
      (notedBy (model prog w) A env fun e s'=>R (.error e) s') s₂) (notedBy (model prog w) A env fun e s'=>R (.error e) s') s₁) (notedBy (model prog w) A env fun e s'=>R (.error e) s') s)
  (ht:∀ v,letOwnedTupleGo target it v=pure ()):codeAny (model prog w) A (.compLoop (.ListComp elt [⟨target,iter,ifs,0⟩] scope pos) 0 it acc env) R s:=by
 refine codeAny_of_tree rfl ?_
 show wpAny _ A ((compTurn (.ListComp elt [⟨target,iter,ifs,0⟩] scope pos) 0 it acc env).onRaise (fun x=>do noteFrame x env;theTreesLotGoes x)) _ _ s
 refine wpAny_noted ?_
 rw [compTurn_list]
 refine stood (thn turn fun r s₁ h₁=>?_)
 cases r with
 | none=>exact wpAny_pure h₁
 | some v =>
  refine wpAny_bind (wpAny_of_eq (ht v) (thn h₁ fun _ s₂ h₂=>thn h₂ fun ok s₃ h₃=>?_))
  cases ok with
  | false=>exact wpAny_pure ⟨rfl,h₃⟩
  | true=>exact wpAny_bind (thn h₃ fun x s₄ h₄=>thn h₄ fun _ s₅ h₅=>wpAny_pure (wpAny_pure ⟨rfl,h₅⟩))
theorem codeAny_compStart_list {elt target iter ifs rest scope pos it acc}
  (h0:codeAny (model prog w) A (.compLoop (.ListComp elt (⟨target,iter,ifs,0⟩::rest) scope pos) 0 it acc env) R s)
  (h:wpAny (model prog w) A (pyIter it) (fun it' s'=>codeAny (model prog w) A (.compLoop (.ListComp elt (⟨target,iter,ifs,0⟩::rest) scope pos) 0 it' acc env) R s') (notedBy (model prog w) A env fun x s'=>R (.error x) s') s) :
  codeAny (model prog w) A (.compStart (.ListComp elt (⟨target,iter,ifs,0⟩::rest) scope pos) 0 it acc env) R s:=by
 refine codeAny_of_tree rfl ?_
 show wpAny _ _ ((compStart (.ListComp elt (⟨target,iter,ifs,0⟩::rest) scope pos) 0 it acc env).onRaise (fun x=>do noteFrame x env;standAt theWindowsPlace)) _ _ s
 refine wpAny_notedAt ?_
 unfold compStart
 show wpAny _ _ (ask >>= _) _ _ s
 refine wpAny_bind (lf (wpAny_askSetting ?_))
 refine wpAny_ite_split (fun _=>?_) fun _=>?_
 ·first
   | exact wpAny_bind (wpAny_pure (wpAny_pure (And.intro rfl h0)))
   | exact wpAny_pure (And.intro rfl h0)
 ·first
   | exact wpAny_bind (wpAny_rule (stood (thn h fun it' s' h'=>wpAny_pure (And.intro rfl h'))))
   | (refine wpAny_bind (wpAny_rule ?_);show wpAny _ _ (standAt iter.pos >>= _) _ _ s;exact stood (thn h fun it' s' h'=>wpAny_pure (And.intro rfl h')))
theorem wpAny_comprehension_free {e:PySem.Expr} {scope:Scope} {pos:Pos} {newAcc first:Sem Value} {g:Comprehension} {gs:List Comprehension} {cl:List (Str×Addr)} {Q:Value->Shared->Prop}
  (hcl:clausesOf e=g::gs) (hs:∀ x,foldedSetIterable g.iter env x=pure x) (hclos:closureFor scope env=pure cl)
  (hkind:scope.kind = .function) (hnames:∀ x∈scope.names,x.2 = .local->scope.names.lookup x.1=some .local)
  (h:wpAny M A first (fun x s₁=>wpAny M A (pyIter x) (fun it s₂=>wpAny M A newAcc (fun acc s₃ =>
   wpAny M A (newFunctionEnv scope env.globals cl [] env.qual none .none (some env)) (fun cenv s₄ =>
    codeAny M A (.compStart e 0 it acc { cenv with scope:=relabel scope env }) (compPost M A E none Q acc cenv.locals) s₄) E s₃) E s₂) E s₁) E s) :
  wpAny M A (comprehension e scope env pos newAcc false first none) Q E s:=by
 unfold comprehension
 rw [hclos,hcl]
 refine thn h fun x s₁ h₁=>stood (wpAny_bind (wpAny_of_eq (hs x) (held h₁ fun it s₂ h₂=>?_)))
 refine thn h₂ fun acc s₃ h₃=>wpAny_bind (wpAny_pure (thn h₃ fun cenv s₄ h₄=>?_))
 dsimp only
 have hv:∀ x∈(scope.names.filter fun x=>(x.2 == .local||x.2 == .cell)&&x.1 != (".0" : Str)).reverse,x.2 = .local ->
   Env.kindOf { cenv with scope:=relabel scope env } x.1=some .local:=fun x hx hl=>lookup_relabel_local (hnames x (List.mem_filter.mp (List.mem_reverse.mp hx)).1 hl)
 refine wpAny_holding (wpAny_bind (wpAny_attempt (wpAny_holding (wpAny_run (codeAny_mono h₄ fun r s' hr=>?_)))))
 cases r with
 | ok f =>
  obtain ⟨m,hn,hr⟩:=hr
  exact held (lf (wpAny_comp_letGo (cenv:={ cenv with scope:=relabel scope env }) (Q:=fun _ s''=>Q acc s'') hkind _ s' m hv hn fun h' m' _ hs'=>hr h' hs')) fun _ _ x=>wpAny_pure x
 | error x =>
  obtain ⟨m,hn,hr⟩:=hr
  exact held (lf (wpAny_comp_letGo (cenv:={ cenv with scope:=relabel scope env }) (Q:=fun _ s''=>PySem.wpAny M A (passOn "comprehension.variables-let-go" x { cenv with scope:=relabel scope env }:Sem Value) (fun _ _=>False) E s'') hkind _ s' m hv hn fun h' m' _ hs'=>hr h' hs' _ rfl)) fun _ _ x=>wpAny_mono (lf x) (fun _ _ f=>f.elim) fun _ _ y=>y
end
end Mine.C
namespace Mine.C
section
variable {A:Around} {E:Value->Shared->Prop} {s:Shared} {env:Env} {prog:Program} {w:World} {R:Result->Shared->Prop}
theorem codeAny_func {body:List Stmt} (h:wpAny (model prog w) (A.deeper env) (execs body env) (fun f s'=>R (.ok (.ret (match f with | .ret v=>v | _ => .none))) s')
   (fun e s'=>wpAny (model prog w) (A.deeper env) (leaving env e) (fun _ s''=>R (.error e) s'') (fun e' s''=>R (.error e') s'') s') s):codeAny (model prog w) A (.func body env) R s:=by
 refine codeAny_of_tree rfl ?_
 show wpAny _ (A.deeper env) (point >>= fun _=>(execs body env).onRaise (leaving env) >>= fun f=>match f with | .ret v=>ret v | _=>ret .none) _ _ s
 refine wpAny_bind (lf (wpAny_point (wpAny_bind (wpAny_onRaise (wpAny_mono h (fun f s' h'=>?_) fun _ _ h'=>h')))))
 cases f<;>exact wpAny_pure h'
theorem codeAny_call_def {a:Addr} {o:Obj} {fd:FuncData} {body:List Stmt} {args:Args} {binds:List (Str×Value)}
  (hroom:A.depth < recursionLimit) (ho:s.heap.get? a=some o) (hdata:o.data = .func fd) (hlim:s.heap.NoLimit) (hcd:s.heap.CodeRec fd.code fd.qualname)
  (hbody:fd.body = .stmts body) (hbind:BindsTo s fd args binds)
  (hcell:∀ x∈fd.scope.names,x.2 ≠ .cell) (hloc:∀ x∈binds,fd.scope.names.lookup x.1=some .local)
  (h:∀ h₀,h₀.Ns s.heap.objs.size (fun x=>binds.reverse.lookup x)->(∀ b o,s.heap.get? b=some o->h₀.get? b=some o) ->
   wpAny (model prog w) (A.deeper (callEnv fd s.heap.objs.size a)) (execs body (callEnv fd s.heap.objs.size a)) (fun f s'=>R (.ok (.ret (match f with | .ret v=>v | _ => .none))) s')
    (fun e s'=>wpAny (model prog w) (A.deeper (callEnv fd s.heap.objs.size a)) (leaving (callEnv fd s.heap.objs.size a) e) (fun _ s''=>R (.error e) s'') (fun e' s''=>R (.error e') s'') s')
    { s with heap:=h₀,toks:=s.toks+binds.length })
  (hco:fd.scope.isCoroutine=false) (hgen:fd.scope.isGenerator=false) (hk:fd.scope.kind = .function) :
  codeAny (model prog w) A (.call (.ref a) args) R s:=by
 refine codeAny_of_tree rfl ?_
 show wpAny _ A.in1 (callAny (.ref a) args) _ _ s
 unfold callAny
 dsimp only
 refine wpAny_bind (lf (wpAny_load ho ?_))
 obtain ⟨c,oc,vs,tq,hc,hoc,hdc,hq⟩:=hcd
 rw [hdata]
 unfold callFunction
 dsimp only
 simp (config:={ iota:=false }) only [hco,hgen,hbody,hc]
 refine wpAny_bind (m:=field (.ref c) 1) (lf (wpAny_field hoc hdc hq (wpAny_bind (wpAny_pure ?_))))
 refine wpAny_bind (lf (hbind _ _ _ _ (wpAny_bind (lf (wpAny_newFunctionEnv hcell hloc (fun h₀ hns₀ hsb₀=>?_) hk)))))
 have hk0:∀ b o,s.heap.get? b=some o->h₀.get? b=some o:=fun b o e=>hsb₀.extBut b o (Nat.ne_of_lt (Heap.lt_size e)) (Heap.get?_push_of_some _ e)
 refine wpAny_bind (lf (wpAny_enterFrame (hlim.fresh _ hsb₀) hroom (wpAny_pure (And.intro rfl ?_))))
 rw [<- hc]
 exact codeAny_func (h h₀ hns₀ hk0)
theorem codeAny_builtin {id:String} {args:Args} {b:Builtin} (hd:Builtin.Bytes.decodersThatHold.contains id=false) (hb:entryFor table id=some b)
  (h:wpAny (model prog w) (A.under (.builtin id args)) (b args) (fun fin s'=>match fin with | .done f=>R (.ok f) s' | .again c'=>c'.quiet=true/\codeAny (model prog w) A c' R s') (fun e s'=>R (.error e) s') s) :
  codeAny (model prog w) A (.builtin id args) R s:=by
 refine codeAny_of_tree (by show (!_)=true;rw [hd];rfl) ?_
 show wpAny _ _ (match entryFor table id with | some b=>b args | none=>unsupported ((withoutEnding? id "#data").getD id)) _ _ s
 rw [hb];exact h
theorem codeAny_call_builtin_code {id:String} {args:Args} (hq:(Code.builtin id args).quiet=true)
  (h:wpAny (model prog w) A.in1 (checkBuiltinCall id args) (fun _ s₁=>codeAny (model prog w) A (.builtin id args) R s₁) (fun e s'=>R (.error e) s') s):codeAny (model prog w) A (.call (.builtin id) args) R s:=by
 refine codeAny_of_tree rfl ?_
 show wpAny _ A.in1 (checkBuiltinCall id args >>= fun _=>again (.builtin id args)) _ _ s
 exact thn h fun _ s₁ h₁=>wpAny_pure (And.intro hq h₁)
variable {K:Frag} {x C p:Addr} {ox:Obj} {od:Option Obj} {name:Str} {expr:Bool} {Q:Value->Shared->Prop} {h₀:Heap} {L:Addr} {m:Str->Option Value}
theorem prop_eq (p x C:Addr):∃ k,Builtin.«property.__get__» ⟨[.ref p,.ref x,.ref C],[]⟩=field (.ref p) 0 >>= k/\∀ f:Addr,k (.ref f)=again (.call (.ref f) ⟨[.ref x],[]⟩):=⟨_,rfl,fun _=>rfl⟩
theorem prop_get {fget:Addr} {rest:List Value} (X:K.In s.heap) (hp:recIn K p "property" = some (.ref fget::rest))
  (h:codeAny (model prog w) A (.call (.ref fget) ⟨[.ref x],[]⟩) R s):codeAny (model prog w) A (.call (.builtin "property.__get__") ⟨[.ref p,.ref x,.ref C],[]⟩) R s:=by
 obtain ⟨d,sl,ho⟩:=rec_of X hp
 refine codeAny_call_builtin_code (plainId_quiet KF.slot_prop.plain _) (lf (KF.slot_prop.check _ _ _ _ _ _ _ _ ⟨_,ho,rfl⟩ (KF.args_prop _ _ _) (codeAny_builtin (by decide +kernel) KF.entry_prop ?_)))
 obtain ⟨k,e1,e2⟩:=prop_eq p x C
 rw [e1]
 refine wpAny_bind (lf (wpAny_field ho rfl (x := .ref fget) rfl ?_))
 rw [e2]
 exact wpAny_pure ⟨rfl,h⟩
theorem get_prop {fget:Addr} {rest:List Value} {od:Obj} (Fx:Fr h₀ L s.heap m) (X₀:K.In h₀) (I:W.InstAt s.heap x ox C (some od)) (hg:plainGet K C name=true) (hh:hasDictIn K C=true)
  (ha:findIn K (.ref C) name=some (some (.ref p))) (hn:specialIn K (.ref p) "__get__" = some (some (.builtin "property.__get__"))) (ht:takesIn K (.ref p)=some true) (hp:recIn K p "property" = some (.ref fget::rest))
  (h:codeAny (model prog w) A.in1 (.call (.ref fget) ⟨[.ref x],[]⟩) (fun r s'=>match r with | .ok (.ret v)=>wpAny (model prog w) A (handedOut v) Q E s' | .ok _=>False | .error e=>wpAny (model prog w) A (noteIf true (.ref x) (.str name s.toks) e) (fun _ s''=>E e s'') E s') { s with toks:=s.toks+1 }) :
  wpAny (model prog w) A (getAttr (.ref x) name expr) Q E s:=by
 have X:=X₀.keeps Fx.keep
 obtain ⟨hg1,hg2⟩:=plainGet_of hg
 have hf:findObj K C (some od) name=some (.bind (.builtin "property.__get__") (.ref p)):=findObj_data (by obtain ⟨cd,hc,_⟩:=any_some hh;rw [hc];rfl) ha hn ht
 obtain ⟨hh',g,d,t,os⟩:=s
 have L0:=I.type (M:=model prog w)
 have L1:=looks_findIn (M:=model prog w) X hg1
 have L2:=looks_find (M:=model prog w) X I hf
 have L3:=looks_findIn (M:=model prog w) X hg2
 unfold getAttr getAttrBy
 refine wpAny_bind (lf (wpAny_mkText (wpAny_holding (wpAny_bind (lf (L0.at (wpAny_bind (lf (L1.at ?_)))))))))
 show wpAny _ _ (getAttrEveryday _ _ _) _ _ _
 refine wpAny_bind (wpAny_onRaise (wpAny_runValue (codeAny_builtin (by decide +kernel) PySem.F.plainObj_entry_getattr_hooked ?_)))
 refine wpAny_bind (wpAny_pure (wpAny_bind (lf (L0.at (wpAny_bind (lf (L2.at (wpAny_bind (lf (L3.at ?_))))))))))
 show wpAny _ _ (holding [.ref p] (call (.builtin "property.__get__") [.ref p,.ref x,.ref C]) >>= fun r=>ret r) _ _ _
 refine held (wpAny_call (prop_get (s:=⟨hh',g,d,t+1,os⟩) X hp (codeAny_mono h fun r s' z=>?_))) fun r s' z=>wpAny_pure z
 rcases r with e | (v | _ | _ | _)<;>first | exact z | exact z.elim | skip
end
end Mine.C
namespace Mine
namespace Inv
variable {S:Sx} {L L' a:Addr} {mp mp':Mp} {cl cl':Cl} {w:Wd} {s s':Shared} {news:List (Addr×Obj)} {o:Obj} {P:Obj->Prop} {h':Heap} {tk:Tok}
noncomputable def cut (a:Addr) (news:List (Addr×Obj)):List (Addr×Obj):=news.filter fun p=>p.1 != a
theorem cut_mem {q:Addr×Obj}:q∈cut a news↔q∈news/\q.1≠a:=by unfold cut;rw [List.mem_filter,bne_iff_ne]
theorem less (i:Inv S L mp cl w s news) (ha:a∈news.map (·.1)) (hz:w.fz a=none) (F':Fr S.base L' h' mp') (hn:∀ b o,b≠a->b∈news.map (·.1)->s.heap.get? b=some o->h'.get? b=some o/\b≠L') (hc:∀ p∈cl',p∈cl/\p.1≠a) (nd:(cl'.map (·.1)).Nodup) :
  Inv S L' mp' cl' w { s with heap:=h',toks:=tk } (cut a news) :=
 ⟨F',fun p h=>have q:=cut_mem.mp h;have r:=hn _ _ q.2 (List.mem_map_of_mem q.1) (i.nw _ q.1).1;⟨r.1,r.2,(i.nw _ q.1).2.2⟩,i.nd.sublist (List.filter_sublist.map _),nd,fun p h=>i.ap p (hc p h).1,fun p h=>(i.own p (hc p h).1).imp fun _ q=>⟨cut_mem.mpr ⟨q.1,(hc p h).2⟩,q.2⟩,
  i.zero,fun b ob e=>(i.led b ob e).imp id fun m=>cut_mem.mpr ⟨m,fun q=>by have q:b=a:=q;rw [q,hz] at e;cases e⟩,i.gens,i.os⟩
theorem lose (i:Inv S L mp cl w s news) (h:(a,P)∈cl) (hx:Heap.ExtBut a s.heap h') (hc:∀ p∈cl',p∈cl/\p.1≠a) (nd:(cl'.map (·.1)).Nodup):Inv S L mp cl' w { s with heap:=h',toks:=tk } (cut a news) :=
 have hk:=i.has h
 have hb:a≠L/\S.base.get? a=none:=(keyMem hk).elim fun _ q=>(i.nw _ q).2
 i.less hk (i.ap _ h) ⟨i.fr.ns.extBut hx (Ne.symm hb.1),fun b ob e=>hx b ob (fun q=>by rw [q,hb.2] at e;cases e) (i.fr.keep b ob e),i.fr.above⟩ (fun b o q m e=>⟨hx _ _ q e,(keyMem m).elim fun _ z=>(i.nw _ z).2.1⟩) hc nd
theorem enter (i:Inv S L mp cl w s news) (ho:s.heap.get? L=some o) (hns:s'.heap.Ns L' mp') (hk:∀ b o,s.heap.get? b=some o->s'.heap.get? b=some o) (hL:s.heap.objs.size<=L') (e2:s'.gens=s.gens) (e3:s'.os=s.os) :
  Inv S L' mp' ((L,Spc o)::cl) w s' ((L,o)::news):=by
 have lt:∀ {a ob},s.heap.get? a=some ob->a≠L':=fun h q=>absurd (Heap.lt_size h) (by rw [q];exact Nat.not_lt.mpr hL)
 have hb:S.base.get? L=none:=Option.eq_none_iff_forall_ne_some.mpr fun _ q=>absurd (Heap.lt_size q) (Nat.not_lt.mpr i.fr.above)
 have hn:L∉news.map (·.1):=fun m=>(keyMem m).elim fun _ z=>(i.nw _ z).2.1 rfl
 have j:Inv S L' mp' cl w s' ((L,o)::news) :=
  ⟨⟨hns,fun b ob q=>hk b ob (i.fr.keep b ob q),Nat.le_trans i.fr.above (Nat.le_trans (Nat.le_of_lt (Heap.lt_size ho)) hL)⟩,fun p h=>(List.mem_cons.mp h).elim (fun q=>q▸⟨hk _ _ ho,lt ho,hb⟩) fun q=>⟨hk _ _ (i.nw p q).1,lt (i.nw p q).1,(i.nw p q).2.2⟩,
   List.nodup_cons.mpr ⟨hn,i.nd⟩,i.cnd,i.ap,fun p h=>(i.own p h).imp fun _ q=>⟨.tail _ q.1,q.2⟩,i.zero,fun b ob e=>(i.led b ob e).imp id (.tail _),e2.trans i.gens,e3.trans i.os⟩
 exact j.claim (.head _) (fun h=>(keyMem h).elim fun _ q=>hn (i.has q)) (i.fzNone hb hn) ⟨o.slots,rfl⟩
theorem leave (i:Inv S L' mp' cl w s news) (hm:(L,Spc o)∈cl) {s0:Shared} {news0:List (Addr×Obj)} {cl0:Cl} {w0:Wd} (i0:Inv S L mp cl0 w0 s0 news0) (ho:s0.heap.get? L=some o) (hx:Heap.ExtBut L' s.heap h') (hc:∀ p∈cl',p∈cl/\p.1≠L) (nd:(cl'.map (·.1)).Nodup) :
  Inv S L mp cl' w { s with heap:=h',toks:=tk } (cut L news):=by
 obtain ⟨ob,m,sl,e⟩:=i.own _ hm
 have e:ob={ o with slots:=sl }:=e
 subst e
 have g:=i.nw _ m
 refine i.less (memKey m) (i.ap _ hm) ⟨?_,fun b ob q=>hx b ob (fun z=>absurd (Heap.lt_size q) (by rw [z];exact Nat.not_lt.mpr i.fr.above)) (i.fr.keep b ob q),i0.fr.above⟩ (fun b o q m e=>⟨hx _ _ ((keyMem m).elim fun _ z=>(i.nw _ z).2.1) e,q⟩) hc nd
 obtain ⟨o',es,ep,q1,q2,q3⟩:=i0.fr.ns
 cases ho.symm.trans q1
 exact ⟨_,es,ep,hx _ _ g.2.1 g.1,q2,q3⟩
theorem slots {fs:List Addr} (i:Inv S L mp cl w s news) (hx:Heap.SlotsOnly fs s.heap h') (hc:∀ p∈cl,p.1∈fs->∀ ob sl,p.2 ob->p.2 { ob with slots:=sl }) (hb:∀ a∈fs,S.base.get? a=none/\w.fz a=none) :
  Inv S L mp cl w { s with heap:=h',toks:=tk } (news.map fun p=>(p.1,(h'.get? p.1).getD p.2)):=by
 have mv:∀ {a ob},(a,ob)∈news->a∉fs->(a,ob)∈news.map fun p=>(p.1,(h'.get? p.1).getD p.2):=fun {a ob} m n=>List.mem_map.mpr ⟨_,m,by rw [hx.2.1 a n,(i.nw _ m).1];rfl⟩
 refine ⟨⟨?_,fun b o q=>(hx.2.1 b fun z=>by rw [(hb b z).1] at q;cases q).trans (i.fr.keep b o q),i.fr.above⟩,fun p m=>?_,?_,i.cnd,i.ap,fun p m=>?_,i.zero,fun a o e=>(i.led a o e).imp id fun k=>mv k fun z=>(by rw [(hb a z).2] at e;cases e),i.gens,i.os⟩
 ·obtain ⟨o,es,ep,ho,r⟩:=i.fr.ns
  exact (hx.2.2 _ _ ho).elim fun sl h2=>⟨_,es,ep,h2,r⟩
 ·obtain ⟨p0,k,rfl⟩:=List.mem_map.mp m
  have y:=i.nw p0 k
  refine ⟨?_,y.2⟩
  obtain ⟨sl,h2⟩:=hx.2.2 _ _ y.1
  show h'.get? p0.1=some ((h'.get? p0.1).getD _)
  rw [h2];rfl
 ·rw [List.map_map];exact i.nd
 ·obtain ⟨o,k,r⟩:=i.own p m
  by_cases z:p.1∈fs
  ·obtain ⟨sl,h2⟩:=hx.2.2 _ _ (i.nw _ k).1
   exact ⟨_,List.mem_map.mpr ⟨_,k,by rw [show h'.get? p.1=_ from h2];rfl⟩,hc p m z _ sl r⟩
  ·exact ⟨o,mv k z,r⟩
end Inv
variable {S:Sx} {F F':Fx S} {mp mp':Mp} {hp hp':Hp} {w w':Wd} {s s':Shared} {a:Addr} {o:Obj} {P:Obj->Prop} {l:Cl} {h':Heap} {tk:Tok}
theorem At.lose (h:At (F.plus ((a,P)::l)) mp hp w s) (hx:Heap.ExtBut a s.heap h'):At (F.plus l) mp hp w { s with heap:=h',toks:=tk } :=
 ⟨h.len.tail,h.inv.elim fun _ i=>⟨_,i.lose (.head _) hx (fun _ m=>⟨.tail _ m,headNe i.cnd m⟩) (List.nodup_cons.mp i.cnd).2⟩⟩
theorem At.enter (h:At F mp hp w s) (e:F'.hid=(F.L,Spc o)::F.hid) (ho:s.heap.get? F.L=some o) (hns:s'.heap.Ns F'.L mp') (hk:∀ b o,s.heap.get? b=some o->s'.heap.get? b=some o) (hL:s.heap.objs.size<=F'.L) (e2:s'.gens=s.gens) (e3:s'.os=s.os):At F' mp' hp w s' :=
 h.inv.elim fun _ i =>
  have j:=i.enter ho hns hk hL e2 e3
  ⟨⟨h.len.len,by rw [e];exact List.nodup_cons.mpr ⟨fun m=>(List.mem_append.mp m).elim (fun m=>(List.nodup_cons.mp j.cnd).1 (by rw [List.map_append];exact List.mem_append_left _ m)) (j.apart h.len),h.nd⟩,h.len.dd⟩,_,by rw [e];exact j⟩
theorem At.leave (h:At (F'.plus l) mp' hp' w' s') (e:F'.hid=(F.L,Spc o)::F.hid) (h0:At F mp hp w s) (ho:s.heap.get? F.L=some o) (hx:Heap.ExtBut F'.L s'.heap h'):At (F.plus l) mp hp' w' { s' with heap:=h',toks:=tk }:=by
 obtain ⟨news,i⟩:=h.inv
 obtain ⟨news0,i0⟩:=h0.inv
 have i:Inv S F'.L mp' (l++F'.hid++cells S w' hp') w' s' news:=i
 rw [e] at i
 have pm:(l++(F.L,Spc o)::F.hid++cells S w' hp').Perm ((F.L,Spc o)::(l++F.hid++cells S w' hp')):=by
  rw [List.append_assoc,List.append_assoc];exact List.perm_middle
 have nd:=((pm.map (·.1)).nodup_iff.mp i.cnd)
 have nd1:=h.nd
 rw [show (F'.plus l).hid=l++F'.hid from rfl,e] at nd1
 exact ⟨⟨h.len.len,nd1.sublist (List.Sublist.append_right ((List.Sublist.append_left (List.sublist_cons_self _ _) l).map _) _),h.len.dd⟩,_,i.leave (pm.mem_iff.mpr (.head _)) i0 ho hx (fun p m=>⟨pm.mem_iff.mpr (.tail _ m),headNe nd m⟩) (List.nodup_cons.mp nd).2⟩
theorem nodupEq {cl:Cl} {P Q:Obj->Prop} (hn:(cl.map (·.1)).Nodup) (h:(a,P)∈cl) (k:(a,Q)∈cl):P=Q:=by
 induction cl with
 | nil=>exact nomatch h
 | cons p r ih =>
  have n:=List.nodup_cons.mp hn
  rcases List.mem_cons.mp h with rfl | h
  ·exact (List.mem_cons.mp k).elim (fun e=>(congrArg Prod.snd e).symm) fun k=>absurd (memKey k) n.1
  ·exact (List.mem_cons.mp k).elim (fun e=>absurd (e▸memKey h) n.1) (ih n.2 h)
theorem funFrames_of {h base:Heap}:∀ {l:List Env},(∀ e∈l,e.scope.kind ≠ .module/\∃ L o,e.frame=some L/\base.get? L=none/\h.get? L=some o/\∀ vs,o.data ≠ .fields vs)->h.FunFrames base l:=fun {l}=>by
 induction l with
 | nil=>exact fun _=>trivial
 | cons e l ih=>exact fun h=>⟨(h e (.head _)).1,(h e (.head _)).2,ih fun x m=>h x (.tail _ m)⟩
theorem Inv.aboveNone {mp:Mp} {cl:Cl} {L:Addr} {news:List (Addr×Obj)} (i:Inv S L mp cl w s news):S.base.get? L=none:=Option.eq_none_iff_forall_ne_some.mpr fun _ q=>absurd (Heap.lt_size q) (Nat.not_lt.mpr i.fr.above)
theorem At.frames (h:At F mp hp w s):s.heap.FunFrames S.base F.fr:=by
 obtain ⟨news,i⟩:=h.inv
 refine funFrames_of fun e he=>⟨(F.frs e he).1,?_⟩
 rcases (F.frs e he).2 with b | ⟨a,o,m,b,c⟩
 ·obtain ⟨o,es,ep,ho,hd,_⟩:=i.fr.ns
  exact ⟨F.L,o,b,i.aboveNone,ho,fun vs e=>by rw [hd] at e;cases e⟩
 ·obtain ⟨ob,k,sl,e⟩:=i.own _ (List.mem_append_left _ m)
  have y:=i.nw _ k
  have e:ob={ o with slots:=sl }:=e
  exact ⟨a,ob,b,y.2.2,y.1,e▸c⟩
theorem At.slots (h:At F mp hp w s) (hx:Heap.SlotsOnly (F.fr.filterMap (·.frame)) s.heap h'):At F mp hp w { s with heap:=h',toks:=tk }:=by
 obtain ⟨news,i⟩:=h.inv
 have key:∀ a∈F.fr.filterMap (·.frame),a=F.L\/∃ o,(a,Spc o)∈F.hid:=fun a m=>by
  obtain ⟨e,he,hf⟩:=List.mem_filterMap.mp m
  rcases (F.frs e he).2 with b | ⟨c,o,k,b,_⟩
  ·exact .inl (Option.some.inj (hf.symm.trans b))
  ·exact .inr ⟨o,Option.some.inj (hf.symm.trans b)▸k⟩
 have nl:F.L∉news.map (·.1):=fun m=>(keyMem m).elim fun _ z=>(i.nw _ z).2.1 rfl
 refine ⟨h.len,_,i.slots hx (fun p m z=>?_) fun a z=>?_⟩
 ·rcases key _ z with e | ⟨o,k⟩
  ·exact absurd (e▸i.has m) nl
  ·rw [nodupEq i.cnd m (List.mem_append_left _ k)]
   exact fun ob sl r=>r.elim fun _ e=>⟨sl,by rw [e]⟩
 ·rcases key a z with e | ⟨o,k⟩
  ·exact e▸⟨i.aboveNone,i.fzNone i.aboveNone nl⟩
  ·exact ⟨(i.own _ (List.mem_append_left _ k)).elim fun _ q=>(i.nw _ q.1).2.2,i.ap _ (List.mem_append_left _ k)⟩
end Mine
section
open Builtin Builtin.ObjectAttr
namespace Mine
variable {S:Sx} {F F':Fx S} {mp mp':Mp} {hp hp':Hp} {w w':Wd} {s s':Shared} {a ea T:Addr} {o:Obj} {P P':Value->Prop} {l l':Cl} {h':Heap} {tk:Tok} {fz:Fz} {told:Bs} {head:Value} {M:Model} {E:Value->Shared->Prop}
theorem At.perm (h:At (F.plus l) mp hp w s) (q:l.Perm l'):At (F.plus l') mp hp w s :=
 h.sub (fun _ m=>q.mem_iff.mpr m) ((q.map _).nodup_iff.mp (by have:=h.nd;rw [show (F.plus l).hid=l++F.hid from rfl,List.map_append,List.append_assoc] at this;exact (List.nodup_append.mp this).1))
abbrev toldDict (w:World) (b:Bs) (t u:Tok) (n:Nat):Obj:=dictOf [⟨PyData.keyHash w.params "told", .str "told" t,.bytes b.toArray u⟩] n
inductive IsX (S:Sx) (fz:Fz) (told:Bs) (head:Value):Obj->Prop
 | mk {de:Addr} {t u:Tok} {n:Nat} {vs:Array Value} {sl:Array (Option Value)}:fz de=some (toldDict S.w told t u n)->3 < vs.size->vs[1]?=some head->IsX S fz told head ⟨.ref S.cE,some de,.fields vs,sl⟩
inductive IsTb (P:Value->Prop):Obj->Prop
 | mk {c:Value} {dd:Option Addr} {ts:Array Value} {sl:Array (Option Value)} {x:Value}:3 < ts.size->ts[3]?=some x->P x->IsTb P ⟨c,dd,.fields ts,sl⟩
inductive Trace (P:Value->Prop):Value->Cl->Prop
 | no:Trace P .none []
 | at_ {T:Addr}:Trace P (.ref T) [(T,IsTb P)]
def Fly (F:Fx S) (P:Value->Prop) (fz:Fz) (told:Bs) (ea:Addr) (head:Value) (s:Shared):Prop:=∃ mp l,Trace P head l/\At (F.plus ((ea,IsX S fz told head)::l)) mp [] ⟨[],fz⟩ s
def Loose (F:Fx S) (x:Value):Prop:=x = .none\/x=rawInt F.L
def RX (F:Fx S) (fz:Fz) (told:Bs) (e:Value) (s:Shared):Prop:=∃ ea head,e = .ref ea/\Fly F (Loose F) fz told ea head s
theorem Fly.field1 (h:Fly F P fz told ea head s) {A:Around} {Q:Value->Shared->Prop} (q:Q head s):wpAny M A (field (.ref ea) 1) Q E s:=by
 obtain ⟨mp,l,_,ha⟩:=h
 obtain ⟨ob,h1,h2⟩:=ha.heldP (.head _)
 cases h2 with | mk e _ f=>exact wpAny_field h1 rfl f q
theorem Fly.set3 {v:Value} (h:Fly F P fz told ea (.ref T) s) (hf:P' v) {A:Around} {Q:Unit->Shared->Prop} (q:∀ s',Fly F P' fz told ea (.ref T) s'->Q () s'):wpAny M A (setField (.ref T) 3 v) Q E s:=by
 obtain ⟨mp,l,ht,ha⟩:=h
 cases ht
 have a0:=ha.perm (.swap _ _ _)
 obtain ⟨ob,h1,h2⟩:=a0.heldP (.head _)
 cases h2 with | mk g1 g2 g3 =>
 refine wpAny_setField h1 rfl g1 (q _ ⟨mp,_,.at_,(At.turn (P':=IsTb P') (tk:=s.toks) a0 (Heap.SameBut.update _ _ _).extBut (Heap.get?_update_self _ h1 (Obj.isFreed_of_fields (Obj.data_mapFields rfl _))) ?_).perm (.swap _ _ _)⟩)
 exact .mk (by rw [Array.size_setIfInBounds];exact g1) (Array.getElem?_setIfInBounds_self_of_lt g1) hf
theorem Fly.setFlight {f:Option Addr} (h:Fly F P fz told ea (.ref T) s) (hf:P' (f.elim .none fun f=>rawInt f)) {A:Around} {Q:Unit->Shared->Prop} (q:∀ s',Fly F P' fz told ea (.ref T) s'->Q () s'):wpAny M A (setFlight (.ref ea) f) Q E s:=by
 unfold PySem.setFlight
 refine wpAny_bind (h.field1 ?_)
 rw [if_pos (by rfl)]
 exact h.set3 hf q
theorem Fly.weaken (hp:∀ x,P x->P' x) (h:Fly F P fz told ea head s):Fly F P' fz told ea head s:=by
 obtain ⟨mp,l,ht,ha⟩:=h
 cases ht with
 | no=>exact ⟨mp,_,.no,ha⟩
 | at_ =>
  rename_i T
  have a0:=ha.perm (.swap _ _ _)
  obtain ⟨news,i⟩:=a0.inv
  refine ⟨mp,_,.at_,At.perm (l:=[(T,IsTb P'),(ea,IsX S fz told (.ref T))]) ⟨⟨a0.len.len,a0.nd,a0.len.dd⟩,news,i.conv rfl (fun p m=>?_) i.cnd⟩ (.swap _ _ _)⟩
  refine (List.mem_cons.mp m).elim (fun e=>e▸⟨_,.head _,fun o r=>?_⟩) fun m=>⟨p.2,.tail _ m,fun _ r=>r⟩
  cases r with | mk g1 g2 g3=>exact .mk g1 g2 (hp _ g3)
theorem Fly.entry (hd:∃ outer,F.fr=F.env::outer/\F.env.frame=some F.L) (b:Bool) (h:Fly F P fz told ea head s) {Q:Unit->Shared->Prop} (q:∀ T s',Fly F (·=rawInt F.L) fz told ea (.ref T) s'->Q () s') :
  wpAny M F.A (do setField (.ref ea) 1 (<- EntryCells.newEntry head (<- frameOf F.env) .none (rawInt F.L) .none (<- entryPlaceOf F.L b))) Q E s:=by
 obtain ⟨outer,hd1,hd2⟩:=hd
 obtain ⟨mp,l,ht,ha⟩:=h
 refine wpAny_bind (wpAny_frameOf_fun (base:=S.base) (outer:=outer) (L:=F.L) (by rw [F.stack,hd1]) (hd1▸At.frames (F:=F) ha.drop) hd2 fun h' hs=>?_)
 refine wpAny_bind (wpAny_entryPlaceOf fun pl hpl=>?_)
 have a1:=At.slots (tk:=s.toks) (At.sub (l':=[(ea,IsX S fz told head)]) ha (fun _ m=>List.mem_cons.mpr (.inl (List.mem_singleton.mp m))) (List.nodup_cons.mpr ⟨List.not_mem_nil,.nil⟩)) (hd1▸hs)
 unfold EntryCells.newEntry newFields
 refine wpAny_bind (wpAny_newObj_type ?_ (hpl.sizeOk5 _ _ _ _ _))
 have a2:=a1.hid (n:=h'.objs.size) rfl (o:=⟨.type "traceback", none,.fields ([head,.ref F.L,.none,rawInt F.L,.none]++(if pl.isEmpty then List.replicate 6 Value.none else pl)).toArray,#[]⟩)
 have a3:At (F.plus [(ea,IsX S fz told head),(h'.objs.size,Is _)]) mp [] ⟨[],fz⟩ _:=(show At (F.plus [(h'.objs.size,Is _),(ea,IsX S fz told head)]) mp [] ⟨[],fz⟩ _ from a2).perm (.swap _ _ _)
 obtain ⟨ob,g1,g2⟩:=a3.heldP (.head _)
 cases g2 with | @mk de t u k vs sl e n f =>
 have e1:=wpAny_setField (M:=M) (A:=F.A) (E:=E) (Q:=Q) (i:=1) (x := .ref h'.objs.size) g1 rfl (Nat.lt_trans (by decide) n)
 refine e1 (q h'.objs.size _ ⟨mp,_,.at_,?_⟩)
 have a4:=(At.turn (P':=IsX S fz told (.ref h'.objs.size)) (tk:=s.toks) a3 (Heap.SameBut.update _ ea (Obj.mapFields (·.setIfInBounds 1 (.ref h'.objs.size)))).extBut (Heap.get?_update_self _ g1 (Obj.isFreed_of_fields (Obj.data_mapFields rfl _))) (.mk (vs:=vs.setIfInBounds 1 (.ref h'.objs.size)) e (by rw [Array.size_setIfInBounds];exact n) (Array.getElem?_setIfInBounds_self_of_lt (Nat.lt_trans (by decide) n)))).perm (.swap _ _ _)
 obtain ⟨news,i⟩:=a4.inv
 refine At.perm (l:=[(h'.objs.size,IsTb (·=rawInt F.L)),(ea,IsX S fz told (.ref h'.objs.size))]) ⟨⟨a4.len.len,a4.nd,a4.len.dd⟩,news,i.conv rfl (fun p m=>?_) i.cnd⟩ (.swap _ _ _)
 refine (List.mem_cons.mp m).elim (fun e=>e▸⟨_,.head _,fun o r=>?_⟩) fun m=>⟨p.2,.tail _ m,fun _ r=>r⟩
 have r:o=_:=r
 subst r
 exact .mk (x:=rawInt F.L) (by rw [List.size_toArray,List.length_append];exact Nat.lt_of_lt_of_le (m:=5) (by decide) (Nat.le_add_right _ _)) (by rw [List.getElem?_toArray];rfl) rfl
theorem Fly.note (hd:∃ outer,F.fr=F.env::outer/\F.env.frame=some F.L) (h:Fly F (Loose F) fz told ea head s) {Q:Unit->Shared->Prop} (q:∀ T s',Fly F (·=rawInt F.L) fz told ea (.ref T) s'->Q () s'):wpAny M F.A (noteFrame (.ref ea) F.env) Q E s:=by
 unfold PySem.noteFrame
 rw [hd.elim fun _ h=>h.2]
 dsimp only
 refine wpAny_bind (h.field1 ?_)
 obtain ⟨mp,l,ht,ha⟩:=id h
 cases ht with
 | no=>rw [if_neg (by rw [bne_self_eq_false];exact Bool.false_ne_true)];exact h.entry hd false q
 | at_ =>
  rename_i T
  refine wpAny_ite_split (fun _=>?_) fun hne=>absurd rfl hne
  obtain ⟨ob,g1,g2⟩:=ha.heldP (.tail _ (.head _))
  cases g2 with | mk g2 g3 g4 =>
  refine wpAny_bind (wpAny_field g1 rfl g3 ?_)
  refine wpAny_ite_split (fun k=>?_) fun k=>?_
  ·refine wpAny_pure (q T s ⟨mp,_,.at_,?_⟩)
   have a0:=ha.perm (.swap _ _ _)
   obtain ⟨news,i⟩:=a0.inv
   refine At.perm (l:=[(T,IsTb (·=rawInt F.L)),(ea,IsX S fz told (.ref T))]) ⟨⟨a0.len.len,a0.nd,a0.len.dd⟩,news,i.conv' rfl (fun p m=>?_) i.cnd⟩ (.swap _ _ _)
   refine (List.mem_cons.mp m).elim (fun e=>e▸⟨_,.head _,fun o ho _=>?_⟩) fun m=>⟨p.2,.tail _ m,fun _ _ r=>r⟩
   cases g1.symm.trans ho
   exact .mk g2 g3 (beq_iff_eq.mp k)
  ·exact wpAny_bind (h.set3 (P':=fun _=>True) trivial fun s' h'=>h'.entry hd _ q)
end Mine
end
namespace Mine
noncomputable def glL:List (String×V):=[
 ("_wall", .fn 0),("GRAIN", .d (.int 1000000)),("LEAST_INT", .d (.int (-2147483648))),("MOST_INT", .d (.int 2147483647)),
 ("WHITE", .d (.bytes [0,9,10,12,13,32])),("DELIMITERS", .d (.bytes [40,41,60,62,91,93,123,125,47,37])),("LINE_FEED", .d (.int 10)),("CARRIAGE_RETURN", .d (.int 13)),
 ("is_white", .fn 2),("is_delimiter", .fn 3),("is_line_end", .fn 4),("is_octal", .fn 5),
 ("hex_value", .fn 6),("digit_value", .fn 7),("decimal_octets", .fn 8),("INTEGER", .d (.str 63)),
 ("REAL", .d (.str 64)),("MOST_REAL", .d (.int 1000000000000000000000)),("PLACES", .d (.int 6)),("WORD_SIZE", .d (.int 4294967296)),
 ("MOST_FIGURES", .d (.int 6)),("divided", .fn 9),("is_integer_size", .fn 10),("checked_real", .fn 11),
 ("real_of", .fn 12),("whole_number", .fn 13),("figures_value", .fn 14),("read_radix", .fn 15),
 ("signed_word", .fn 16),("read_exponent", .fn 17),("number_scaled", .fn 18),("split_at", .fn 19),
 ("read_real", .fn 20),("read_number", .fn 21),("number_octets", .fn 22),("READ_ONLY", .d (.int 2)),
 ("UNLIMITED", .d (.int 3)),("Thing", .cls 5),("Text", .cls 6),("Row", .cls 7),
 ("Span", .cls 8),("integer", .fn 27),("real", .fn 28),("name", .fn 29),
 ("null", .fn 30),("of_string", .fn 31),("of_row", .fn 32),("of_packed", .fn 33),
 ("is_number", .fn 34),("is_in_array", .fn 35),("is_proc", .fn 36),("body_of", .fn 37),
 ("is_local", .fn 38),("octets_of_span", .fn 39),("things_of_span", .fn 40),("SCAN_END", .d (.int 4)),
 ("SCAN_FORM_FEED", .d (.int 12)),("SCAN_MOST_NAME", .d (.int 127)),("SCAN_BASE", .d (.int 85)),("SCAN_FIRST", .d (.int 33)),
 ("SCAN_OPEN", .d (.int 40)),("SCAN_CLOSE", .d (.int 41)),("SCAN_SLASH", .d (.int 47)),("SCAN_LESS", .d (.int 60)),
 ("SCAN_MORE", .d (.int 62)),("SCAN_BACKSLASH", .d (.int 92)),("SCAN_ROW_OPEN", .d (.int 91)),("SCAN_ROW_CLOSE", .d (.int 93)),
 ("SCAN_PROC_OPEN", .d (.int 123)),("SCAN_PROC_CLOSE", .d (.int 125)),("SCAN_TILDE", .d (.int 126)),("SCAN_NOUGHTS", .d (.int 122)),
 ("SCAN_PERCENT", .d (.int 37)),("OctetSource", .cls 0),("is_blank", .fn 45),("scan_skip_feed", .fn 46),
 ("scan_line", .fn 47),("scan_first", .fn 48),("scan_word", .fn 49),("scan_sure", .fn 50),
 ("scan_octal", .fn 51),("scan_escape", .fn 52),("scan_string", .fn 53),("scan_hex", .fn 54),
 ("scan_group", .fn 55),("scan_base85", .fn 56),("scan_name", .fn 57),("scan_regular", .fn 58),
 ("scan_at_once", .fn 59),("Scanner", .cls 1),("scan_things", .fn 70),("PRINT_DEPTH", .d (.int 20)),
 ("PRINT_WIDTH", .d (.int 72)),("PRINT_SIGNS", .d (.tup [.bytes [91],.bytes [93],.bytes [60,60],.bytes [62,62]])),("print_escape", .fn 71),("print_string", .fn 72),
 ("source_token", .fn 73),("pretty_token", .fn 74),("PrettyRows", .cls 2),("pretty_things", .fn 79),
 ("pretty", .fn 80),("ITEM_COST", .d (.int 8)),("ENTRY_COST", .d (.int 16)),("MOST_COST", .d (.int 16777216)),
 ("Limits", .cls 4),("Memory", .cls 3),("memory_check_many", .fn 114),("memory_put_back", .fn 115),
 ("_law_names", .d (.tup [.bytes [97,100,100],.bytes [109,111,118,101,116,111],.bytes [97,46,98],.bytes [49,97],.bytes [45],.bytes [36,122],.bytes [115,101,116,114,103,98,99,111,108,111,114,97,110,100,109,111,114,101],.bytes [120]])),("_law_texts", .d (.tup [.bytes [],.bytes [97,41,98],.bytes [120,40,121,41,122],.bytes [116,119,111,32,119,111,114,100,115],.bytes [92],.bytes [10,9],.bytes [0,255,57],.bytes [97,32,114,97,116,104,101,114,32,108,111,110,103,32,116,101,120,116,32,111,102,32,109,97,110,121,32,115,105,103,110,115]])),("_law_marks", .d (.tup [.bytes [91],.bytes [93],.bytes [60,60],.bytes [62,62]])),("_law_deck", .fn 116),
 ("_law_draw", .fn 117),("_law_pick", .fn 118),("_law_number", .fn 119),("_law_escaped", .fn 120),
 ("_law_string", .fn 121),("_law_gap", .fn 122),("_law_token", .fn 123),("_law_words", .fn 124),
 ("_law_end", .fn 125),("_law_real", .fn 126),("_law_bare", .fn 127),("_law_octet", .fn 128),
 ("_law_text", .fn 129),("_law_read", .fn 130),("_law_refused", .fn 131),("law", .fn 132),
 ("len", .bi 0),("bytes", .bi 1),("bytearray", .bi 2),("abs", .bi 3),
 ("range", .bi 4),("enumerate", .bi 5),("isinstance", .bi 6),("int", .bi 7),
 ("list", .bi 8),("min", .bi 9)]
noncomputable def glV (j:Nat):V:=(glL.getD j ("", .fn 0)).2
noncomputable def glN (j:Nat):Str:=Str.ofString (glL.getD j ("", .fn 0)).1
def GlobN (S:Sx):Prop:=∀ j < glL.length,∃ cv,Rel S ⟨[],S.fz0⟩ (glV j) cv/\(nsIn S.K mainGlobals (glN j)=some (some cv)\/(nsIn S.K mainGlobals (glN j)=some none/\bootBuiltins (glN j)=some cv/\glN j ≠ "__name__"))
end Mine
namespace Mine.C
structure Fi where
 name:Str
 qual:Str
 params:Arguments
 body:List Stmt
 scope:Scope
structure FnAt (S:Sx) (k:Nat) (f:Fi) (fd:FuncData):Prop where
 look:∃ oc od osl,S.K.lookup (S.fA k)=some ⟨oc,od,.func fd,osl⟩
 code:codeIn S.K fd.code f.qual=true
 qual:fd.qualname=f.qual
 params:fd.params=f.params
 body:fd.body = .stmts f.body
 scope:fd.scope=f.scope
 globals:fd.globals=mainGlobals
 builtins:fd.builtins=builtinsNs
 closure:fd.closure=[]
noncomputable def Fi.par (f:Fi):List Str:=f.params.args.map (·.arg)
noncomputable def Fi.names (f:Fi):List Str:=f.par++(f.scope.names.filter fun x=>(x.2 == .local||x.2 == .cell) && !f.par.contains x.1).map (·.1)
noncomputable def Fi.p1 (f:Fi) (m:Nat):List Str:=f.par.take (f.par.length - m)
noncomputable def Fi.p2 (f:Fi) (m n:Nat):List Str:=(f.par.drop (f.par.length - m)).take (n - (f.par.length - m))
def FnOk (f:Fi) (m n:Nat):Prop:=f.params.posonlyargs.isEmpty=true/\f.params.vararg.isNone=true/\f.params.kwonlyargs.isEmpty=true/\f.params.kwarg.isNone=true/\f.par=f.p1 m++f.p2 m n++f.par.drop n/\(f.p1 m++f.p2 m n).length=n/\m=(f.p2 m n).length+(f.par.drop n).length /\
 f.scope.isCoroutine=false/\f.scope.isGenerator=false/\f.scope.kind = .function/\(∀ x∈f.scope.names,x.2 ≠ .cell)/\f.names.Nodup/\∀ x∈f.par,f.scope.names.lookup x=some .local
noncomputable instance {f:Fi} {m n:Nat}:Decidable (FnOk f m n):=inferInstanceAs (Decidable (_/\_/\_/\_/\_/\_/\_/\_/\_/\_/\_/\_/\_))
def DefsAt (S:Sx) (dV:Value) (dl:List Value):Prop:=(dV = .none/\dl=[])\/∃ a o n,dV = .ref a/\S.K.lookup a=some o/\o.data = .seq dl.toArray n
end Mine.C
namespace Mine
def TellAt (S:Sx):Prop:=∃ (f:C.Fi) (fd:FuncData) (dl:List Value) (p1 p2 p3 p4:Pos),C.FnAt S 1 f fd/\C.DefsAt S fd.defaults dl/\dl.length=1/\C.FnOk f 1 2/\f.par=[("self" : Str),("told" : Str)]/\f.body=[.Assign [.Attribute (.Name "self" p1) "told" p2] (.Name "told" p3) p4]
def LvlAt (S:Sx):Prop:=∃ (f:C.Fi) (fd:FuncData) (p1 p2 p3 p4 p5:Pos),C.FnAt S 84 f fd/\C.DefsAt S fd.defaults []/\C.FnOk f 0 1/\f.names=[("self" : Str)]/\f.scope.names.lookup ("len" : Str)=some .globalImplicit/\f.body=[.Return (some (.Call (.Name "len" p1) [.Attribute (.Name "self" p2) "saves" p3] [] p4)) p5]
def GlobOk (S:Sx):Prop:=GlobN S/\TellAt S/\LvlAt S/\findIn S.K (.ref S.cE) "__getattr__" = some none
end Mine
namespace Mine.C
structure Cx where
 names:List Str
 sc:Scope
abbrev Loc:=List (Option V)
abbrev CallP:=Nat->V->List V->Hp->(V->Hp->Prop)->(Bs->Prop)->Prop
abbrev EW:=Nat->CallP->Loc->Hp->(V->Hp->Prop)->(Bs->Prop)->Prop
section
variable {S:Sx}
def LocRel (F:Fx S) (w:Wd) (loc:Loc) (mp:Mp):Prop:=∀ (i:Nat) (v:V),loc[i]?=some (some v)->∃ x,F.names[i]?=some x/\((F.env.kindOf x=some .local/\∃ cv,mp x=some cv/\Rel S w v cv)\/((F.env.kindOf x=some .cell\/F.env.kindOf x=some .free)/\∃ c,F.env.cells.lookup x=some c/\Rel S w v (.ref c)))
theorem LocRel.mono {F:Fx S} {w w':Wd} (h:w.le w') {loc:Loc} {mp:Mp} (l:LocRel F w loc mp):LocRel F w' loc mp:=fun i v e=>(l i v e).imp fun _ q=>⟨q.1,q.2.imp (fun q=>⟨q.1,q.2.imp fun _ q=>⟨q.1,q.2.mono h⟩⟩) fun q=>⟨q.1,q.2.imp fun _ q=>⟨q.1,q.2.mono h⟩⟩⟩
inductive PostE (F:Fx S) (mp:Mp) (w:Wd) (Q:V->Hp->Prop) (cv:Value) (s:Shared):Prop
 | mk {w':Wd} {v:V} {hp:Hp}:w.le w'->Rel S w' v cv->At F mp hp w' s->Q v hp->PostE F mp w Q cv s
inductive PostX (F:Fx S) (w:Wd) (X:Bs->Prop) (e:Value) (s:Shared):Prop
 | mk {fz:Fz} {told:Bs}:(∀ a o,w.fz a=some o->fz a=some o)->RX F fz told e s->X told->PostX F w X e s
theorem PostX.weak {F:Fx S} {w w':Wd} (h:w.le w') {X:Bs->Prop} {e:Value} {s:Shared} (p:PostX F w' X e s):PostX F w X e s:=p.rec fun l r x => .mk (fun a o e=>l a o (h.fz a o e)) r x
structure CallOk (S:Sx) (d:Nat) (f:V) (vs:List V) (hp:Hp) (Q:V->Hp->Prop) (X:Bs->Prop):Prop where
 run:∀ {F:Fx S} {mp:Mp} {w:Wd} {s:Shared} {cf:Value} {cvs:List Value},d<=F.d->At F mp hp w s->Rel S w f cf->All2 (Rel S w) vs cvs ->
 wpAny (model S.prog S.w) F.A (call cf cvs) (PostE F mp w Q) (PostX F w X) s
structure Rd (cx:Cx) (F:Fx S) (d:Nat) (loc:Loc) (mp:Mp) (hp:Hp) (w:Wd) (s:Shared):Prop where
 sc:F.env.scope=cx.sc
 names:F.names=cx.names
 dp:d<=F.d
 at_:At F mp hp w s
 lr:LocRel F w loc mp
 glob:GlobOk S
variable {cx:Cx} {F:Fx S} {d:Nat} {loc:Loc} {mp:Mp} {hp hp':Hp} {w w' w0:Wd} {s s':Shared} {X:Bs->Prop}
theorem Rd.next (R:Rd cx F d loc mp hp w s) (l:w.le w') (a:At F mp hp' w' s'):Rd cx F d loc mp hp' w' s':=⟨R.sc,R.names,R.dp,a,R.lr.mono l,R.glob⟩
theorem Rd.kind (R:Rd cx F d loc mp hp w s) {x:Str} {k:NameKind} (h:cx.sc.names.lookup x=some k):F.env.kindOf x=some k:=by unfold Env.kindOf;rw [R.sc];exact h
variable (S) in
def EvOk (cx:Cx) (x:PySem.Expr) (W:EW):Prop:=∀ (F:Fx S) (d:Nat) (loc:Loc) (mp:Mp) (hp:Hp) (w:Wd) (s:Shared) (Q:V->Hp->Prop) (X:Bs->Prop),Rd cx F d loc mp hp w s->W d (CallOk S) loc hp Q X ->
 wpAny (model S.prog S.w) F.A (eval x F.env) (PostE F mp w Q) (PostX F w X) s
theorem EvOk.on {x:PySem.Expr} {W:EW} (h:EvOk S cx x W) (R:Rd cx F d loc mp hp w s) {Q:V->Hp->Prop} (hw:W d (CallOk S) loc hp Q X) (l:w0.le w) {P:Value->Shared->Prop}
  (k:∀ {w' v cv hp' s'},w0.le w'->w.le w'->Rel S w' v cv->Rd cx F d loc mp hp' w' s'->Q v hp'->P cv s'):wpAny (model S.prog S.w) F.A (eval x F.env) P (PostX F w0 X) s :=
 wpAny_mono (h _ _ _ _ _ _ _ _ _ R hw) (fun _ _ p=>p.rec fun l1 r a q=>k (l.trans l1) l1 r (R.next l1 a) q) fun _ _ p=>p.weak l
structure Ex where
 chk:Cx->PySem.Expr->Bool
 W:EW
 ok:∀ (S:Sx) (cx:Cx) (x:PySem.Expr),chk cx x=true->EvOk S cx x W
theorem Ex.on (e:Ex) {x:PySem.Expr} (hc:e.chk cx x=true) (R:Rd cx F d loc mp hp w s) {Q:V->Hp->Prop} (hw:e.W d (CallOk S) loc hp Q X) (l:w0.le w) {P:Value->Shared->Prop}
  (k:∀ {w' v cv hp' s'},w0.le w'->w.le w'->Rel S w' v cv->Rd cx F d loc mp hp' w' s'->Q v hp'->P cv s'):wpAny (model S.prog S.w) F.A (eval x F.env) P (PostX F w0 X) s:=EvOk.on (e.ok S cx x hc) R hw l k
end
abbrev TW:=Nat->CallP->Loc->Hp->(Bool->Hp->Prop)->(Bs->Prop)->Prop
section
variable {S:Sx}
inductive PostT (F:Fx S) (mp:Mp) (w:Wd) (Q:Bool->Hp->Prop) (b:Bool) (s:Shared):Prop
 | mk {w':Wd} {hp:Hp}:w.le w'->At F mp hp w' s->Q b hp->PostT F mp w Q b s
variable (S) in
def TsOk (cx:Cx) (x:PySem.Expr) (W:TW):Prop:=∀ (F:Fx S) (d:Nat) (loc:Loc) (mp:Mp) (hp:Hp) (w:Wd) (s:Shared) (Q:Bool->Hp->Prop) (X:Bs->Prop),Rd cx F d loc mp hp w s->W d (CallOk S) loc hp Q X ->
 wpAny (model S.prog S.w) F.A (PySem.isTrue x F.env (eval x F.env)) (PostT F mp w Q) (PostX F w X) s
structure Tx where
 chk:Cx->PySem.Expr->Bool
 chkE:Cx->PySem.Expr->Bool
 W:TW
 ok:∀ (S:Sx) (cx:Cx) (x:PySem.Expr),chk cx x=true->TsOk S cx x W
 okE:∀ (S:Sx) (cx:Cx) (x:PySem.Expr),chkE cx x=true->EvOk S cx x fun d C loc hp Q X=>W d C loc hp (fun b=>Q (.d (.bool b))) X
variable {cx:Cx} {F:Fx S} {d:Nat} {loc:Loc} {mp:Mp} {hp:Hp} {w w0:Wd} {s:Shared} {X:Bs->Prop}
theorem Tx.on (t:Tx) {x:PySem.Expr} (hc:t.chk cx x=true) (R:Rd cx F d loc mp hp w s) {Q:Bool->Hp->Prop} (hw:t.W d (CallOk S) loc hp Q X) (l:w0.le w) {P:Bool->Shared->Prop}
  (k:∀ {w' b hp' s'},w0.le w'->w.le w'->Rd cx F d loc mp hp' w' s'->Q b hp'->P b s'):wpAny (model S.prog S.w) F.A (PySem.isTrue x F.env (eval x F.env)) P (PostX F w0 X) s :=
 wpAny_mono (t.ok S cx x hc _ _ _ _ _ _ _ _ _ R hw) (fun _ _ p=>p.rec fun l1 a q=>k (l.trans l1) l1 (R.next l1 a) q) fun _ _ p=>p.weak l
end
theorem no {p:Prop} (h:false=true):p:=absurd h Bool.false_ne_true
section
variable {x:PySem.Expr} {P:PySem.Expr->Prop}
noncomputable def onConst (x:PySem.Expr) (k:Const->Nat->Pos->Bool):Bool:=x.casesOn (fun a a a=>false) (fun a a a=>false) (fun a a a a=>false) (fun a a a=>false) (fun a a a a=>false) (fun a a a a=>false) (fun a a a=>false) (fun a a a=>false) (fun a a a a=>false) (fun a a a a=>false) (fun a a a a a=>false) (fun a a a a=>false) (fun a a=>false) (fun a a=>false) (fun a a=>false) (fun a a a a=>false) (fun a a a a=>false) (fun a a a a=>false) (fun a a=>false) k (fun a a a=>false) (fun a a a=>false) (fun a a=>false) (fun a a=>false) (fun a a=>false) (fun a a a=>false) (fun a a a a=>false)
@[elab_as_elim] theorem onConst_elim {k:Const->Nat->Pos->Bool} (h:onConst x k=true) (f:∀ a b c,k a b c=true->P (.Constant a b c)):P x :=
 PySem.Expr.casesOn (motive_1:=fun x=>onConst x k=true->P x) x (fun a a a (h:false=true)=>no h) (fun a a a (h:false=true)=>no h) (fun a a a a (h:false=true)=>no h) (fun a a a (h:false=true)=>no h) (fun a a a a (h:false=true)=>no h) (fun a a a a (h:false=true)=>no h) (fun a a a (h:false=true)=>no h) (fun a a a (h:false=true)=>no h) (fun a a a a (h:false=true)=>no h) (fun a a a a (h:false=true)=>no h) (fun a a a a a (h:false=true)=>no h) (fun a a a a (h:false=true)=>no h) (fun a a (h:false=true)=>no h) (fun a a (h:false=true)=>no h) (fun a a (h:false=true)=>no h) (fun a a a a (h:false=true)=>no h) (fun a a a a (h:false=true)=>no h) (fun a a a a (h:false=true)=>no h) (fun a a (h:false=true)=>no h) f (fun a a a (h:false=true)=>no h) (fun a a a (h:false=true)=>no h) (fun a a (h:false=true)=>no h) (fun a a (h:false=true)=>no h) (fun a a (h:false=true)=>no h) (fun a a a (h:false=true)=>no h) (fun a a a a (h:false=true)=>no h) h
noncomputable def onName (x:PySem.Expr) (k:Str->Pos->Bool):Bool:=x.casesOn (fun a a a=>false) (fun a a a=>false) (fun a a a a=>false) (fun a a a=>false) (fun a a a a=>false) (fun a a a a=>false) (fun a a a=>false) (fun a a a=>false) (fun a a a a=>false) (fun a a a a=>false) (fun a a a a a=>false) (fun a a a a=>false) (fun a a=>false) (fun a a=>false) (fun a a=>false) (fun a a a a=>false) (fun a a a a=>false) (fun a a a a=>false) (fun a a=>false) (fun a a a=>false) (fun a a a=>false) (fun a a a=>false) (fun a a=>false) k (fun a a=>false) (fun a a a=>false) (fun a a a a=>false)
@[elab_as_elim] theorem onName_elim {k:Str->Pos->Bool} (h:onName x k=true) (f:∀ a b,k a b=true->P (.Name a b)):P x :=
 PySem.Expr.casesOn (motive_1:=fun x=>onName x k=true->P x) x (fun a a a (h:false=true)=>no h) (fun a a a (h:false=true)=>no h) (fun a a a a (h:false=true)=>no h) (fun a a a (h:false=true)=>no h) (fun a a a a (h:false=true)=>no h) (fun a a a a (h:false=true)=>no h) (fun a a a (h:false=true)=>no h) (fun a a a (h:false=true)=>no h) (fun a a a a (h:false=true)=>no h) (fun a a a a (h:false=true)=>no h) (fun a a a a a (h:false=true)=>no h) (fun a a a a (h:false=true)=>no h) (fun a a (h:false=true)=>no h) (fun a a (h:false=true)=>no h) (fun a a (h:false=true)=>no h) (fun a a a a (h:false=true)=>no h) (fun a a a a (h:false=true)=>no h) (fun a a a a (h:false=true)=>no h) (fun a a (h:false=true)=>no h) (fun a a a (h:false=true)=>no h) (fun a a a (h:false=true)=>no h) (fun a a a (h:false=true)=>no h) (fun a a (h:false=true)=>no h) f (fun a a (h:false=true)=>no h) (fun a a a (h:false=true)=>no h) (fun a a a a (h:false=true)=>no h) h
noncomputable def onBin (x:PySem.Expr) (k:PySem.Expr->Operator->PySem.Expr->Pos->Bool):Bool:=x.casesOn (fun a a a=>false) (fun a a a=>false) k (fun a a a=>false) (fun a a a a=>false) (fun a a a a=>false) (fun a a a=>false) (fun a a a=>false) (fun a a a a=>false) (fun a a a a=>false) (fun a a a a a=>false) (fun a a a a=>false) (fun a a=>false) (fun a a=>false) (fun a a=>false) (fun a a a a=>false) (fun a a a a=>false) (fun a a a a=>false) (fun a a=>false) (fun a a a=>false) (fun a a a=>false) (fun a a a=>false) (fun a a=>false) (fun a a=>false) (fun a a=>false) (fun a a a=>false) (fun a a a a=>false)
@[elab_as_elim] theorem onBin_elim {k:PySem.Expr->Operator->PySem.Expr->Pos->Bool} (h:onBin x k=true) (f:∀ a b c d,k a b c d=true->P (.BinOp a b c d)):P x :=
 PySem.Expr.casesOn (motive_1:=fun x=>onBin x k=true->P x) x (fun a a a (h:false=true)=>no h) (fun a a a (h:false=true)=>no h) f (fun a a a (h:false=true)=>no h) (fun a a a a (h:false=true)=>no h) (fun a a a a (h:false=true)=>no h) (fun a a a (h:false=true)=>no h) (fun a a a (h:false=true)=>no h) (fun a a a a (h:false=true)=>no h) (fun a a a a (h:false=true)=>no h) (fun a a a a a (h:false=true)=>no h) (fun a a a a (h:false=true)=>no h) (fun a a (h:false=true)=>no h) (fun a a (h:false=true)=>no h) (fun a a (h:false=true)=>no h) (fun a a a a (h:false=true)=>no h) (fun a a a a (h:false=true)=>no h) (fun a a a a (h:false=true)=>no h) (fun a a (h:false=true)=>no h) (fun a a a (h:false=true)=>no h) (fun a a a (h:false=true)=>no h) (fun a a a (h:false=true)=>no h) (fun a a (h:false=true)=>no h) (fun a a (h:false=true)=>no h) (fun a a (h:false=true)=>no h) (fun a a a (h:false=true)=>no h) (fun a a a a (h:false=true)=>no h) h
noncomputable def onUn (x:PySem.Expr) (k:UnaryOp->PySem.Expr->Pos->Bool):Bool:=x.casesOn (fun a a a=>false) (fun a a a=>false) (fun a a a a=>false) k (fun a a a a=>false) (fun a a a a=>false) (fun a a a=>false) (fun a a a=>false) (fun a a a a=>false) (fun a a a a=>false) (fun a a a a a=>false) (fun a a a a=>false) (fun a a=>false) (fun a a=>false) (fun a a=>false) (fun a a a a=>false) (fun a a a a=>false) (fun a a a a=>false) (fun a a=>false) (fun a a a=>false) (fun a a a=>false) (fun a a a=>false) (fun a a=>false) (fun a a=>false) (fun a a=>false) (fun a a a=>false) (fun a a a a=>false)
@[elab_as_elim] theorem onUn_elim {k:UnaryOp->PySem.Expr->Pos->Bool} (h:onUn x k=true) (f:∀ a b c,k a b c=true->P (.UnaryOp a b c)):P x :=
 PySem.Expr.casesOn (motive_1:=fun x=>onUn x k=true->P x) x (fun a a a (h:false=true)=>no h) (fun a a a (h:false=true)=>no h) (fun a a a a (h:false=true)=>no h) f (fun a a a a (h:false=true)=>no h) (fun a a a a (h:false=true)=>no h) (fun a a a (h:false=true)=>no h) (fun a a a (h:false=true)=>no h) (fun a a a a (h:false=true)=>no h) (fun a a a a (h:false=true)=>no h) (fun a a a a a (h:false=true)=>no h) (fun a a a a (h:false=true)=>no h) (fun a a (h:false=true)=>no h) (fun a a (h:false=true)=>no h) (fun a a (h:false=true)=>no h) (fun a a a a (h:false=true)=>no h) (fun a a a a (h:false=true)=>no h) (fun a a a a (h:false=true)=>no h) (fun a a (h:false=true)=>no h) (fun a a a (h:false=true)=>no h) (fun a a a (h:false=true)=>no h) (fun a a a (h:false=true)=>no h) (fun a a (h:false=true)=>no h) (fun a a (h:false=true)=>no h) (fun a a (h:false=true)=>no h) (fun a a a (h:false=true)=>no h) (fun a a a a (h:false=true)=>no h) h
noncomputable def onIf (x:PySem.Expr) (k:PySem.Expr->PySem.Expr->PySem.Expr->Pos->Bool):Bool:=x.casesOn (fun a a a=>false) (fun a a a=>false) (fun a a a a=>false) (fun a a a=>false) (fun a a a a=>false) k (fun a a a=>false) (fun a a a=>false) (fun a a a a=>false) (fun a a a a=>false) (fun a a a a a=>false) (fun a a a a=>false) (fun a a=>false) (fun a a=>false) (fun a a=>false) (fun a a a a=>false) (fun a a a a=>false) (fun a a a a=>false) (fun a a=>false) (fun a a a=>false) (fun a a a=>false) (fun a a a=>false) (fun a a=>false) (fun a a=>false) (fun a a=>false) (fun a a a=>false) (fun a a a a=>false)
@[elab_as_elim] theorem onIf_elim {k:PySem.Expr->PySem.Expr->PySem.Expr->Pos->Bool} (h:onIf x k=true) (f:∀ a b c d,k a b c d=true->P (.IfExp a b c d)):P x :=
 PySem.Expr.casesOn (motive_1:=fun x=>onIf x k=true->P x) x (fun a a a (h:false=true)=>no h) (fun a a a (h:false=true)=>no h) (fun a a a a (h:false=true)=>no h) (fun a a a (h:false=true)=>no h) (fun a a a a (h:false=true)=>no h) f (fun a a a (h:false=true)=>no h) (fun a a a (h:false=true)=>no h) (fun a a a a (h:false=true)=>no h) (fun a a a a (h:false=true)=>no h) (fun a a a a a (h:false=true)=>no h) (fun a a a a (h:false=true)=>no h) (fun a a (h:false=true)=>no h) (fun a a (h:false=true)=>no h) (fun a a (h:false=true)=>no h) (fun a a a a (h:false=true)=>no h) (fun a a a a (h:false=true)=>no h) (fun a a a a (h:false=true)=>no h) (fun a a (h:false=true)=>no h) (fun a a a (h:false=true)=>no h) (fun a a a (h:false=true)=>no h) (fun a a a (h:false=true)=>no h) (fun a a (h:false=true)=>no h) (fun a a (h:false=true)=>no h) (fun a a (h:false=true)=>no h) (fun a a a (h:false=true)=>no h) (fun a a a a (h:false=true)=>no h) h
noncomputable def onBool (x:PySem.Expr) (k:BoolOp->(List PySem.Expr)->Pos->Bool):Bool:=x.casesOn k (fun a a a=>false) (fun a a a a=>false) (fun a a a=>false) (fun a a a a=>false) (fun a a a a=>false) (fun a a a=>false) (fun a a a=>false) (fun a a a a=>false) (fun a a a a=>false) (fun a a a a a=>false) (fun a a a a=>false) (fun a a=>false) (fun a a=>false) (fun a a=>false) (fun a a a a=>false) (fun a a a a=>false) (fun a a a a=>false) (fun a a=>false) (fun a a a=>false) (fun a a a=>false) (fun a a a=>false) (fun a a=>false) (fun a a=>false) (fun a a=>false) (fun a a a=>false) (fun a a a a=>false)
@[elab_as_elim] theorem onBool_elim {k:BoolOp->(List PySem.Expr)->Pos->Bool} (h:onBool x k=true) (f:∀ a b c,k a b c=true->P (.BoolOp a b c)):P x :=
 PySem.Expr.casesOn (motive_1:=fun x=>onBool x k=true->P x) x f (fun a a a (h:false=true)=>no h) (fun a a a a (h:false=true)=>no h) (fun a a a (h:false=true)=>no h) (fun a a a a (h:false=true)=>no h) (fun a a a a (h:false=true)=>no h) (fun a a a (h:false=true)=>no h) (fun a a a (h:false=true)=>no h) (fun a a a a (h:false=true)=>no h) (fun a a a a (h:false=true)=>no h) (fun a a a a a (h:false=true)=>no h) (fun a a a a (h:false=true)=>no h) (fun a a (h:false=true)=>no h) (fun a a (h:false=true)=>no h) (fun a a (h:false=true)=>no h) (fun a a a a (h:false=true)=>no h) (fun a a a a (h:false=true)=>no h) (fun a a a a (h:false=true)=>no h) (fun a a (h:false=true)=>no h) (fun a a a (h:false=true)=>no h) (fun a a a (h:false=true)=>no h) (fun a a a (h:false=true)=>no h) (fun a a (h:false=true)=>no h) (fun a a (h:false=true)=>no h) (fun a a (h:false=true)=>no h) (fun a a a (h:false=true)=>no h) (fun a a a a (h:false=true)=>no h) h
noncomputable def onCmp (x:PySem.Expr) (k:PySem.Expr->List CmpOp->(List PySem.Expr)->Pos->Bool):Bool:=x.casesOn (fun a a a=>false) (fun a a a=>false) (fun a a a a=>false) (fun a a a=>false) (fun a a a a=>false) (fun a a a a=>false) (fun a a a=>false) (fun a a a=>false) (fun a a a a=>false) (fun a a a a=>false) (fun a a a a a=>false) (fun a a a a=>false) (fun a a=>false) (fun a a=>false) (fun a a=>false) k (fun a a a a=>false) (fun a a a a=>false) (fun a a=>false) (fun a a a=>false) (fun a a a=>false) (fun a a a=>false) (fun a a=>false) (fun a a=>false) (fun a a=>false) (fun a a a=>false) (fun a a a a=>false)
@[elab_as_elim] theorem onCmp_elim {k:PySem.Expr->List CmpOp->(List PySem.Expr)->Pos->Bool} (h:onCmp x k=true) (f:∀ a b c d,k a b c d=true->P (.Compare a b c d)):P x :=
 PySem.Expr.casesOn (motive_1:=fun x=>onCmp x k=true->P x) x (fun a a a (h:false=true)=>no h) (fun a a a (h:false=true)=>no h) (fun a a a a (h:false=true)=>no h) (fun a a a (h:false=true)=>no h) (fun a a a a (h:false=true)=>no h) (fun a a a a (h:false=true)=>no h) (fun a a a (h:false=true)=>no h) (fun a a a (h:false=true)=>no h) (fun a a a a (h:false=true)=>no h) (fun a a a a (h:false=true)=>no h) (fun a a a a a (h:false=true)=>no h) (fun a a a a (h:false=true)=>no h) (fun a a (h:false=true)=>no h) (fun a a (h:false=true)=>no h) (fun a a (h:false=true)=>no h) f (fun a a a a (h:false=true)=>no h) (fun a a a a (h:false=true)=>no h) (fun a a (h:false=true)=>no h) (fun a a a (h:false=true)=>no h) (fun a a a (h:false=true)=>no h) (fun a a a (h:false=true)=>no h) (fun a a (h:false=true)=>no h) (fun a a (h:false=true)=>no h) (fun a a (h:false=true)=>no h) (fun a a a (h:false=true)=>no h) (fun a a a a (h:false=true)=>no h) h
noncomputable def onList (x:PySem.Expr) (k:(List PySem.Expr)->Pos->Bool):Bool:=x.casesOn (fun a a a=>false) (fun a a a=>false) (fun a a a a=>false) (fun a a a=>false) (fun a a a a=>false) (fun a a a a=>false) (fun a a a=>false) (fun a a a=>false) (fun a a a a=>false) (fun a a a a=>false) (fun a a a a a=>false) (fun a a a a=>false) (fun a a=>false) (fun a a=>false) (fun a a=>false) (fun a a a a=>false) (fun a a a a=>false) (fun a a a a=>false) (fun a a=>false) (fun a a a=>false) (fun a a a=>false) (fun a a a=>false) (fun a a=>false) (fun a a=>false) k (fun a a a=>false) (fun a a a a=>false)
@[elab_as_elim] theorem onList_elim {k:(List PySem.Expr)->Pos->Bool} (h:onList x k=true) (f:∀ a b,k a b=true->P (.List a b)):P x :=
 PySem.Expr.casesOn (motive_1:=fun x=>onList x k=true->P x) x (fun a a a (h:false=true)=>no h) (fun a a a (h:false=true)=>no h) (fun a a a a (h:false=true)=>no h) (fun a a a (h:false=true)=>no h) (fun a a a a (h:false=true)=>no h) (fun a a a a (h:false=true)=>no h) (fun a a a (h:false=true)=>no h) (fun a a a (h:false=true)=>no h) (fun a a a a (h:false=true)=>no h) (fun a a a a (h:false=true)=>no h) (fun a a a a a (h:false=true)=>no h) (fun a a a a (h:false=true)=>no h) (fun a a (h:false=true)=>no h) (fun a a (h:false=true)=>no h) (fun a a (h:false=true)=>no h) (fun a a a a (h:false=true)=>no h) (fun a a a a (h:false=true)=>no h) (fun a a a a (h:false=true)=>no h) (fun a a (h:false=true)=>no h) (fun a a a (h:false=true)=>no h) (fun a a a (h:false=true)=>no h) (fun a a a (h:false=true)=>no h) (fun a a (h:false=true)=>no h) (fun a a (h:false=true)=>no h) f (fun a a a (h:false=true)=>no h) (fun a a a a (h:false=true)=>no h) h
noncomputable def onTup (x:PySem.Expr) (k:(List PySem.Expr)->Nat->Pos->Bool):Bool:=x.casesOn (fun a a a=>false) (fun a a a=>false) (fun a a a a=>false) (fun a a a=>false) (fun a a a a=>false) (fun a a a a=>false) (fun a a a=>false) (fun a a a=>false) (fun a a a a=>false) (fun a a a a=>false) (fun a a a a a=>false) (fun a a a a=>false) (fun a a=>false) (fun a a=>false) (fun a a=>false) (fun a a a a=>false) (fun a a a a=>false) (fun a a a a=>false) (fun a a=>false) (fun a a a=>false) (fun a a a=>false) (fun a a a=>false) (fun a a=>false) (fun a a=>false) (fun a a=>false) k (fun a a a a=>false)
@[elab_as_elim] theorem onTup_elim {k:(List PySem.Expr)->Nat->Pos->Bool} (h:onTup x k=true) (f:∀ a b c,k a b c=true->P (.Tuple a b c)):P x :=
 PySem.Expr.casesOn (motive_1:=fun x=>onTup x k=true->P x) x (fun a a a (h:false=true)=>no h) (fun a a a (h:false=true)=>no h) (fun a a a a (h:false=true)=>no h) (fun a a a (h:false=true)=>no h) (fun a a a a (h:false=true)=>no h) (fun a a a a (h:false=true)=>no h) (fun a a a (h:false=true)=>no h) (fun a a a (h:false=true)=>no h) (fun a a a a (h:false=true)=>no h) (fun a a a a (h:false=true)=>no h) (fun a a a a a (h:false=true)=>no h) (fun a a a a (h:false=true)=>no h) (fun a a (h:false=true)=>no h) (fun a a (h:false=true)=>no h) (fun a a (h:false=true)=>no h) (fun a a a a (h:false=true)=>no h) (fun a a a a (h:false=true)=>no h) (fun a a a a (h:false=true)=>no h) (fun a a (h:false=true)=>no h) (fun a a a (h:false=true)=>no h) (fun a a a (h:false=true)=>no h) (fun a a a (h:false=true)=>no h) (fun a a (h:false=true)=>no h) (fun a a (h:false=true)=>no h) (fun a a (h:false=true)=>no h) f (fun a a a a (h:false=true)=>no h) h
noncomputable def onDict (x:PySem.Expr) (k:List (Option PySem.Expr)->(List PySem.Expr)->Pos->Bool):Bool:=x.casesOn (fun a a a=>false) (fun a a a=>false) (fun a a a a=>false) (fun a a a=>false) (fun a a a a=>false) (fun a a a a=>false) k (fun a a a=>false) (fun a a a a=>false) (fun a a a a=>false) (fun a a a a a=>false) (fun a a a a=>false) (fun a a=>false) (fun a a=>false) (fun a a=>false) (fun a a a a=>false) (fun a a a a=>false) (fun a a a a=>false) (fun a a=>false) (fun a a a=>false) (fun a a a=>false) (fun a a a=>false) (fun a a=>false) (fun a a=>false) (fun a a=>false) (fun a a a=>false) (fun a a a a=>false)
@[elab_as_elim] theorem onDict_elim {k:List (Option PySem.Expr)->(List PySem.Expr)->Pos->Bool} (h:onDict x k=true) (f:∀ a b c,k a b c=true->P (.Dict a b c)):P x :=
 PySem.Expr.casesOn (motive_1:=fun x=>onDict x k=true->P x) x (fun a a a (h:false=true)=>no h) (fun a a a (h:false=true)=>no h) (fun a a a a (h:false=true)=>no h) (fun a a a (h:false=true)=>no h) (fun a a a a (h:false=true)=>no h) (fun a a a a (h:false=true)=>no h) f (fun a a a (h:false=true)=>no h) (fun a a a a (h:false=true)=>no h) (fun a a a a (h:false=true)=>no h) (fun a a a a a (h:false=true)=>no h) (fun a a a a (h:false=true)=>no h) (fun a a (h:false=true)=>no h) (fun a a (h:false=true)=>no h) (fun a a (h:false=true)=>no h) (fun a a a a (h:false=true)=>no h) (fun a a a a (h:false=true)=>no h) (fun a a a a (h:false=true)=>no h) (fun a a (h:false=true)=>no h) (fun a a a (h:false=true)=>no h) (fun a a a (h:false=true)=>no h) (fun a a a (h:false=true)=>no h) (fun a a (h:false=true)=>no h) (fun a a (h:false=true)=>no h) (fun a a (h:false=true)=>no h) (fun a a a (h:false=true)=>no h) (fun a a a a (h:false=true)=>no h) h
noncomputable def onAttr (x:PySem.Expr) (k:PySem.Expr->Str->Pos->Bool):Bool:=x.casesOn (fun a a a=>false) (fun a a a=>false) (fun a a a a=>false) (fun a a a=>false) (fun a a a a=>false) (fun a a a a=>false) (fun a a a=>false) (fun a a a=>false) (fun a a a a=>false) (fun a a a a=>false) (fun a a a a a=>false) (fun a a a a=>false) (fun a a=>false) (fun a a=>false) (fun a a=>false) (fun a a a a=>false) (fun a a a a=>false) (fun a a a a=>false) (fun a a=>false) (fun a a a=>false) k (fun a a a=>false) (fun a a=>false) (fun a a=>false) (fun a a=>false) (fun a a a=>false) (fun a a a a=>false)
@[elab_as_elim] theorem onAttr_elim {k:PySem.Expr->Str->Pos->Bool} (h:onAttr x k=true) (f:∀ a b c,k a b c=true->P (.Attribute a b c)):P x :=
 PySem.Expr.casesOn (motive_1:=fun x=>onAttr x k=true->P x) x (fun a a a (h:false=true)=>no h) (fun a a a (h:false=true)=>no h) (fun a a a a (h:false=true)=>no h) (fun a a a (h:false=true)=>no h) (fun a a a a (h:false=true)=>no h) (fun a a a a (h:false=true)=>no h) (fun a a a (h:false=true)=>no h) (fun a a a (h:false=true)=>no h) (fun a a a a (h:false=true)=>no h) (fun a a a a (h:false=true)=>no h) (fun a a a a a (h:false=true)=>no h) (fun a a a a (h:false=true)=>no h) (fun a a (h:false=true)=>no h) (fun a a (h:false=true)=>no h) (fun a a (h:false=true)=>no h) (fun a a a a (h:false=true)=>no h) (fun a a a a (h:false=true)=>no h) (fun a a a a (h:false=true)=>no h) (fun a a (h:false=true)=>no h) (fun a a a (h:false=true)=>no h) f (fun a a a (h:false=true)=>no h) (fun a a (h:false=true)=>no h) (fun a a (h:false=true)=>no h) (fun a a (h:false=true)=>no h) (fun a a a (h:false=true)=>no h) (fun a a a a (h:false=true)=>no h) h
noncomputable def onSub (x:PySem.Expr) (k:PySem.Expr->PySem.Expr->Pos->Bool):Bool:=x.casesOn (fun a a a=>false) (fun a a a=>false) (fun a a a a=>false) (fun a a a=>false) (fun a a a a=>false) (fun a a a a=>false) (fun a a a=>false) (fun a a a=>false) (fun a a a a=>false) (fun a a a a=>false) (fun a a a a a=>false) (fun a a a a=>false) (fun a a=>false) (fun a a=>false) (fun a a=>false) (fun a a a a=>false) (fun a a a a=>false) (fun a a a a=>false) (fun a a=>false) (fun a a a=>false) (fun a a a=>false) k (fun a a=>false) (fun a a=>false) (fun a a=>false) (fun a a a=>false) (fun a a a a=>false)
@[elab_as_elim] theorem onSub_elim {k:PySem.Expr->PySem.Expr->Pos->Bool} (h:onSub x k=true) (f:∀ a b c,k a b c=true->P (.Subscript a b c)):P x :=
 PySem.Expr.casesOn (motive_1:=fun x=>onSub x k=true->P x) x (fun a a a (h:false=true)=>no h) (fun a a a (h:false=true)=>no h) (fun a a a a (h:false=true)=>no h) (fun a a a (h:false=true)=>no h) (fun a a a a (h:false=true)=>no h) (fun a a a a (h:false=true)=>no h) (fun a a a (h:false=true)=>no h) (fun a a a (h:false=true)=>no h) (fun a a a a (h:false=true)=>no h) (fun a a a a (h:false=true)=>no h) (fun a a a a a (h:false=true)=>no h) (fun a a a a (h:false=true)=>no h) (fun a a (h:false=true)=>no h) (fun a a (h:false=true)=>no h) (fun a a (h:false=true)=>no h) (fun a a a a (h:false=true)=>no h) (fun a a a a (h:false=true)=>no h) (fun a a a a (h:false=true)=>no h) (fun a a (h:false=true)=>no h) (fun a a a (h:false=true)=>no h) (fun a a a (h:false=true)=>no h) f (fun a a (h:false=true)=>no h) (fun a a (h:false=true)=>no h) (fun a a (h:false=true)=>no h) (fun a a a (h:false=true)=>no h) (fun a a a a (h:false=true)=>no h) h
noncomputable def onSlice (x:PySem.Expr) (k:Option PySem.Expr->Option PySem.Expr->Option PySem.Expr->Pos->Bool):Bool:=x.casesOn (fun a a a=>false) (fun a a a=>false) (fun a a a a=>false) (fun a a a=>false) (fun a a a a=>false) (fun a a a a=>false) (fun a a a=>false) (fun a a a=>false) (fun a a a a=>false) (fun a a a a=>false) (fun a a a a a=>false) (fun a a a a=>false) (fun a a=>false) (fun a a=>false) (fun a a=>false) (fun a a a a=>false) (fun a a a a=>false) (fun a a a a=>false) (fun a a=>false) (fun a a a=>false) (fun a a a=>false) (fun a a a=>false) (fun a a=>false) (fun a a=>false) (fun a a=>false) (fun a a a=>false) k
@[elab_as_elim] theorem onSlice_elim {k:Option PySem.Expr->Option PySem.Expr->Option PySem.Expr->Pos->Bool} (h:onSlice x k=true) (f:∀ a b c d,k a b c d=true->P (.Slice a b c d)):P x :=
 PySem.Expr.casesOn (motive_1:=fun x=>onSlice x k=true->P x) x (fun a a a (h:false=true)=>no h) (fun a a a (h:false=true)=>no h) (fun a a a a (h:false=true)=>no h) (fun a a a (h:false=true)=>no h) (fun a a a a (h:false=true)=>no h) (fun a a a a (h:false=true)=>no h) (fun a a a (h:false=true)=>no h) (fun a a a (h:false=true)=>no h) (fun a a a a (h:false=true)=>no h) (fun a a a a (h:false=true)=>no h) (fun a a a a a (h:false=true)=>no h) (fun a a a a (h:false=true)=>no h) (fun a a (h:false=true)=>no h) (fun a a (h:false=true)=>no h) (fun a a (h:false=true)=>no h) (fun a a a a (h:false=true)=>no h) (fun a a a a (h:false=true)=>no h) (fun a a a a (h:false=true)=>no h) (fun a a (h:false=true)=>no h) (fun a a a (h:false=true)=>no h) (fun a a a (h:false=true)=>no h) (fun a a a (h:false=true)=>no h) (fun a a (h:false=true)=>no h) (fun a a (h:false=true)=>no h) (fun a a (h:false=true)=>no h) (fun a a a (h:false=true)=>no h) f h
noncomputable def onComp (x:PySem.Expr) (k:PySem.Expr->List Comprehension->Scope->Pos->Bool):Bool:=x.casesOn (fun a a a=>false) (fun a a a=>false) (fun a a a a=>false) (fun a a a=>false) (fun a a a a=>false) (fun a a a a=>false) (fun a a a=>false) (fun a a a=>false) k (fun a a a a=>false) (fun a a a a a=>false) (fun a a a a=>false) (fun a a=>false) (fun a a=>false) (fun a a=>false) (fun a a a a=>false) (fun a a a a=>false) (fun a a a a=>false) (fun a a=>false) (fun a a a=>false) (fun a a a=>false) (fun a a a=>false) (fun a a=>false) (fun a a=>false) (fun a a=>false) (fun a a a=>false) (fun a a a a=>false)
@[elab_as_elim] theorem onComp_elim {k:PySem.Expr->List Comprehension->Scope->Pos->Bool} (h:onComp x k=true) (f:∀ a b c d,k a b c d=true->P (.ListComp a b c d)):P x :=
 PySem.Expr.casesOn (motive_1:=fun x=>onComp x k=true->P x) x (fun a a a (h:false=true)=>no h) (fun a a a (h:false=true)=>no h) (fun a a a a (h:false=true)=>no h) (fun a a a (h:false=true)=>no h) (fun a a a a (h:false=true)=>no h) (fun a a a a (h:false=true)=>no h) (fun a a a (h:false=true)=>no h) (fun a a a (h:false=true)=>no h) f (fun a a a a (h:false=true)=>no h) (fun a a a a a (h:false=true)=>no h) (fun a a a a (h:false=true)=>no h) (fun a a (h:false=true)=>no h) (fun a a (h:false=true)=>no h) (fun a a (h:false=true)=>no h) (fun a a a a (h:false=true)=>no h) (fun a a a a (h:false=true)=>no h) (fun a a a a (h:false=true)=>no h) (fun a a (h:false=true)=>no h) (fun a a a (h:false=true)=>no h) (fun a a a (h:false=true)=>no h) (fun a a a (h:false=true)=>no h) (fun a a (h:false=true)=>no h) (fun a a (h:false=true)=>no h) (fun a a (h:false=true)=>no h) (fun a a a (h:false=true)=>no h) (fun a a a a (h:false=true)=>no h) h
noncomputable def onCall (x:PySem.Expr) (k:PySem.Expr->(List PySem.Expr)->List Keyword->Pos->Bool):Bool:=x.casesOn (fun a a a=>false) (fun a a a=>false) (fun a a a a=>false) (fun a a a=>false) (fun a a a a=>false) (fun a a a a=>false) (fun a a a=>false) (fun a a a=>false) (fun a a a a=>false) (fun a a a a=>false) (fun a a a a a=>false) (fun a a a a=>false) (fun a a=>false) (fun a a=>false) (fun a a=>false) (fun a a a a=>false) k (fun a a a a=>false) (fun a a=>false) (fun a a a=>false) (fun a a a=>false) (fun a a a=>false) (fun a a=>false) (fun a a=>false) (fun a a=>false) (fun a a a=>false) (fun a a a a=>false)
@[elab_as_elim] theorem onCall_elim {k:PySem.Expr->(List PySem.Expr)->List Keyword->Pos->Bool} (h:onCall x k=true) (f:∀ a b c d,k a b c d=true->P (.Call a b c d)):P x :=
 PySem.Expr.casesOn (motive_1:=fun x=>onCall x k=true->P x) x (fun a a a (h:false=true)=>no h) (fun a a a (h:false=true)=>no h) (fun a a a a (h:false=true)=>no h) (fun a a a (h:false=true)=>no h) (fun a a a a (h:false=true)=>no h) (fun a a a a (h:false=true)=>no h) (fun a a a (h:false=true)=>no h) (fun a a a (h:false=true)=>no h) (fun a a a a (h:false=true)=>no h) (fun a a a a (h:false=true)=>no h) (fun a a a a a (h:false=true)=>no h) (fun a a a a (h:false=true)=>no h) (fun a a (h:false=true)=>no h) (fun a a (h:false=true)=>no h) (fun a a (h:false=true)=>no h) (fun a a a a (h:false=true)=>no h) f (fun a a a a (h:false=true)=>no h) (fun a a (h:false=true)=>no h) (fun a a a (h:false=true)=>no h) (fun a a a (h:false=true)=>no h) (fun a a a (h:false=true)=>no h) (fun a a (h:false=true)=>no h) (fun a a (h:false=true)=>no h) (fun a a (h:false=true)=>no h) (fun a a a (h:false=true)=>no h) (fun a a a a (h:false=true)=>no h) h
end
section
variable {x:Stmt} {P:Stmt->Prop}
noncomputable def onRet (x:Stmt) (k:Option PySem.Expr->Pos->Bool):Bool:=x.casesOn (fun a a a a a a a a a a=>false) (fun a a a a a a a a a a=>false) (fun a a a a a a a a a a a=>false) k (fun a a=>false) (fun a a a=>false) (fun a a a a a a a=>false) (fun a a a a=>false) (fun a a a a a=>false) (fun a a a a a=>false) (fun a a a a a=>false) (fun a a a a=>false) (fun a a a a=>false) (fun a a a=>false) (fun a a a=>false) (fun a a a=>false) (fun a a a=>false) (fun a a a a a=>false) (fun a a a a a=>false) (fun a a a=>false) (fun a a=>false) (fun a a a a=>false) (fun a a=>false) (fun a a=>false) (fun a a=>false) (fun a=>false) (fun a=>false) (fun a=>false)
@[elab_as_elim] theorem onRet_elim {k:Option PySem.Expr->Pos->Bool} (h:onRet x k=true) (f:∀ a b,k a b=true->P (.Return a b)):P x :=
 Stmt.casesOn (motive_2:=fun x=>onRet x k=true->P x) x (fun a a a a a a a a a a (h:false=true)=>no h) (fun a a a a a a a a a a (h:false=true)=>no h) (fun a a a a a a a a a a a (h:false=true)=>no h) f (fun a a (h:false=true)=>no h) (fun a a a (h:false=true)=>no h) (fun a a a a a a a (h:false=true)=>no h) (fun a a a a (h:false=true)=>no h) (fun a a a a a (h:false=true)=>no h) (fun a a a a a (h:false=true)=>no h) (fun a a a a a (h:false=true)=>no h) (fun a a a a (h:false=true)=>no h) (fun a a a a (h:false=true)=>no h) (fun a a a (h:false=true)=>no h) (fun a a a (h:false=true)=>no h) (fun a a a (h:false=true)=>no h) (fun a a a (h:false=true)=>no h) (fun a a a a a (h:false=true)=>no h) (fun a a a a a (h:false=true)=>no h) (fun a a a (h:false=true)=>no h) (fun a a (h:false=true)=>no h) (fun a a a a (h:false=true)=>no h) (fun a a (h:false=true)=>no h) (fun a a (h:false=true)=>no h) (fun a a (h:false=true)=>no h) (fun a (h:false=true)=>no h) (fun a (h:false=true)=>no h) (fun a (h:false=true)=>no h) h
noncomputable def onAsg (x:Stmt) (k:(List PySem.Expr)->PySem.Expr->Pos->Bool):Bool:=x.casesOn (fun a a a a a a a a a a=>false) (fun a a a a a a a a a a=>false) (fun a a a a a a a a a a a=>false) (fun a a=>false) (fun a a=>false) k (fun a a a a a a a=>false) (fun a a a a=>false) (fun a a a a a=>false) (fun a a a a a=>false) (fun a a a a a=>false) (fun a a a a=>false) (fun a a a a=>false) (fun a a a=>false) (fun a a a=>false) (fun a a a=>false) (fun a a a=>false) (fun a a a a a=>false) (fun a a a a a=>false) (fun a a a=>false) (fun a a=>false) (fun a a a a=>false) (fun a a=>false) (fun a a=>false) (fun a a=>false) (fun a=>false) (fun a=>false) (fun a=>false)
@[elab_as_elim] theorem onAsg_elim {k:(List PySem.Expr)->PySem.Expr->Pos->Bool} (h:onAsg x k=true) (f:∀ a b c,k a b c=true->P (.Assign a b c)):P x :=
 Stmt.casesOn (motive_2:=fun x=>onAsg x k=true->P x) x (fun a a a a a a a a a a (h:false=true)=>no h) (fun a a a a a a a a a a (h:false=true)=>no h) (fun a a a a a a a a a a a (h:false=true)=>no h) (fun a a (h:false=true)=>no h) (fun a a (h:false=true)=>no h) f (fun a a a a a a a (h:false=true)=>no h) (fun a a a a (h:false=true)=>no h) (fun a a a a a (h:false=true)=>no h) (fun a a a a a (h:false=true)=>no h) (fun a a a a a (h:false=true)=>no h) (fun a a a a (h:false=true)=>no h) (fun a a a a (h:false=true)=>no h) (fun a a a (h:false=true)=>no h) (fun a a a (h:false=true)=>no h) (fun a a a (h:false=true)=>no h) (fun a a a (h:false=true)=>no h) (fun a a a a a (h:false=true)=>no h) (fun a a a a a (h:false=true)=>no h) (fun a a a (h:false=true)=>no h) (fun a a (h:false=true)=>no h) (fun a a a a (h:false=true)=>no h) (fun a a (h:false=true)=>no h) (fun a a (h:false=true)=>no h) (fun a a (h:false=true)=>no h) (fun a (h:false=true)=>no h) (fun a (h:false=true)=>no h) (fun a (h:false=true)=>no h) h
noncomputable def onFor (x:Stmt) (k:PySem.Expr->PySem.Expr->(List Stmt)->(List Stmt)->Pos->Bool):Bool:=x.casesOn (fun a a a a a a a a a a=>false) (fun a a a a a a a a a a=>false) (fun a a a a a a a a a a a=>false) (fun a a=>false) (fun a a=>false) (fun a a a=>false) (fun a a a a a a a=>false) (fun a a a a=>false) (fun a a a a a=>false) k (fun a a a a a=>false) (fun a a a a=>false) (fun a a a a=>false) (fun a a a=>false) (fun a a a=>false) (fun a a a=>false) (fun a a a=>false) (fun a a a a a=>false) (fun a a a a a=>false) (fun a a a=>false) (fun a a=>false) (fun a a a a=>false) (fun a a=>false) (fun a a=>false) (fun a a=>false) (fun a=>false) (fun a=>false) (fun a=>false)
@[elab_as_elim] theorem onFor_elim {k:PySem.Expr->PySem.Expr->(List Stmt)->(List Stmt)->Pos->Bool} (h:onFor x k=true) (f:∀ a b c d e,k a b c d e=true->P (.For a b c d e)):P x :=
 Stmt.casesOn (motive_2:=fun x=>onFor x k=true->P x) x (fun a a a a a a a a a a (h:false=true)=>no h) (fun a a a a a a a a a a (h:false=true)=>no h) (fun a a a a a a a a a a a (h:false=true)=>no h) (fun a a (h:false=true)=>no h) (fun a a (h:false=true)=>no h) (fun a a a (h:false=true)=>no h) (fun a a a a a a a (h:false=true)=>no h) (fun a a a a (h:false=true)=>no h) (fun a a a a a (h:false=true)=>no h) f (fun a a a a a (h:false=true)=>no h) (fun a a a a (h:false=true)=>no h) (fun a a a a (h:false=true)=>no h) (fun a a a (h:false=true)=>no h) (fun a a a (h:false=true)=>no h) (fun a a a (h:false=true)=>no h) (fun a a a (h:false=true)=>no h) (fun a a a a a (h:false=true)=>no h) (fun a a a a a (h:false=true)=>no h) (fun a a a (h:false=true)=>no h) (fun a a (h:false=true)=>no h) (fun a a a a (h:false=true)=>no h) (fun a a (h:false=true)=>no h) (fun a a (h:false=true)=>no h) (fun a a (h:false=true)=>no h) (fun a (h:false=true)=>no h) (fun a (h:false=true)=>no h) (fun a (h:false=true)=>no h) h
noncomputable def onWhile (x:Stmt) (k:PySem.Expr->(List Stmt)->(List Stmt)->Pos->Bool):Bool:=x.casesOn (fun a a a a a a a a a a=>false) (fun a a a a a a a a a a=>false) (fun a a a a a a a a a a a=>false) (fun a a=>false) (fun a a=>false) (fun a a a=>false) (fun a a a a a a a=>false) (fun a a a a=>false) (fun a a a a a=>false) (fun a a a a a=>false) (fun a a a a a=>false) k (fun a a a a=>false) (fun a a a=>false) (fun a a a=>false) (fun a a a=>false) (fun a a a=>false) (fun a a a a a=>false) (fun a a a a a=>false) (fun a a a=>false) (fun a a=>false) (fun a a a a=>false) (fun a a=>false) (fun a a=>false) (fun a a=>false) (fun a=>false) (fun a=>false) (fun a=>false)
@[elab_as_elim] theorem onWhile_elim {k:PySem.Expr->(List Stmt)->(List Stmt)->Pos->Bool} (h:onWhile x k=true) (f:∀ a b c d,k a b c d=true->P (.While a b c d)):P x :=
 Stmt.casesOn (motive_2:=fun x=>onWhile x k=true->P x) x (fun a a a a a a a a a a (h:false=true)=>no h) (fun a a a a a a a a a a (h:false=true)=>no h) (fun a a a a a a a a a a a (h:false=true)=>no h) (fun a a (h:false=true)=>no h) (fun a a (h:false=true)=>no h) (fun a a a (h:false=true)=>no h) (fun a a a a a a a (h:false=true)=>no h) (fun a a a a (h:false=true)=>no h) (fun a a a a a (h:false=true)=>no h) (fun a a a a a (h:false=true)=>no h) (fun a a a a a (h:false=true)=>no h) f (fun a a a a (h:false=true)=>no h) (fun a a a (h:false=true)=>no h) (fun a a a (h:false=true)=>no h) (fun a a a (h:false=true)=>no h) (fun a a a (h:false=true)=>no h) (fun a a a a a (h:false=true)=>no h) (fun a a a a a (h:false=true)=>no h) (fun a a a (h:false=true)=>no h) (fun a a (h:false=true)=>no h) (fun a a a a (h:false=true)=>no h) (fun a a (h:false=true)=>no h) (fun a a (h:false=true)=>no h) (fun a a (h:false=true)=>no h) (fun a (h:false=true)=>no h) (fun a (h:false=true)=>no h) (fun a (h:false=true)=>no h) h
noncomputable def onIfS (x:Stmt) (k:PySem.Expr->(List Stmt)->(List Stmt)->Pos->Bool):Bool:=x.casesOn (fun a a a a a a a a a a=>false) (fun a a a a a a a a a a=>false) (fun a a a a a a a a a a a=>false) (fun a a=>false) (fun a a=>false) (fun a a a=>false) (fun a a a a a a a=>false) (fun a a a a=>false) (fun a a a a a=>false) (fun a a a a a=>false) (fun a a a a a=>false) (fun a a a a=>false) k (fun a a a=>false) (fun a a a=>false) (fun a a a=>false) (fun a a a=>false) (fun a a a a a=>false) (fun a a a a a=>false) (fun a a a=>false) (fun a a=>false) (fun a a a a=>false) (fun a a=>false) (fun a a=>false) (fun a a=>false) (fun a=>false) (fun a=>false) (fun a=>false)
@[elab_as_elim] theorem onIfS_elim {k:PySem.Expr->(List Stmt)->(List Stmt)->Pos->Bool} (h:onIfS x k=true) (f:∀ a b c d,k a b c d=true->P (.If a b c d)):P x :=
 Stmt.casesOn (motive_2:=fun x=>onIfS x k=true->P x) x (fun a a a a a a a a a a (h:false=true)=>no h) (fun a a a a a a a a a a (h:false=true)=>no h) (fun a a a a a a a a a a a (h:false=true)=>no h) (fun a a (h:false=true)=>no h) (fun a a (h:false=true)=>no h) (fun a a a (h:false=true)=>no h) (fun a a a a a a a (h:false=true)=>no h) (fun a a a a (h:false=true)=>no h) (fun a a a a a (h:false=true)=>no h) (fun a a a a a (h:false=true)=>no h) (fun a a a a a (h:false=true)=>no h) (fun a a a a (h:false=true)=>no h) f (fun a a a (h:false=true)=>no h) (fun a a a (h:false=true)=>no h) (fun a a a (h:false=true)=>no h) (fun a a a (h:false=true)=>no h) (fun a a a a a (h:false=true)=>no h) (fun a a a a a (h:false=true)=>no h) (fun a a a (h:false=true)=>no h) (fun a a (h:false=true)=>no h) (fun a a a a (h:false=true)=>no h) (fun a a (h:false=true)=>no h) (fun a a (h:false=true)=>no h) (fun a a (h:false=true)=>no h) (fun a (h:false=true)=>no h) (fun a (h:false=true)=>no h) (fun a (h:false=true)=>no h) h
noncomputable def onTry (x:Stmt) (k:(List Stmt)->(List ExceptHandler)->(List Stmt)->(List Stmt)->Pos->Bool):Bool:=x.casesOn (fun a a a a a a a a a a=>false) (fun a a a a a a a a a a=>false) (fun a a a a a a a a a a a=>false) (fun a a=>false) (fun a a=>false) (fun a a a=>false) (fun a a a a a a a=>false) (fun a a a a=>false) (fun a a a a a=>false) (fun a a a a a=>false) (fun a a a a a=>false) (fun a a a a=>false) (fun a a a a=>false) (fun a a a=>false) (fun a a a=>false) (fun a a a=>false) (fun a a a=>false) k (fun a a a a a=>false) (fun a a a=>false) (fun a a=>false) (fun a a a a=>false) (fun a a=>false) (fun a a=>false) (fun a a=>false) (fun a=>false) (fun a=>false) (fun a=>false)
@[elab_as_elim] theorem onTry_elim {k:(List Stmt)->(List ExceptHandler)->(List Stmt)->(List Stmt)->Pos->Bool} (h:onTry x k=true) (f:∀ a b c d e,k a b c d e=true->P (.Try a b c d e)):P x :=
 Stmt.casesOn (motive_2:=fun x=>onTry x k=true->P x) x (fun a a a a a a a a a a (h:false=true)=>no h) (fun a a a a a a a a a a (h:false=true)=>no h) (fun a a a a a a a a a a a (h:false=true)=>no h) (fun a a (h:false=true)=>no h) (fun a a (h:false=true)=>no h) (fun a a a (h:false=true)=>no h) (fun a a a a a a a (h:false=true)=>no h) (fun a a a a (h:false=true)=>no h) (fun a a a a a (h:false=true)=>no h) (fun a a a a a (h:false=true)=>no h) (fun a a a a a (h:false=true)=>no h) (fun a a a a (h:false=true)=>no h) (fun a a a a (h:false=true)=>no h) (fun a a a (h:false=true)=>no h) (fun a a a (h:false=true)=>no h) (fun a a a (h:false=true)=>no h) (fun a a a (h:false=true)=>no h) f (fun a a a a a (h:false=true)=>no h) (fun a a a (h:false=true)=>no h) (fun a a (h:false=true)=>no h) (fun a a a a (h:false=true)=>no h) (fun a a (h:false=true)=>no h) (fun a a (h:false=true)=>no h) (fun a a (h:false=true)=>no h) (fun a (h:false=true)=>no h) (fun a (h:false=true)=>no h) (fun a (h:false=true)=>no h) h
noncomputable def onRaise (x:Stmt) (k:Option PySem.Expr->Option PySem.Expr->Pos->Bool):Bool:=x.casesOn (fun a a a a a a a a a a=>false) (fun a a a a a a a a a a=>false) (fun a a a a a a a a a a a=>false) (fun a a=>false) (fun a a=>false) (fun a a a=>false) (fun a a a a a a a=>false) (fun a a a a=>false) (fun a a a a a=>false) (fun a a a a a=>false) (fun a a a a a=>false) (fun a a a a=>false) (fun a a a a=>false) (fun a a a=>false) (fun a a a=>false) (fun a a a=>false) k (fun a a a a a=>false) (fun a a a a a=>false) (fun a a a=>false) (fun a a=>false) (fun a a a a=>false) (fun a a=>false) (fun a a=>false) (fun a a=>false) (fun a=>false) (fun a=>false) (fun a=>false)
@[elab_as_elim] theorem onRaise_elim {k:Option PySem.Expr->Option PySem.Expr->Pos->Bool} (h:onRaise x k=true) (f:∀ a b c,k a b c=true->P (.Raise a b c)):P x :=
 Stmt.casesOn (motive_2:=fun x=>onRaise x k=true->P x) x (fun a a a a a a a a a a (h:false=true)=>no h) (fun a a a a a a a a a a (h:false=true)=>no h) (fun a a a a a a a a a a a (h:false=true)=>no h) (fun a a (h:false=true)=>no h) (fun a a (h:false=true)=>no h) (fun a a a (h:false=true)=>no h) (fun a a a a a a a (h:false=true)=>no h) (fun a a a a (h:false=true)=>no h) (fun a a a a a (h:false=true)=>no h) (fun a a a a a (h:false=true)=>no h) (fun a a a a a (h:false=true)=>no h) (fun a a a a (h:false=true)=>no h) (fun a a a a (h:false=true)=>no h) (fun a a a (h:false=true)=>no h) (fun a a a (h:false=true)=>no h) (fun a a a (h:false=true)=>no h) f (fun a a a a a (h:false=true)=>no h) (fun a a a a a (h:false=true)=>no h) (fun a a a (h:false=true)=>no h) (fun a a (h:false=true)=>no h) (fun a a a a (h:false=true)=>no h) (fun a a (h:false=true)=>no h) (fun a a (h:false=true)=>no h) (fun a a (h:false=true)=>no h) (fun a (h:false=true)=>no h) (fun a (h:false=true)=>no h) (fun a (h:false=true)=>no h) h
noncomputable def onExpr (x:Stmt) (k:PySem.Expr->Pos->Bool):Bool:=x.casesOn (fun a a a a a a a a a a=>false) (fun a a a a a a a a a a=>false) (fun a a a a a a a a a a a=>false) (fun a a=>false) (fun a a=>false) (fun a a a=>false) (fun a a a a a a a=>false) (fun a a a a=>false) (fun a a a a a=>false) (fun a a a a a=>false) (fun a a a a a=>false) (fun a a a a=>false) (fun a a a a=>false) (fun a a a=>false) (fun a a a=>false) (fun a a a=>false) (fun a a a=>false) (fun a a a a a=>false) (fun a a a a a=>false) (fun a a a=>false) (fun a a=>false) (fun a a a a=>false) (fun a a=>false) (fun a a=>false) k (fun a=>false) (fun a=>false) (fun a=>false)
@[elab_as_elim] theorem onExpr_elim {k:PySem.Expr->Pos->Bool} (h:onExpr x k=true) (f:∀ a b,k a b=true->P (.Expr a b)):P x :=
 Stmt.casesOn (motive_2:=fun x=>onExpr x k=true->P x) x (fun a a a a a a a a a a (h:false=true)=>no h) (fun a a a a a a a a a a (h:false=true)=>no h) (fun a a a a a a a a a a a (h:false=true)=>no h) (fun a a (h:false=true)=>no h) (fun a a (h:false=true)=>no h) (fun a a a (h:false=true)=>no h) (fun a a a a a a a (h:false=true)=>no h) (fun a a a a (h:false=true)=>no h) (fun a a a a a (h:false=true)=>no h) (fun a a a a a (h:false=true)=>no h) (fun a a a a a (h:false=true)=>no h) (fun a a a a (h:false=true)=>no h) (fun a a a a (h:false=true)=>no h) (fun a a a (h:false=true)=>no h) (fun a a a (h:false=true)=>no h) (fun a a a (h:false=true)=>no h) (fun a a a (h:false=true)=>no h) (fun a a a a a (h:false=true)=>no h) (fun a a a a a (h:false=true)=>no h) (fun a a a (h:false=true)=>no h) (fun a a (h:false=true)=>no h) (fun a a a a (h:false=true)=>no h) (fun a a (h:false=true)=>no h) (fun a a (h:false=true)=>no h) f (fun a (h:false=true)=>no h) (fun a (h:false=true)=>no h) (fun a (h:false=true)=>no h) h
noncomputable def onBrk (x:Stmt) (k:Pos->Bool):Bool:=x.casesOn (fun a a a a a a a a a a=>false) (fun a a a a a a a a a a=>false) (fun a a a a a a a a a a a=>false) (fun a a=>false) (fun a a=>false) (fun a a a=>false) (fun a a a a a a a=>false) (fun a a a a=>false) (fun a a a a a=>false) (fun a a a a a=>false) (fun a a a a a=>false) (fun a a a a=>false) (fun a a a a=>false) (fun a a a=>false) (fun a a a=>false) (fun a a a=>false) (fun a a a=>false) (fun a a a a a=>false) (fun a a a a a=>false) (fun a a a=>false) (fun a a=>false) (fun a a a a=>false) (fun a a=>false) (fun a a=>false) (fun a a=>false) (fun a=>false) k (fun a=>false)
@[elab_as_elim] theorem onBrk_elim {k:Pos->Bool} (h:onBrk x k=true) (f:∀ a,k a=true->P (.Break a)):P x :=
 Stmt.casesOn (motive_2:=fun x=>onBrk x k=true->P x) x (fun a a a a a a a a a a (h:false=true)=>no h) (fun a a a a a a a a a a (h:false=true)=>no h) (fun a a a a a a a a a a a (h:false=true)=>no h) (fun a a (h:false=true)=>no h) (fun a a (h:false=true)=>no h) (fun a a a (h:false=true)=>no h) (fun a a a a a a a (h:false=true)=>no h) (fun a a a a (h:false=true)=>no h) (fun a a a a a (h:false=true)=>no h) (fun a a a a a (h:false=true)=>no h) (fun a a a a a (h:false=true)=>no h) (fun a a a a (h:false=true)=>no h) (fun a a a a (h:false=true)=>no h) (fun a a a (h:false=true)=>no h) (fun a a a (h:false=true)=>no h) (fun a a a (h:false=true)=>no h) (fun a a a (h:false=true)=>no h) (fun a a a a a (h:false=true)=>no h) (fun a a a a a (h:false=true)=>no h) (fun a a a (h:false=true)=>no h) (fun a a (h:false=true)=>no h) (fun a a a a (h:false=true)=>no h) (fun a a (h:false=true)=>no h) (fun a a (h:false=true)=>no h) (fun a a (h:false=true)=>no h) (fun a (h:false=true)=>no h) f (fun a (h:false=true)=>no h) h
noncomputable def onCont (x:Stmt) (k:Pos->Bool):Bool:=x.casesOn (fun a a a a a a a a a a=>false) (fun a a a a a a a a a a=>false) (fun a a a a a a a a a a a=>false) (fun a a=>false) (fun a a=>false) (fun a a a=>false) (fun a a a a a a a=>false) (fun a a a a=>false) (fun a a a a a=>false) (fun a a a a a=>false) (fun a a a a a=>false) (fun a a a a=>false) (fun a a a a=>false) (fun a a a=>false) (fun a a a=>false) (fun a a a=>false) (fun a a a=>false) (fun a a a a a=>false) (fun a a a a a=>false) (fun a a a=>false) (fun a a=>false) (fun a a a a=>false) (fun a a=>false) (fun a a=>false) (fun a a=>false) (fun a=>false) (fun a=>false) k
@[elab_as_elim] theorem onCont_elim {k:Pos->Bool} (h:onCont x k=true) (f:∀ a,k a=true->P (.Continue a)):P x :=
 Stmt.casesOn (motive_2:=fun x=>onCont x k=true->P x) x (fun a a a a a a a a a a (h:false=true)=>no h) (fun a a a a a a a a a a (h:false=true)=>no h) (fun a a a a a a a a a a a (h:false=true)=>no h) (fun a a (h:false=true)=>no h) (fun a a (h:false=true)=>no h) (fun a a a (h:false=true)=>no h) (fun a a a a a a a (h:false=true)=>no h) (fun a a a a (h:false=true)=>no h) (fun a a a a a (h:false=true)=>no h) (fun a a a a a (h:false=true)=>no h) (fun a a a a a (h:false=true)=>no h) (fun a a a a (h:false=true)=>no h) (fun a a a a (h:false=true)=>no h) (fun a a a (h:false=true)=>no h) (fun a a a (h:false=true)=>no h) (fun a a a (h:false=true)=>no h) (fun a a a (h:false=true)=>no h) (fun a a a a a (h:false=true)=>no h) (fun a a a a a (h:false=true)=>no h) (fun a a a (h:false=true)=>no h) (fun a a (h:false=true)=>no h) (fun a a a a (h:false=true)=>no h) (fun a a (h:false=true)=>no h) (fun a a (h:false=true)=>no h) (fun a a (h:false=true)=>no h) (fun a (h:false=true)=>no h) (fun a (h:false=true)=>no h) f h
end
end Mine.C
namespace Mine.C
noncomputable def asD (v:V) (k:D->Prop):Prop:=v.casesOn k (fun a b=>False) (fun a=>False) (fun a b=>False) (fun a=>False) (fun a=>False) (fun a=>False)
theorem asD_on {v:V} {k:D->Prop} {R:V->Prop} {P:Prop} (h:asD v k) (r:R v) (f:∀ x,k x->R (.d x)->P):P :=
 V.casesOn (motive:=fun v=>asD v k->R v->P) v f (fun a b h r=>h.elim) (fun a h r=>h.elim) (fun a b h r=>h.elim) (fun a h r=>h.elim) (fun a h r=>h.elim) (fun a h r=>h.elim) h r
noncomputable def asB0 (v:V) (k:Bool->Prop):Prop:=asD v fun x=>x.casesOn False k (fun a=>False) (fun a=>False) (fun a=>False) (fun a=>False) (fun a a=>False) (fun a=>False) (fun a=>False)
theorem asB0_on {v:V} {k:Bool->Prop} {R:V->Prop} {P:Prop} (h:asB0 v k) (r:R v) (f:∀ a,k a->R (.d (.bool a))->P):P:=asD_on (R:=R) h r fun x h r =>
 D.casesOn (motive_1:=fun x=>D.casesOn x False k (fun a=>False) (fun a=>False) (fun a=>False) (fun a=>False) (fun a a=>False) (fun a=>False) (fun a=>False)->R (.d x)->P) x (fun h r=>h.elim) f (fun a h r=>h.elim) (fun a h r=>h.elim) (fun a h r=>h.elim) (fun a h r=>h.elim) (fun a a h r=>h.elim) (fun a h r=>h.elim) (fun a h r=>h.elim) h r
noncomputable def asI (v:V) (k:Int->Prop):Prop:=asD v fun x=>x.casesOn False (fun a=>False) k (fun a=>False) (fun a=>False) (fun a=>False) (fun a a=>False) (fun a=>False) (fun a=>False)
theorem asI_on {v:V} {k:Int->Prop} {R:V->Prop} {P:Prop} (h:asI v k) (r:R v) (f:∀ a,k a->R (.d (.int a))->P):P:=asD_on (R:=R) h r fun x h r =>
 D.casesOn (motive_1:=fun x=>D.casesOn x False (fun a=>False) k (fun a=>False) (fun a=>False) (fun a=>False) (fun a a=>False) (fun a=>False) (fun a=>False)->R (.d x)->P) x (fun h r=>h.elim) (fun a h r=>h.elim) f (fun a h r=>h.elim) (fun a h r=>h.elim) (fun a h r=>h.elim) (fun a a h r=>h.elim) (fun a h r=>h.elim) (fun a h r=>h.elim) h r
noncomputable def asS (v:V) (k:Nat->Prop):Prop:=asD v fun x=>x.casesOn False (fun a=>False) (fun a=>False) k (fun a=>False) (fun a=>False) (fun a a=>False) (fun a=>False) (fun a=>False)
theorem asS_on {v:V} {k:Nat->Prop} {R:V->Prop} {P:Prop} (h:asS v k) (r:R v) (f:∀ a,k a->R (.d (.str a))->P):P:=asD_on (R:=R) h r fun x h r =>
 D.casesOn (motive_1:=fun x=>D.casesOn x False (fun a=>False) (fun a=>False) k (fun a=>False) (fun a=>False) (fun a a=>False) (fun a=>False) (fun a=>False)->R (.d x)->P) x (fun h r=>h.elim) (fun a h r=>h.elim) (fun a h r=>h.elim) f (fun a h r=>h.elim) (fun a h r=>h.elim) (fun a a h r=>h.elim) (fun a h r=>h.elim) (fun a h r=>h.elim) h r
noncomputable def asB (v:V) (k:Bs->Prop):Prop:=asD v fun x=>x.casesOn False (fun a=>False) (fun a=>False) (fun a=>False) k (fun a=>False) (fun a a=>False) (fun a=>False) (fun a=>False)
theorem asB_on {v:V} {k:Bs->Prop} {R:V->Prop} {P:Prop} (h:asB v k) (r:R v) (f:∀ a,k a->R (.d (.bytes a))->P):P:=asD_on (R:=R) h r fun x h r =>
 D.casesOn (motive_1:=fun x=>D.casesOn x False (fun a=>False) (fun a=>False) (fun a=>False) k (fun a=>False) (fun a a=>False) (fun a=>False) (fun a=>False)->R (.d x)->P) x (fun h r=>h.elim) (fun a h r=>h.elim) (fun a h r=>h.elim) (fun a h r=>h.elim) f (fun a h r=>h.elim) (fun a a h r=>h.elim) (fun a h r=>h.elim) (fun a h r=>h.elim) h r
noncomputable def asT (v:V) (k:List D->Prop):Prop:=asD v fun x=>x.casesOn False (fun a=>False) (fun a=>False) (fun a=>False) (fun a=>False) k (fun a a=>False) (fun a=>False) (fun a=>False)
theorem asT_on {v:V} {k:List D->Prop} {R:V->Prop} {P:Prop} (h:asT v k) (r:R v) (f:∀ a,k a->R (.d (.tup a))->P):P:=asD_on (R:=R) h r fun x h r =>
 D.casesOn (motive_1:=fun x=>D.casesOn x False (fun a=>False) (fun a=>False) (fun a=>False) (fun a=>False) k (fun a a=>False) (fun a=>False) (fun a=>False)->R (.d x)->P) x (fun h r=>h.elim) (fun a h r=>h.elim) (fun a h r=>h.elim) (fun a h r=>h.elim) (fun a h r=>h.elim) f (fun a a h r=>h.elim) (fun a h r=>h.elim) (fun a h r=>h.elim) h r
noncomputable def asO (v:V) (k:Nat->List D->Prop):Prop:=asD v fun x=>x.casesOn False (fun a=>False) (fun a=>False) (fun a=>False) (fun a=>False) (fun a=>False) k (fun a=>False) (fun a=>False)
theorem asO_on {v:V} {k:Nat->List D->Prop} {R:V->Prop} {P:Prop} (h:asO v k) (r:R v) (f:∀ a b,k a b->R (.d (.obj a b))->P):P:=asD_on (R:=R) h r fun x h r =>
 D.casesOn (motive_1:=fun x=>D.casesOn x False (fun a=>False) (fun a=>False) (fun a=>False) (fun a=>False) (fun a=>False) k (fun a=>False) (fun a=>False)->R (.d x)->P) x (fun h r=>h.elim) (fun a h r=>h.elim) (fun a h r=>h.elim) (fun a h r=>h.elim) (fun a h r=>h.elim) (fun a h r=>h.elim) f (fun a h r=>h.elim) (fun a h r=>h.elim) h r
noncomputable def asL (v:V) (k:List D->Prop):Prop:=asD v fun x=>x.casesOn False (fun a=>False) (fun a=>False) (fun a=>False) (fun a=>False) (fun a=>False) (fun a a=>False) k (fun a=>False)
theorem asL_on {v:V} {k:List D->Prop} {R:V->Prop} {P:Prop} (h:asL v k) (r:R v) (f:∀ a,k a->R (.d (.list a))->P):P:=asD_on (R:=R) h r fun x h r =>
 D.casesOn (motive_1:=fun x=>D.casesOn x False (fun a=>False) (fun a=>False) (fun a=>False) (fun a=>False) (fun a=>False) (fun a a=>False) k (fun a=>False)->R (.d x)->P) x (fun h r=>h.elim) (fun a h r=>h.elim) (fun a h r=>h.elim) (fun a h r=>h.elim) (fun a h r=>h.elim) (fun a h r=>h.elim) (fun a a h r=>h.elim) f (fun a h r=>h.elim) h r
noncomputable def asR (v:V) (k:Bs->Prop):Prop:=asD v fun x=>x.casesOn False (fun a=>False) (fun a=>False) (fun a=>False) (fun a=>False) (fun a=>False) (fun a a=>False) (fun a=>False) k
theorem asR_on {v:V} {k:Bs->Prop} {R:V->Prop} {P:Prop} (h:asR v k) (r:R v) (f:∀ a,k a->R (.d (.barr a))->P):P:=asD_on (R:=R) h r fun x h r =>
 D.casesOn (motive_1:=fun x=>D.casesOn x False (fun a=>False) (fun a=>False) (fun a=>False) (fun a=>False) (fun a=>False) (fun a a=>False) (fun a=>False) k->R (.d x)->P) x (fun h r=>h.elim) (fun a h r=>h.elim) (fun a h r=>h.elim) (fun a h r=>h.elim) (fun a h r=>h.elim) (fun a h r=>h.elim) (fun a a h r=>h.elim) (fun a h r=>h.elim) f h r
noncomputable def asRef (v:V) (k:Nat->Prop):Prop:=v.casesOn (fun a=>False) (fun a b=>False) k (fun a b=>False) (fun a=>False) (fun a=>False) (fun a=>False)
theorem asRef_on {v:V} {k:Nat->Prop} {R:V->Prop} {P:Prop} (h:asRef v k) (r:R v) (f:∀ i,k i->R (.ref i)->P):P :=
 V.casesOn (motive:=fun v=>asRef v k->R v->P) v (fun a h r=>h.elim) (fun a b h r=>h.elim) f (fun a b h r=>h.elim) (fun a h r=>h.elim) (fun a h r=>h.elim) (fun a h r=>h.elim) h r
noncomputable def asInst (v:V) (k:Nat->Nat->Prop):Prop:=v.casesOn (fun a=>False) (fun a b=>False) (fun a=>False) k (fun a=>False) (fun a=>False) (fun a=>False)
theorem asInst_on {v:V} {k:Nat->Nat->Prop} {R:V->Prop} {P:Prop} (h:asInst v k) (r:R v) (f:∀ c i,k c i->R (.inst c i)->P):P :=
 V.casesOn (motive:=fun v=>asInst v k->R v->P) v (fun a h r=>h.elim) (fun a b h r=>h.elim) (fun a h r=>h.elim) f (fun a h r=>h.elim) (fun a h r=>h.elim) (fun a h r=>h.elim) h r
noncomputable def atO (hp:Hp) (i:Nat) (k:O->Prop):Prop:=hp[i]?.casesOn False k
theorem atO_on {hp:Hp} {i:Nat} {k:O->Prop} {P:Prop} (h:atO hp i k) (f:∀ x,hp[i]?=some x->k x->P):P:=by
 unfold atO at h
 cases e:hp[i]? with
 | none=>rw [e] at h;exact h.elim
 | some x=>rw [e] at h;exact f x e h
noncomputable def atL (hp:Hp) (i:Nat) (k:List D->Prop):Prop:=atO hp i fun x=>x.casesOn k (fun a=>False) (fun a=>False) (fun a a=>False) (fun a=>False) (fun a=>False) (fun a=>False) False
theorem atL_on {hp:Hp} {i:Nat} {k:List D->Prop} {P:Prop} (h:atL hp i k) (f:∀ a,hp[i]?=some (.list a)->k a->P):P:=atO_on h fun x e h =>
 O.casesOn (motive:=fun x=>hp[i]?=some x->O.casesOn x k (fun a=>False) (fun a=>False) (fun a a=>False) (fun a=>False) (fun a=>False) (fun a=>False) False->P) x f (fun a e h=>h.elim) (fun a e h=>h.elim) (fun a a e h=>h.elim) (fun a e h=>h.elim) (fun a e h=>h.elim) (fun a e h=>h.elim) (fun e h=>h.elim) e h
noncomputable def atRs (hp:Hp) (i:Nat) (k:List Nat->Prop):Prop:=atO hp i fun x=>x.casesOn (fun a=>False) k (fun a=>False) (fun a a=>False) (fun a=>False) (fun a=>False) (fun a=>False) False
theorem atRs_on {hp:Hp} {i:Nat} {k:List Nat->Prop} {P:Prop} (h:atRs hp i k) (f:∀ a,hp[i]?=some (.refs a)->k a->P):P:=atO_on h fun x e h =>
 O.casesOn (motive:=fun x=>hp[i]?=some x->O.casesOn x (fun a=>False) k (fun a=>False) (fun a a=>False) (fun a=>False) (fun a=>False) (fun a=>False) False->P) x (fun a e h=>h.elim) f (fun a e h=>h.elim) (fun a a e h=>h.elim) (fun a e h=>h.elim) (fun a e h=>h.elim) (fun a e h=>h.elim) (fun e h=>h.elim) e h
noncomputable def atB (hp:Hp) (i:Nat) (k:Bs->Prop):Prop:=atO hp i fun x=>x.casesOn (fun a=>False) (fun a=>False) k (fun a a=>False) (fun a=>False) (fun a=>False) (fun a=>False) False
theorem atB_on {hp:Hp} {i:Nat} {k:Bs->Prop} {P:Prop} (h:atB hp i k) (f:∀ a,hp[i]?=some (.barr a)->k a->P):P:=atO_on h fun x e h =>
 O.casesOn (motive:=fun x=>hp[i]?=some x->O.casesOn x (fun a=>False) (fun a=>False) k (fun a a=>False) (fun a=>False) (fun a=>False) (fun a=>False) False->P) x (fun a e h=>h.elim) (fun a e h=>h.elim) f (fun a a e h=>h.elim) (fun a e h=>h.elim) (fun a e h=>h.elim) (fun a e h=>h.elim) (fun e h=>h.elim) e h
noncomputable def atN (hp:Hp) (i:Nat) (k:Nat->List V->Prop):Prop:=atO hp i fun x=>x.casesOn (fun a=>False) (fun a=>False) (fun a=>False) k (fun a=>False) (fun a=>False) (fun a=>False) False
theorem atN_on {hp:Hp} {i:Nat} {k:Nat->List V->Prop} {P:Prop} (h:atN hp i k) (f:∀ a b,hp[i]?=some (.ns a b)->k a b->P):P:=atO_on h fun x e h =>
 O.casesOn (motive:=fun x=>hp[i]?=some x->O.casesOn x (fun a=>False) (fun a=>False) (fun a=>False) k (fun a=>False) (fun a=>False) (fun a=>False) False->P) x (fun a e h=>h.elim) (fun a e h=>h.elim) (fun a e h=>h.elim) f (fun a e h=>h.elim) (fun a e h=>h.elim) (fun a e h=>h.elim) (fun e h=>h.elim) e h
noncomputable def atS (hp:Hp) (i:Nat) (k:List (Nat×V)->Prop):Prop:=atO hp i fun x=>x.casesOn (fun a=>False) (fun a=>False) (fun a=>False) (fun a a=>False) k (fun a=>False) (fun a=>False) False
theorem atS_on {hp:Hp} {i:Nat} {k:List (Nat×V)->Prop} {P:Prop} (h:atS hp i k) (f:∀ a,hp[i]?=some (.sdict a)->k a->P):P:=atO_on h fun x e h =>
 O.casesOn (motive:=fun x=>hp[i]?=some x->O.casesOn x (fun a=>False) (fun a=>False) (fun a=>False) (fun a a=>False) k (fun a=>False) (fun a=>False) False->P) x (fun a e h=>h.elim) (fun a e h=>h.elim) (fun a e h=>h.elim) (fun a a e h=>h.elim) f (fun a e h=>h.elim) (fun a e h=>h.elim) (fun e h=>h.elim) e h
noncomputable def atI (hp:Hp) (i:Nat) (k:List (Int×D)->Prop):Prop:=atO hp i fun x=>x.casesOn (fun a=>False) (fun a=>False) (fun a=>False) (fun a a=>False) (fun a=>False) k (fun a=>False) False
theorem atI_on {hp:Hp} {i:Nat} {k:List (Int×D)->Prop} {P:Prop} (h:atI hp i k) (f:∀ a,hp[i]?=some (.idict a)->k a->P):P:=atO_on h fun x e h =>
 O.casesOn (motive:=fun x=>hp[i]?=some x->O.casesOn x (fun a=>False) (fun a=>False) (fun a=>False) (fun a a=>False) (fun a=>False) k (fun a=>False) False->P) x (fun a e h=>h.elim) (fun a e h=>h.elim) (fun a e h=>h.elim) (fun a a e h=>h.elim) (fun a e h=>h.elim) f (fun a e h=>h.elim) (fun e h=>h.elim) e h
noncomputable def atC (hp:Hp) (i:Nat) (k:Option V->Prop):Prop:=atO hp i fun x=>x.casesOn (fun a=>False) (fun a=>False) (fun a=>False) (fun a a=>False) (fun a=>False) (fun a=>False) k False
theorem atC_on {hp:Hp} {i:Nat} {k:Option V->Prop} {P:Prop} (h:atC hp i k) (f:∀ a,hp[i]?=some (.cell a)->k a->P):P:=atO_on h fun x e h =>
 O.casesOn (motive:=fun x=>hp[i]?=some x->O.casesOn x (fun a=>False) (fun a=>False) (fun a=>False) (fun a a=>False) (fun a=>False) (fun a=>False) k False->P) x (fun a e h=>h.elim) (fun a e h=>h.elim) (fun a e h=>h.elim) (fun a a e h=>h.elim) (fun a e h=>h.elim) (fun a e h=>h.elim) f (fun e h=>h.elim) e h
section
variable {S:Sx} {F:Fx S} {mp:Mp} {hp:Hp} {w w0:Wd} {s:Shared} {v:V} {c:Value} {Q:V->Hp->Prop} {E:Value->Shared->Prop}
@[elab_as_elim] theorem asI_of {k:Int->Prop} {P:Value->Prop} (h:asI v k) (r:Rel S w v c) (f:∀ i t,k i->P (.int i t)):P c:=asI_on (R:=fun v=>Rel S w v c) h r fun i h r=>r.elim fun t e=>e▸f i t h
@[elab_as_elim] theorem asB_of {k:Bs->Prop} {P:Value->Prop} (h:asB v k) (r:Rel S w v c) (f:∀ b t,k b->P (.bytes b.toArray t)):P c:=asB_on (R:=fun v=>Rel S w v c) h r fun i h r=>r.elim fun t e=>e▸f i t h
@[elab_as_elim] theorem asS_of {k:Nat->Prop} {P:Value->Prop} (h:asS v k) (r:Rel S w v c) (f:∀ b t,k b->P (.str (nm b) t)):P c:=asS_on (R:=fun v=>Rel S w v c) h r fun i h r=>r.elim fun t e=>e▸f i t h
@[elab_as_elim] theorem asT_of {k:List D->Prop} {P:Value->Prop} (h:asT v k) (r:Rel S w v c) (f:∀ xs a cvs n dd sl,k xs->w.fz a=some ⟨.type "tuple", dd,.seq cvs.toArray n,sl⟩->All2 (RelD S w.fz) xs cvs->P (.ref a)):P c :=
 asT_on (R:=fun v=>Rel S w v c) h r fun i h (r:IsTup ..)=>by cases r with | mk e q=>exact f _ _ _ _ _ _ h e (RelDs.eq.mp q)
inductive OCell (S:Sx) (w:Wd) (s:Shared) (i:Nat) (x:O):Value->Prop
 | mk {a:Addr} {o:Obj}:w.m[i]?=some a->s.heap.get? a=some o->ORel S w x o->OCell S w s i x (.ref a)
theorem At.ref {i:Nat} {x:O} (ha:At F mp hp w s) (e:hp[i]?=some x) (r:Rel S w (.ref i) c) (l:live x=true:=by rfl):OCell S w s i x c:=by
 obtain ⟨a,o,h1,h2,h3⟩:=ha.cell e l
 have r:IsRef w.m i c:=r
 cases r with | mk q=>cases h1.symm.trans q;exact .mk h1 h2 h3
theorem PI {w':Wd} {i:Int} {t:Tok} (l:w0.le w') (a:At F mp hp w' s) (q:Q (.d (.int i)) hp):PostE F mp w0 Q (.int i t) s := .mk (v := .d (.int i)) l ⟨t,rfl⟩ a q
theorem PB {w':Wd} {b:Bs} {t:Tok} (l:w0.le w') (a:At F mp hp w' s) (q:Q (.d (.bytes b)) hp):PostE F mp w0 Q (.bytes b.toArray t) s := .mk (v := .d (.bytes b)) l ⟨t,rfl⟩ a q
theorem PBo {w':Wd} {b:Bool} (l:w0.le w') (a:At F mp hp w' s) (q:Q (.d (.bool b)) hp):PostE F mp w0 Q (.bool b) s := .mk (v := .d (.bool b)) l rfl a q
theorem PN {w':Wd} (l:w0.le w') (a:At F mp hp w' s) (q:Q (.d .none) hp):PostE F mp w0 Q .none s := .mk (v := .d .none) l rfl a q
theorem PT {w':Wd} {xs:List D} {a:Addr} {cvs:List Value} {n:Nat} {dd:Option Addr} {sl:Array (Option Value)} (l:w0.le w') (e:w'.fz a=some ⟨.type "tuple", dd,.seq cvs.toArray n,sl⟩) (r:All2 (RelD S w'.fz) xs cvs) (ha:At F mp hp w' s) (q:Q (.d (.tup xs)) hp):PostE F mp w0 Q (.ref a) s :=
 .mk (v := .d (.tup xs)) l (.mk e (RelDs.eq.mpr r)) ha q
theorem PRef {w':Wd} {a:Addr} {x:O} (l:w0.le w') {F':Fx S} (hl:Wf F' hp w') (a':At F mp (hp++[x]) (w'.add a) s) (q:Q (.ref hp.length) (hp++[x])):PostE F mp w0 Q (.ref a) s :=
 .mk (v := .ref hp.length) (l.trans (w'.add_le a)) (.mk (by rw [<- hl.len];exact List.getElem?_concat_length)) a' q
end
end Mine.C
namespace Mine.C
structure Bo where
 op:Operator
 W:V->V->Hp->(V->Hp->Prop)->Prop
 ok:∀ {S:Sx} {F:Fx S} {mp:Mp} {hp:Hp} {w w0:Wd} {s:Shared} {a b:V} {ca cb:Value} {Q:V->Hp->Prop} {E:Value->Shared->Prop},W a b hp Q->At F mp hp w s->Rel S w a ca->Rel S w b cb->w0.le w ->
  PySem.wpAny (model S.prog S.w) F.A (binaryOp op ca cb) (PostE F mp w0 Q) E s
theorem bits64 {i:Int} (h:i.natAbs < 2 ^ 63):Builtin.Int.intBits i<=64:=intBits_le_64 (by omega) (by omega)
noncomputable def addI:Bo:=⟨.Add,fun a b hp Q=>asI a fun i=>asI b fun j=>Q (.d (.int (i+j))) hp,fun h ha ra rb l=>asI_of h ra fun i t h=>asI_of h rb fun j u h=>add_int (PI l (ha.toks _) h)⟩
noncomputable def subI:Bo:=⟨.Sub,fun a b hp Q=>asI a fun i=>asI b fun j=>Q (.d (.int (i - j))) hp,fun h ha ra rb l=>asI_of h ra fun i t h=>asI_of h rb fun j u h=>sub_int (PI l (ha.toks _) h)⟩
noncomputable def mulI:Bo:=⟨.Mult,fun a b hp Q=>asI a fun i=>asI b fun j=>(i.natAbs < 2 ^ 63\/j.natAbs < 2 ^ 63)/\Q (.d (.int (i*j))) hp,
 fun h ha ra rb l=>asI_of h ra fun i t h=>asI_of h rb fun j u h=>mul_int (PI l (ha.toks _) h.2) (h.1.elim (fun h=>IntMulOk.of_left (bits64 h)) fun h=>IntMulOk.of_right (bits64 h))⟩
theorem div_short {j:Int} (h:0 < j/\j < 2 ^ 30) (i:Int):Builtin.divisionGoesByPylong i j=false:=by
 unfold Builtin.divisionGoesByPylong
 have:j.natAbs.log2 < 30:=(Nat.log2_lt (by omega)).mpr (by omega)
 simp only [Bool.and_eq_false_iff,decide_eq_false_iff_not]
 left
 split<;>omega
noncomputable def divI:Bo:=⟨.FloorDiv,fun a b hp Q=>asI a fun i=>asI b fun j=>(0 < j/\j < 2 ^ 30)/\Q (.d (.int (i / j))) hp,
 fun h ha ra rb l=>asI_of h ra fun i t h=>asI_of h rb fun j u h=>floordiv_int (Int.ne_of_gt h.1.1) (PI l (ha.toks _) (by rw [Int.fdiv_eq_ediv_of_nonneg _ (Int.le_of_lt h.1.1)];exact h.2)) (.inl (div_short h.1 i))⟩
noncomputable def modI:Bo:=⟨.Mod,fun a b hp Q=>asI a fun i=>asI b fun j=>0 < j/\Q (.d (.int (i % j))) hp,
 fun h ha ra rb l=>asI_of h ra fun i t h=>asI_of h rb fun j u h=>mod_int' (Int.ne_of_gt h.1) (PI l (ha.toks _) (by rw [Int.fmod_eq_emod_of_nonneg _ (Int.le_of_lt h.1)];exact h.2))⟩
theorem and255 {i:Int} (h:0<=i):Builtin.bitAnd i 255=i % 256:=by
 rw [bitAnd_pp h (by decide),show (255:Int).toNat=2 ^ 8 - 1 by decide,Nat.and_two_pow_sub_one_eq_mod]
 omega
noncomputable def andI:Bo:=⟨.BitAnd,fun a b hp Q=>asI a fun i=>asI b fun j=>(0<=i/\j=255)/\Q (.d (.int (i % 256))) hp,
 fun h ha ra rb l=>asI_of h ra fun i t h=>asI_of h rb fun j u h=>and_int (PI l (ha.toks _) (by rw [h.1.2,and255 h.1.1];exact h.2))⟩
noncomputable def powI:Bo:=⟨.Pow,fun a b hp Q=>asI a fun i=>asI b fun j=>(i=10/\0<=j/\j<=100)/\Q (.d (.int (10 ^ j.toNat))) hp,
 fun h ha ra rb l=>asI_of h ra fun i t h=>asI_of h rb fun j u h=>by
  obtain ⟨⟨rfl,h2,h3⟩,q⟩:=h
  refine pow_int h2 ?_ (PI l (ha.toks _) q)
  exact Int.le_trans (Int.mul_le_mul (Int.ofNat_le.mpr (bits64 (i:=10) (by decide))) h3 h2 (by decide)) (show (64:Int)*100<=_ by decide)⟩
noncomputable def catB:Bo:=⟨.Add,fun a b hp Q=>asB a fun x=>asB b fun y=>x.length+y.length<=16777216/\Q (.d (.bytes (x++y))) hp,
 fun h ha ra rb l=>asB_of h ra fun x t h=>asB_of h rb fun y u h=>KBy.add_bytes (by simpa using h.1) fun t' k=>by rw [List.append_toArray];exact PB l (ha.toks _) h.2⟩
theorem rep1 (c:UInt8) (k:Nat):(List.replicate k [c]).flatten=List.replicate k c:=by
 induction k with
 | zero=>rfl
 | succ k ih=>rw [List.replicate_succ,List.flatten_cons,ih];rfl
noncomputable def repB (c:UInt8):Bo:=⟨.Mult,fun a b hp Q=>asB a fun x=>asI b fun n=>(x=[c]/\0<=n/\n<=1000)/\Q (.d (.bytes (List.replicate n.toNat c))) hp,
 fun h ha ra rb l=>asB_of h ra fun x t h=>asI_of h rb fun n u h=>by
  obtain ⟨⟨rfl,h2,h3⟩,q⟩:=h
  exact bytes_mul_any (by simp) (by omega) (by omega) (by simp) fun t' k=>by rw [rep1];exact PB l (ha.toks _) q⟩
noncomputable def catT:Bo:=⟨.Add,fun a b hp Q=>asT a fun x=>asT b fun y=>x.length+y.length<=1000/\Q (.d (.tup (x++y))) hp,
 fun {S F mp hp w w0 s a b ca cb Q E} h ha ra rb l=>asT_of h ra fun x p cx nx dx sx h ex rx=>asT_of h rb fun y q cy ny dy sy h ey ry=>by
  obtain ⟨news,i⟩:=ha.inv
  refine add_tuples (vs:=cx) (ws:=cy) i.fr i.nw ⟨_,i.get ex,rfl,nx,rfl⟩ ⟨_,i.get ey,rfl,ny,rfl⟩ (fun e=>?_) (fun a e=>?_) (fun a b h' F' N'=>?_) (by rw [rx.length,ry.length];exact Nat.le_trans h.1 (by decide))
  ·subst e
   have:x=[]:=List.eq_nil_of_length_eq_zero rx.length.symm
   subst this
   exact PT l ey ry ⟨ha.len,news,i⟩ h.2
  ·subst e
   have:y=[]:=List.eq_nil_of_length_eq_zero ry.length.symm
   subst this
   exact PT l ex rx ⟨ha.len,news,i⟩ (by have:=h.2;rwa [List.append_nil] at this)
  ·obtain ⟨a',l'⟩:=i.icy (s':={ s with heap:=h' }) ha.len F' N' i.size rfl rfl
   exact PT (l.trans l') (Fz.set_at _ _ _) ((All2.app ry rx).imp fun a b=>RelD.mono l'.fz) a' h.2⟩
noncomputable def as2L (a b:V) (hp:Hp) (k:List D->List D->Prop):Prop:=asRef a fun i=>asRef b fun j=>atL hp i fun x=>atL hp j fun y=>k x y
@[elab_as_elim] theorem as2L_of {S:Sx} {F:Fx S} {mp:Mp} {hp:Hp} {w:Wd} {s:Shared} {a b:V} {ca cb:Value} {k:List D->List D->Prop} {P:Value->Value->Prop} (h:as2L a b hp k) (ha:At F mp hp w s) (ra:Rel S w a ca) (rb:Rel S w b cb)
  (f:∀ x y p q cx nx cy ny,k x y->s.heap.get? p=some (listOf (List.toArray cx) nx)->s.heap.get? q=some (listOf (List.toArray cy) ny)->All2 (RelD S w.fz) x cx->All2 (RelD S w.fz) y cy->P (.ref p) (.ref q)):P ca cb :=
 asRef_on (R:=fun v=>Rel S w v ca) h ra fun i h ra=>asRef_on (R:=fun v=>Rel S w v cb) h rb fun j h rb=>atL_on h fun x ex h=>atL_on h fun y ey h=>by
  cases At.ref ha ex ra with | mk g1 g2 g3=>cases At.ref ha ey rb with | mk k1 k2 k3 =>
  cases (show IsList .. from g3) with | mk g4=>cases (show IsList .. from k3) with | mk k4=>exact f _ _ _ _ _ _ _ _ h g2 k2 g4 k4
noncomputable def catL:Bo:=⟨.Add,fun a b hp Q=>as2L a b hp fun x y=>x.length+y.length<=16777216/\Q (.ref hp.length) (hp++[.list (x++y)]),
 fun {S F mp hp w w0 s a b ca cb Q E} h ha ra rb l=>as2L_of h ha ra rb fun x y p q cx nx cy ny h ex ey rx ry=>by
  obtain ⟨news,i⟩:=ha.inv
  refine add_arrays (its:=cx.toArray) (its2:=cy.toArray) i.fr i.nw ⟨_,ex,rfl,nx,rfl⟩ ⟨_,ey,rfl,ny,rfl⟩ (fun h' F' N'=>?_) (by simp only [List.size_toArray];rw [rx.length,ry.length];exact Nat.le_trans h.1 (by decide))
  have a':=i.alloc (s':={ s with heap:=h' }) (x := .list (x++y)) ha.len F' N' i.size (IsList.mk (n:=0) (All2.app ry rx)) rfl rfl
  exact PRef l ha.len a' h.2⟩
end Mine.C
namespace Mine
variable {prog:Program} {w:World} {A:Around} {E:Value->Shared->Prop} {s:Shared}
theorem byte_contains (b:List UInt8) {i:Int} (h0:0<=i) (h1:i < 256):b.toArray.contains i.toNat.toUInt8=b.any fun c=>(c.toNat:Int)==i:=by
 have e:i.toNat.toUInt8.toNat=i.toNat:=by
  have:i.toNat < 256:=by omega
  simp [Nat.toUInt8,UInt8.toNat_ofNat,Nat.mod_eq_of_lt this]
 rw [List.contains_toArray]
 induction b with
 | nil=>rfl
 | cons c r ih =>
  rw [List.contains_cons,List.any_cons,ih]
  congr 1
  rw [Bool.eq_iff_iff,beq_iff_eq,beq_iff_eq]
  constructor
  ·intro h;rw [<- h,e];omega
  ·intro h
   apply UInt8.toNat_inj.mp
   rw [e];omega
theorem wp_bytes_contains {M:Model} {A:Around} {E:Value->Shared->Prop} {s:Shared} {Q:Value->Shared->Prop} (b:Array UInt8) (i:Int) (t u:Tok) (h0:0<=i) (h1:i < 256)
  (hq:Q (.bool (b.contains i.toNat.toUInt8)) s):wpAny M A (Builtin.«bytes.__contains__» ⟨[.bytes b t,.int i u],[]⟩) (fun fin s'=>∃ v,fin = .done (.ret v)/\Q v s') E s:=by
 show wpAny M A ((asIndex (.int i u)).attempt >>= _ >>= _) _ E s
 refine wpAny_bind (wpAny_bind ?_)
 show wpAny M A (pure (Except.ok i)) _ E s
 refine wpAny_pure ?_
 rw [KBy.buffer_eq]
 show wpAny M A ((if (decide (i < 0)||decide (i>=256))=true then _ else _):Sem Bool) _ E s
 rw [if_neg (by simp;omega)]
 exact wpAny_pure (wpAny_pure ⟨_,rfl,hq⟩)
theorem in_bytes {b:List UInt8} {i:Int} {t u:Tok} {Q:Value->Shared->Prop} (h0:0<=i) (h1:i < 256) (h:Q (.bool (b.any fun c=>(c.toNat:Int)==i)) s) :
  wpAny (model prog w) A (compareOp .In (.int i t) (.bytes b.toArray u)) Q E s:=by
 show wpAny _ _ (do return .bool (<- contains (.bytes b.toArray u) (.int i t))) Q E s
 refine wpAny_bind ?_
 unfold contains
 try with_reducible refine wpAny_holding ?_
 refine wpAny_bind (wpAny_specialOf (typeIs_bytes s _ u) FB.slot_bytes_contains.lookup ?_)
 show wpAny _ _ (if (some (Value.builtin "bytes.__contains__")==some Value.none)=true then _ else _) _ E s
 rw [if_neg (by rw [beq_builtin_none];exact Bool.false_ne_true)]
 refine wpAny_bind (wpAny_callSpecialUnlessNone?_slot (name:=Str.ofString "__contains__") (typeIs_bytes s _ u) FB.slot_bytes_contains
  (wpAny_call_entry FB.slot_bytes_contains (typeIs_bytes s _ u) FB.entry_bytes_contains ?_ (FB.args_bytes_contains_2 _ _)))
 refine wp_bytes_contains _ _ _ _ h0 h1 ?_
 rw [byte_contains b h0 h1]
 exact wpAny_truthy_bool (wpAny_pure h)
theorem notIn_bytes {b:List UInt8} {i:Int} {t u:Tok} {Q:Value->Shared->Prop} (h0:0<=i) (h1:i < 256) (h:Q (.bool (!b.any fun c=>(c.toNat:Int)==i)) s) :
  wpAny (model prog w) A (compareOp .NotIn (.int i t) (.bytes b.toArray u)) Q E s:=by
 show wpAny _ _ (do return .bool (!(<- contains (.bytes b.toArray u) (.int i t)))) Q E s
 refine wpAny_bind ?_
 unfold contains
 try with_reducible refine wpAny_holding ?_
 refine wpAny_bind (wpAny_specialOf (typeIs_bytes s _ u) FB.slot_bytes_contains.lookup ?_)
 show wpAny _ _ (if (some (Value.builtin "bytes.__contains__")==some Value.none)=true then _ else _) _ E s
 rw [if_neg (by rw [beq_builtin_none];exact Bool.false_ne_true)]
 refine wpAny_bind (wpAny_callSpecialUnlessNone?_slot (name:=Str.ofString "__contains__") (typeIs_bytes s _ u) FB.slot_bytes_contains
  (wpAny_call_entry FB.slot_bytes_contains (typeIs_bytes s _ u) FB.entry_bytes_contains ?_ (FB.args_bytes_contains_2 _ _)))
 refine wp_bytes_contains _ _ _ _ h0 h1 ?_
 rw [byte_contains b h0 h1]
 exact wpAny_truthy_bool (wpAny_pure h)
theorem eqAt_bytes (b c:List UInt8) (t u:Tok):SeqAt.EqAt A s (.bytes b.toArray t) (.bytes c.toArray u) (b==c):=fun prog w E Q h=>by
 unfold eqBool
 refine wpAny_holding ?_
 refine wpAny_ite_split (fun hab=>?_) (fun hab=>?_)
 ·have:b=c:=by have:=eq_of_beq hab;injection this with e _;simpa using e
  subst this
  rw [beq_self_eq_true] at h
  exact wpAny_bind (wpAny_rule (wpAny_pure h))
 ·exact wpAny_bind (eq_bytes (wpAny_truthy_bool h))
theorem eqAt_int (a b:Int) (t u:Tok):SeqAt.EqAt A s (.int a t) (.int b u) (a==b):=(MeetsSeq.EqGives.int a b t u).at A s
theorem eqAt_str (a b:Str) (t u:Tok):SeqAt.EqAt A s (.str a t) (.str b u) (a==b):=(eqGives_str a b t u).at A s
theorem extract_one (b:Bs) (c:UInt8) {i:Nat} (hi:i < b.length):(b.toArray.extract i (i+1)==#[c])=(b[i]==c):=by
 have:b.toArray.extract i (i+1)=#[b[i]]:=by
  apply Array.ext
  ·simp;omega
  ·intro j h1 h2;simp at h1 h2;subst h2;simp
 rw [this,Bool.eq_iff_iff,beq_iff_eq,beq_iff_eq]
 constructor
 ·intro h;simpa using h
 ·intro h;rw [h]
theorem find_one (b:Bs) (c:UInt8):(Builtin.Bytes.find? b.toArray #[c] 0 b.toArray.size).isSome=b.contains c:=by
 have e:(Builtin.Bytes.find? b.toArray #[c] 0 b.toArray.size).isSome=((List.range b.length).find? fun i=>b.toArray.extract i (i+1)==#[c]).isSome:=by
  unfold Builtin.Bytes.find?
  simp
 rw [e,Bool.eq_iff_iff,List.find?_isSome,List.contains_iff_mem]
 constructor
 ·rintro ⟨i,h1,h2⟩
  have hi:=List.mem_range.mp h1
  rw [extract_one b c hi,beq_iff_eq] at h2
  exact h2▸List.getElem_mem hi
 ·intro h
  obtain ⟨i,hi,e⟩:=List.getElem_of_mem h
  exact ⟨i,List.mem_range.mpr hi,by rw [extract_one b c hi,e];simp⟩
theorem cut_bytes {n:Nat} {x:Array UInt8} {t:Tok} {s:Shared} {M:Model} {A:Around} {E:Value->Shared->Prop} {Q:String->Shared->Prop} (h:Q "bytes" s):wpAny M A (typeNameOfCut n (.bytes x t)) Q E s:=by
 unfold typeNameOfCut shownTypeOf
 refine wpAny_bind (wpAny_bind (wpAny_typeOf (typeIs_bytes s x t) ?_))
 simp only [show (Value.type "bytes" == Value.type "builtin_function_or_method")=false by decide,Bool.false_eq_true,if_false]
 refine wpAny_pure ?_
 rw [show typeNameCut n (.type "bytes")=pure "bytes" by kernel_rfl]
 exact wpAny_pure h
theorem contains_bytes {S:Sx} {b:Bs} {c:UInt8} {t u:Tok} {s:Shared} {R:Bool->Shared->Prop} {E:Value->Shared->Prop} {A:Around} (hh:A.handled=none) (h:∀ h' tk,(∀ b o,s.heap.get? b=some o->h'.get? b=some o)->R (b.contains c) { s with heap:=h',toks:=tk }) :
  wpAny (model S.prog S.w) A (Builtin.«bytes.__contains__» ⟨[.bytes b.toArray u,.bytes #[c] t],[]⟩) (fun fin s'=>∃ v,fin = .done (.ret (.bool v))/\R v s') E s:=by
 show wpAny _ A ((asIndex (.bytes #[c] t)).attempt >>= _ >>= _) _ E s
 refine wpAny_bind (wpAny_bind (wpAny_attempt ?_))
 unfold asIndex
 refine wpAny_bind (wpAny_pure ?_)
 dsimp only
 refine wpAny_bind (wpAny_bind (wpAny_specialOf (r:=none) (typeIs_bytes s _ _) (by rw [typeLookup_type,builtinLookup_eq_fast];kernel_rfl) ?_))
 dsimp only
 refine wpAny_pure ?_
 dsimp only
 refine wpAny_bind (cut_bytes ?_)
 refine wpAny_raiseErrorMade plainExc_TypeError hh (fun h' tk e hn=>?_) (by unfold sizeLine;decide +kernel)
 rw [KBy.buffer_eq]
 refine wpAny_bind (wpAny_pure ?_)
 dsimp only
 rw [KBy.buffer_eq]
 refine wpAny_bind (wpAny_pure ?_)
 dsimp only
 refine wpAny_bind (wpAny_rule ?_)
 rw [find_one]
 exact wpAny_pure (wpAny_pure ⟨_,rfl,h _ _ hn.keeps⟩)
theorem in_bytes_bytes {S:Sx} {b:Bs} {c:UInt8} {t u:Tok} {s:Shared} {Q E:Value->Shared->Prop} {A:Around} (hh:A.handled=none) (h:∀ h' tk,(∀ b o,s.heap.get? b=some o->h'.get? b=some o)->Q (.bool (b.contains c)) { s with heap:=h',toks:=tk }) :
  wpAny (model S.prog S.w) A (compareOp .In (.bytes #[c] t) (.bytes b.toArray u)) Q E s:=by
 show wpAny _ _ (do return .bool (<- contains (.bytes b.toArray u) (.bytes #[c] t))) Q E s
 refine wpAny_bind ?_
 unfold contains
 try with_reducible refine wpAny_holding ?_
 refine wpAny_bind (wpAny_specialOf (typeIs_bytes s _ u) FB.slot_bytes_contains.lookup ?_)
 show wpAny _ _ (if (some (Value.builtin "bytes.__contains__")==some Value.none)=true then _ else _) _ E s
 rw [if_neg (by rw [beq_builtin_none];exact Bool.false_ne_true)]
 refine wpAny_bind (wpAny_callSpecialUnlessNone?_slot (name:=Str.ofString "__contains__") (typeIs_bytes s _ u) FB.slot_bytes_contains
  (wpAny_call_entry FB.slot_bytes_contains (typeIs_bytes s _ u) FB.entry_bytes_contains ?_ (FB.args_bytes_contains_2 _ _)))
 refine wpAny_mono (contains_bytes (R:=fun r s'=>Q (.bool r) s') hh h) (fun fin s' ⟨r,e,q⟩=>⟨_,e,?_⟩) fun _ _ x=>x
 exact wpAny_truthy_bool (wpAny_pure q)
end Mine
namespace Mine.C
def PostC {S:Sx} (F:Fx S) (mp:Mp) (hp:Hp) (w:Wd) (Q:Bool->Prop) (cv:Value) (s:Shared):Prop:=∃ r,cv = .bool r/\At F mp hp w s/\Q r
structure Co where
 op:CmpOp
 W:V->V->Hp->(Bool->Prop)->Prop
 ok:∀ {S:Sx} {F:Fx S} {mp:Mp} {hp:Hp} {w:Wd} {s:Shared} {a b:V} {ca cb:Value} {Q:Bool->Prop} {E:Value->Shared->Prop},W a b hp Q->At F mp hp w s->Rel S w a ca->Rel S w b cb ->
  PySem.wpAny (model S.prog S.w) F.A (compareOp op ca cb) (PostC F mp hp w Q) E s
noncomputable def eqI:Co:=⟨.Eq,fun a b hp Q=>asI a fun i=>asI b fun j=>Q (i==j),fun h ha ra rb=>asI_of h ra fun i t h=>asI_of h rb fun j u h=>eq_int ⟨_,rfl,ha,h⟩⟩
noncomputable def neI:Co:=⟨.NotEq,fun a b hp Q=>asI a fun i=>asI b fun j=>Q (i != j),fun h ha ra rb=>asI_of h ra fun i t h=>asI_of h rb fun j u h=>PyProof.Rows.ne_int ⟨_,rfl,ha,h⟩⟩
noncomputable def ltI:Co:=⟨.Lt,fun a b hp Q=>asI a fun i=>asI b fun j=>Q (decide (i < j)),fun h ha ra rb=>asI_of h ra fun i t h=>asI_of h rb fun j u h=>PyProof.Rows.lt_int ⟨_,rfl,ha,h⟩⟩
noncomputable def leI:Co:=⟨.LtE,fun a b hp Q=>asI a fun i=>asI b fun j=>Q (decide (i<=j)),fun h ha ra rb=>asI_of h ra fun i t h=>asI_of h rb fun j u h=>PyProof.Rows.le_int ⟨_,rfl,ha,h⟩⟩
noncomputable def gtI:Co:=⟨.Gt,fun a b hp Q=>asI a fun i=>asI b fun j=>Q (decide (i > j)),fun h ha ra rb=>asI_of h ra fun i t h=>asI_of h rb fun j u h=>PyProof.Rows.gt_int ⟨_,rfl,ha,h⟩⟩
noncomputable def geI:Co:=⟨.GtE,fun a b hp Q=>asI a fun i=>asI b fun j=>Q (decide (i>=j)),fun h ha ra rb=>asI_of h ra fun i t h=>asI_of h rb fun j u h=>PyProof.Rows.ge_int ⟨_,rfl,ha,h⟩⟩
theorem nm_beq (i j:Nat):(nm i==nm j)=(i==j):=by
 by_cases q:i=j
 ·rw [q,beq_self_eq_true,beq_self_eq_true]
 ·rw [beq_eq_false_iff_ne.mpr q,beq_eq_false_iff_ne.mpr fun z=>q (nm_inj z)]
noncomputable def eqS:Co:=⟨.Eq,fun a b hp Q=>asS a fun i=>asS b fun j=>Q (i==j),fun h ha ra rb=>asS_of h ra fun i t h=>asS_of h rb fun j u h=>PyProof.Rows.eq_str ⟨_,rfl,ha,by rw [nm_beq];exact h⟩⟩
noncomputable def eqB:Co:=⟨.Eq,fun a b hp Q=>asB a fun i=>asB b fun j=>Q (i==j),fun h ha ra rb=>asB_of h ra fun i t h=>asB_of h rb fun j u h=>eq_bytes ⟨_,rfl,ha,h⟩⟩
noncomputable def neB:Co:=⟨.NotEq,fun a b hp Q=>asB a fun i=>asB b fun j=>Q (!(i==j)),fun h ha ra rb=>asB_of h ra fun i t h=>asB_of h rb fun j u h=>ne_bytes ⟨_,rfl,ha,h⟩⟩
noncomputable def isNone (v:V) (k:Bool->Prop):Prop:=v.casesOn (fun x=>x.casesOn (k true) (fun a=>k false) (fun a=>k false) (fun a=>k false) (fun a=>k false) (fun a=>k false) (fun a b=>k false) (fun a=>k false) (fun a=>k false)) (fun a b=>k false) (fun a=>k false) (fun a b=>k false) (fun a=>False) (fun a=>False) (fun a=>False)
theorem isNone_of {S:Sx} {w:Wd} {v:V} {c:Value} {k:Bool->Prop} {P:Prop} (h:isNone v k) (r:Rel S w v c) (t:c = .none->k true->P) (f:c ≠ .none->PySem.plainIs c .none=true->k false->P):P:=by
 cases v with
 | d x=>cases x with
  | none=>exact t r h
  | tup=>cases (show IsTup .. from r);exact f (fun e=>nomatch e) rfl h
  | obj=>cases (show IsOb .. from r);exact f (fun e=>nomatch e) rfl h
  | list=>cases (show IsFl .. from r);exact f (fun e=>nomatch e) rfl h
  | barr=>cases (show IsFb .. from r);exact f (fun e=>nomatch e) rfl h
  | bool=>cases (show _=Value.bool _ from r);exact f (fun e=>nomatch e) rfl h
  | _=>obtain ⟨t,e⟩:=r;subst e;exact f (fun e=>nomatch e) rfl h
 | pair=>cases (show IsTup .. from r);exact f (fun e=>nomatch e) rfl h
 | ref=>cases (show IsRef .. from r);exact f (fun e=>nomatch e) rfl h
 | inst=>cases (show IsIn .. from r);exact f (fun e=>nomatch e) rfl h
 | _=>exact h.elim
noncomputable def isN:Co:=⟨.Is,fun a b hp Q=>b = .d .none/\isNone a Q,fun h ha ra rb=>by
 cases h.1;cases (show _=Value.none from rb)
 exact isNone_of h.2 ra (fun e q=>by subst e;exact wpAny_is_self rfl ⟨_,rfl,ha,q⟩) fun e z q=>wpAny_is_other z e ⟨_,rfl,ha,q⟩⟩
noncomputable def isNotN:Co:=⟨.IsNot,fun a b hp Q=>b = .d .none/\isNone a fun r=>Q !r,fun h ha ra rb=>by
 cases h.1;cases (show _=Value.none from rb)
 exact isNone_of h.2 ra (fun e q=>by subst e;exact wpAny_isNot_self rfl ⟨_,rfl,ha,q⟩) fun e z q=>wpAny_isNot_other z e ⟨_,rfl,ha,q⟩⟩
noncomputable def octIn (i:Int) (b:Bs):Bool:=b.any fun c=>(c.toNat:Int)==i
noncomputable def inB:Co:=⟨.In,fun a b hp Q=>asI a fun i=>asB b fun b=>(0<=i/\i < 256)/\Q (octIn i b),fun h ha ra rb=>asI_of h ra fun i t h=>asB_of h rb fun j u h=>in_bytes h.1.1 h.1.2 ⟨_,rfl,ha,h.2⟩⟩
noncomputable def notInB:Co:=⟨.NotIn,fun a b hp Q=>asI a fun i=>asB b fun b=>(0<=i/\i < 256)/\Q (!octIn i b),fun h ha ra rb=>asI_of h ra fun i t h=>asB_of h rb fun j u h=>notIn_bytes h.1.1 h.1.2 ⟨_,rfl,ha,h.2⟩⟩
noncomputable def inBB (c:UInt8):Co:=⟨.In,fun a b hp Q=>asB a fun x=>asB b fun b=>x=[c]/\Q (b.contains c),fun {S F mp hp w s a b ca cb Q E} h ha ra rb=>asB_of h ra fun x t h=>asB_of h rb fun j u h=>by
 obtain ⟨rfl,q⟩:=h
 exact in_bytes_bytes F.handled fun h' tk k=>⟨_,rfl,ha.ext k,q⟩⟩
noncomputable def isB (x:Bs) (c:Value):Bool:=match c with
 | .bytes z _=>z==x.toArray
 | _=>false
theorem isB_eq (x z:Bs) (u:Tok):isB x (.bytes z.toArray u)=(z==x):=by
 show (z.toArray==x.toArray)=(z==x)
 simp
noncomputable def inTs (x:Bs):List D->(Bool->Prop)->Prop:=fun xs=>xs.rec (fun k=>k false) fun y r ih k=>asB (.d y) fun y=>ih fun b=>k (x==y||b)
theorem inTs_of {S:Sx} {fz:Fz} {A:Around} {s:Shared} {x:Bs} {t:Tok} {P:Prop} {xs:List D}:∀ {k:Bool->Prop} {cvs:List Value},inTs x xs k->All2 (RelD S fz) xs cvs->((∀ y∈cvs,SeqAt.EqAt A s y (.bytes x.toArray t) (isB x y))->k (cvs.any (isB x))->P)->P:=by
 induction xs with
 | nil=>intro k cvs h e f;cases e;exact f (fun y m=>nomatch m) h
 | cons y r ih =>
  intro k cvs h e f
  cases (show IsCons .. from e) with | mk e1 e2 =>
  refine asB_on (R:=fun v=>∀ c,Rel S ⟨[],fz⟩ v c↔RelD S fz y c) h (fun c => .rfl) fun z h r=>?_
  obtain ⟨u,q⟩:=(r _).mpr e1
  subst q
  refine ih h e2 fun g hk=>f (fun c m=>?_) ?_
  ·rcases List.mem_cons.mp m with rfl | m
   ·rw [isB_eq];exact eqAt_bytes z x u t
   ·exact g c m
  ·rw [List.any_cons]
   rw [isB_eq,Bool.beq_comm];exact hk
noncomputable def inT:Co:=⟨.In,fun a b hp Q=>asB a fun x=>asT b fun xs=>inTs x xs Q,fun {S F mp hp w s a b ca cb Q E} h ha ra rb=>asB_of h ra fun x t h=>asT_of h rb fun xs p cvs n dd sl h e r =>
 inTs_of (A:=F.A.in1) (s:=s) (t:=t) h r fun g q=>SeqAt.in_tupleAt (isB x) (items:=cvs.toArray) ⟨_,ha.get e,rfl,n,rfl⟩ (fun y m=>g y (by simpa using m)) (by rw [List.any_toArray];exact ⟨_,rfl,ha,q⟩)⟩
theorem isSys {S:Sx} {F:Fx S} {mp:Mp} {hp:Hp} {w:Wd} {s:Shared} {i:Nat} {a:Addr} {x:O} (ha:At F mp hp w s) (h:w.m[i]?=some a) (e:hp[i]?=some x) (l:live x=true:=by rfl):(a==sysModules)=false:=by
 obtain ⟨o',ho'⟩:=Option.isSome_iff_exists.mp S.sys
 obtain ⟨news,j⟩:=ha.inv
 refine beq_eq_false_iff_ne.mpr fun q=>?_
 obtain ⟨o,m,_⟩:=j.own _ (List.mem_append_right _ (cells_at h e l))
 have:=(j.nw _ m).2.2
 rw [show ((a,o):Addr×Obj).1=sysModules from q,ho'] at this;cases this
theorem valueAt_eq {K:Type} [DecidableEq K] [BEq K] [LawfulBEq K] (k:K) (kvs:List (K×Value)):valueAt kvs k=kvs.lookup k:=by
 induction kvs with
 | nil=>rfl
 | cons p r ih =>
  unfold valueAt at ih ⊢
  rw [List.find?_cons,List.lookup_cons]
  by_cases h:p.1=k
  ·rw [decide_eq_true h,beq_iff_eq.mpr h.symm];rfl
  ·rw [decide_eq_false h,beq_eq_false_iff_ne.mpr fun q=>h q.symm];exact ih
theorem lookup_rel {α β γ:Type} [BEq α] [LawfulBEq α] [BEq β] [LawfulBEq β] {g:α->β} (hg:∀ a b,g a=g b->a=b) {R:γ->Value->Prop} {k:α} {fs:List (α×γ)}:∀ {kvs:List (β×Value)},All2 (PairR g R) fs kvs ->
  (∀ v,fs.lookup k=some v->∃ cv,kvs.lookup (g k)=some cv/\R v cv)/\(fs.lookup k).isSome=(kvs.lookup (g k)).isSome:=by
 induction fs with
 | nil=>intro kvs e;cases e;exact ⟨fun v e=>(by cases e),rfl⟩
 | cons p r ih =>
  intro kvs e
  cases (show IsCons .. from e) with | @mk q t e1 e2 =>
  have hq:q.1=g p.1:=e1.1
  rw [List.lookup_cons,List.lookup_cons,hq]
  by_cases h:k=p.1
  ·rw [h,beq_self_eq_true,beq_self_eq_true]
   exact ⟨fun v e=>⟨_,rfl,(Option.some.inj e)▸e1.2⟩,rfl⟩
  ·rw [beq_eq_false_iff_ne.mpr h,beq_eq_false_iff_ne.mpr fun z=>h (hg _ _ z)]
   exact ih e2
theorem idInj (a b:Int) (h:id a=id b):a=b:=h
noncomputable def inD:Co:=⟨.In,fun a b hp Q=>asI a fun k=>asRef b fun i=>atI hp i fun fs=>Q (fs.lookup k).isSome,fun {S F mp hp w s a b ca cb Q E} h ha ra rb=>asI_of h ra fun k t h=>asRef_on (R:=fun v=>Rel S w v cb) h rb fun i h rb=>atI_on h fun fs e h=>by
 cases At.ref ha e rb with | mk g1 g2 g3 =>
 cases (show IsDi .. from g3) with | @mk kvs o g3 g4 =>
 have e':(fs.lookup k).isSome=(kvs.lookup k).isSome:=(lookup_rel (g:=id) idInj g4).2
 refine wpAny_in_of (k:=k) (intKind_is _ _ _ _) (isSys ha g1 e) ((Heap.dictOf_iff.mpr ⟨_,g2,g3⟩).mapOf) ?_
 rw [valueAt_eq,<- e']
 exact ⟨_,rfl,ha.toks _,h⟩⟩
noncomputable def D.prim (x:D):Bool:=x.casesOn false (fun a=>false) (fun a=>true) (fun a=>true) (fun a=>true) (fun a=>false) (fun a b=>false) (fun a=>false) (fun a=>false)
noncomputable def D.data (x:D):Bool:=x.casesOn false (fun a=>false) (fun a=>true) (fun a=>true) (fun a=>true) (fun a=>a.all D.prim) (fun a b=>false) (fun a=>false) (fun a=>false)
section
variable {S:Sx} {fz:Fz} {A:Around} {s:Shared}
theorem eqAt_prim {v:D} {c1 c2:Value} (hd:D.prim v=true) (r1:RelD S fz v c1) (r2:RelD S fz v c2):SeqAt.EqAt A s c1 c2 true:=by
 cases v with
 | int i=>obtain ⟨t,rfl⟩:=r1;obtain ⟨u,rfl⟩:=r2;have:=eqAt_int (A:=A) (s:=s) i i t u;rwa [beq_self_eq_true] at this
 | str i=>obtain ⟨t,rfl⟩:=r1;obtain ⟨u,rfl⟩:=r2;have:=eqAt_str (A:=A) (s:=s) (nm i) (nm i) t u;rwa [beq_self_eq_true] at this
 | bytes i=>obtain ⟨t,rfl⟩:=r1;obtain ⟨u,rfl⟩:=r2;have:=eqAt_bytes (A:=A) (s:=s) i i t u;rwa [beq_self_eq_true] at this
 | _=>exact no hd
theorem eqAts {vs:List D} (he:∀ v∈vs,∀ c1 c2,RelD S fz v c1->RelD S fz v c2->SeqAt.EqAt A s c1 c2 true) {x y:List Value} (r1:All2 (RelD S fz) vs x) (r2:All2 (RelD S fz) vs y) (j:Nat) (h1:j < x.toArray.size) (h2:j < y.toArray.size) :
  SeqAt.EqAt A s x.toArray[j] y.toArray[j] ((fun i=>true) j):=by
 have hv:j < vs.length:=r1.length▸h1
 obtain ⟨c1,e1,k1⟩:=r1.get (List.getElem?_eq_getElem hv)
 obtain ⟨c2,e2,k2⟩:=r2.get (List.getElem?_eq_getElem hv)
 rw [List.getElem_toArray,List.getElem_toArray,Option.some.inj ((List.getElem?_eq_getElem h1).symm.trans e1),Option.some.inj ((List.getElem?_eq_getElem h2).symm.trans e2)]
 exact he _ (List.getElem_mem hv) c1 c2 k1 k2
theorem all_true (n:Nat):((List.range n).all fun i=>true)=true:=List.all_eq_true.mpr fun a b=>rfl
theorem eqAt_data {v:D} {c1 c2:Value} (hu:A.units < cLine) (hz:∀ a o,fz a=some o->s.heap.get? a=some o) (hd:D.data v=true) (r1:RelD S fz v c1) (r2:RelD S fz v c2):SeqAt.EqAt A s c1 c2 true:=by
 cases v with
 | int i=>exact eqAt_prim rfl r1 r2
 | str i=>exact eqAt_prim rfl r1 r2
 | bytes i=>exact eqAt_prim rfl r1 r2
 | tup vs =>
  cases (show IsTup .. from r1) with | @mk a x n dd sl e1 k1=>cases (show IsTup .. from r2) with | @mk b y n2 dd2 sl2 e2 k2 =>
  have k1:=RelDs.eq.mp k1
  have k2:=RelDs.eq.mp k2
  by_cases hab:a=b
  ·subst hab;exact .same _
  ·have:=SeqAt.RcAt.tuples (A:=A) (s:=s) (l:=a) (b:=b) (items:=x.toArray) (items2:=y.toArray) (e:=fun i=>true) ⟨_,hz _ _ e1,rfl,n,rfl⟩ ⟨_,hz _ _ e2,rfl,n2,rfl⟩ hu
    (eqAts (fun v hv c1 c2 k1 k2=>eqAt_prim (List.all_eq_true.mp hd v hv) k1 k2) k1 k2)
   rw [all_true,show (x.toArray.size==y.toArray.size)=true from beq_iff_eq.mpr (k1.length.trans k2.length.symm)] at this
   exact .of_refs hab this
 | _=>exact no hd
end
theorem room1 {S:Sx} (F:Fx S):F.A.in1.units < cLine:=Nat.lt_of_lt_of_le (Nat.add_lt_add_left (by decide:1 < 5) _) (Nat.le_trans (Nat.le_add_right _ _) F.units)
theorem room0 {S:Sx} (F:Fx S):F.A.units < cLine:=Nat.lt_of_le_of_lt (Nat.le_succ _) (room1 F)
noncomputable def listEq (x y:List D) (k:Bool->Prop):Prop:=y.casesOn (k x.isEmpty) fun a b=>x=y/\x.all D.data=true/\k true
noncomputable def eqL:Co:=⟨.Eq,fun a b hp Q=>as2L a b hp fun x y=>listEq x y Q,fun {S F mp hp w s a b ca cb Q E} h ha ra rb=>as2L_of h ha ra rb fun x y p q cx nx cy ny h ex ey rx ry=>by
 have hx:s.heap.IsList p cx.toArray:=⟨_,ex,rfl,nx,rfl⟩
 have hy:s.heap.IsList q cy.toArray:=⟨_,ey,rfl,ny,rfl⟩
 cases y with
 | nil =>
  cases ry
  cases x with
  | nil=>cases rx;exact SeqAt.RcAt.lists (e:=fun i=>true) hx hy rfl (room0 F) (fun j h1=>absurd h1 (Nat.not_lt_zero j)) _ _ _ _ ⟨_,rfl,ha,h⟩
  | cons a r=>exact SeqAt.RcAt.lists_lengths hx hy (bne_iff_ne.mpr fun z=>absurd (rx.length.symm.trans z) (Nat.succ_ne_zero _)) (room0 F) _ _ _ _ ⟨_,rfl,ha,h⟩
 | cons a r =>
  obtain ⟨rfl,hd,h⟩:=h
  refine SeqAt.RcAt.lists (e:=fun i=>true) hx hy (rx.length.trans ry.length.symm) (room0 F) (eqAts (fun v hv c1 c2 k1 k2=>eqAt_data (room1 F) (fun a o=>ha.get) (List.all_eq_true.mp hd v hv) k1 k2) rx ry) _ _ _ _ ?_
  rw [all_true];exact ⟨_,rfl,ha,h⟩⟩
noncomputable def neL:Co:=⟨.NotEq,fun a b hp Q=>as2L a b hp fun x y=>listEq x y fun r=>Q !r,fun {S F mp hp w s a b ca cb Q E} h ha ra rb=>as2L_of h ha ra rb fun x y p q cx nx cy ny h ex ey rx ry=>by
 have hx:s.heap.IsList p cx.toArray:=⟨_,ex,rfl,nx,rfl⟩
 have hy:s.heap.IsList q cy.toArray:=⟨_,ey,rfl,ny,rfl⟩
 cases y with
 | nil =>
  cases ry
  cases x with
  | nil=>cases rx;exact SeqAt.RcNeAt.lists (e:=fun i=>true) hx hy rfl (room0 F) (fun j h1=>absurd h1 (Nat.not_lt_zero j)) _ _ _ _ ⟨_,rfl,ha,h⟩
  | cons a r=>exact SeqAt.RcNeAt.lists_lengths hx hy (bne_iff_ne.mpr fun z=>absurd (rx.length.symm.trans z) (Nat.succ_ne_zero _)) (room0 F) _ _ _ _ ⟨_,rfl,ha,h⟩
 | cons a r =>
  obtain ⟨rfl,hd,h⟩:=h
  refine SeqAt.RcNeAt.lists (e:=fun i=>true) hx hy (rx.length.trans ry.length.symm) (room0 F) (eqAts (fun v hv c1 c2 k1 k2=>eqAt_data (room1 F) (fun a o=>ha.get) (List.all_eq_true.mp hd v hv) k1 k2) rx ry) _ _ _ _ ?_
  rw [all_true];exact ⟨_,rfl,ha,h⟩⟩
end Mine.C
namespace Mine.C
noncomputable def fldV {α:Type} (n:Nat) (ns:List Nat):List α->(α->Prop)->Prop:=ns.rec (fun vs k=>False) fun m r ih vs k=>vs.casesOn False fun v vs=>cond (m==n) (k v) (ih vs k)
noncomputable def putV (n:Nat) (x:V) (ns:List Nat):List V->(List V->Prop)->Prop:=ns.rec (fun vs k=>False) fun m r ih vs k=>cond (m==n) (vs.casesOn (k [x]) fun v vs=>k (x::vs)) (vs.casesOn False fun v vs=>ih vs fun vs=>k (v::vs))
section
variable {W:World}
theorem isStr_of {n m:Nat} {c:Value} {e:DictEntry} (h:IsEnt W m c e):e.key.isStr (nm n)=(m==n)/\e.val=c:=by
 cases h with | mk=>exact ⟨nm_beq m n,rfl⟩
theorem fldV_get {α:Type} {R:α->Value->Prop} {n:Nat} {k:α->Prop} {ns:List Nat}:∀ {vs:List α} {cvs:List Value} {es:List DictEntry},fldV n ns vs k->Ents W ns cvs es->All2 R vs cvs ->
  ∃ v e,k v/\es.find? (fun e=>e.key.isStr (nm n))=some e/\R v e.val/\n∈ns:=by
 induction ns with
 | nil=>exact fun h=>h.elim
 | cons m r ih =>
  intro vs cvs es h e a
  cases vs with
  | nil=>exact h.elim
  | cons v vs =>
   cases (show IsCons .. from a) with | mk a1 a2=>cases (show IsCons .. from e) with | mk e1 e2 =>
   have h:cond (m==n) (k v) (fldV n r vs k):=h
   have q:=isStr_of (n:=n) e1
   rw [List.find?_cons,q.1]
   cases hq:m==n with
   | true=>rw [hq] at h;exact ⟨v,_,h,rfl,q.2▸a1,beq_iff_eq.mp hq ▸ .head _⟩
   | false=>rw [hq] at h;obtain ⟨v,e,x1,x2,x3,x4⟩:=ih h e2 a2;exact ⟨v,e,x1,x2,x3,.tail _ x4⟩
theorem ents_plain {ns:List Nat}:∀ {cvs:List Value} {es:List DictEntry},Ents W ns cvs es->es.any (·.refKey)=false/\es.length<=ns.length:=by
 induction ns with
 | nil=>intro cvs es e;cases cvs with
  | nil=>cases (show _=_ from e);exact ⟨rfl,Nat.le_refl _⟩
  | cons=>exact (show False from e).elim
 | cons m r ih=>intro cvs es e;cases cvs with
  | nil=>cases (show _=_ from e);exact ⟨rfl,Nat.zero_le _⟩
  | cons c cs =>
   cases (show IsCons .. from e) with | mk e1 e2 =>
   cases e1 with | mk=>exact ⟨(ih e2).1,Nat.succ_le_succ (ih e2).2⟩
theorem ents_none {n:Nat} {ns:List Nat} (hn:ns.contains n=false):∀ {cvs:List Value} {es:List DictEntry},Ents W ns cvs es->es.find? (fun e=>e.key.isStr (nm n))=none:=by
 induction ns with
 | nil=>intro cvs es e;cases cvs with
  | nil=>cases (show _=_ from e);rfl
  | cons=>exact (show False from e).elim
 | cons m r ih=>intro cvs es e;cases cvs with
  | nil=>cases (show _=_ from e);rfl
  | cons c cs =>
   cases (show IsCons .. from e) with | mk e1 e2 =>
   rw [List.contains_cons,Bool.or_eq_false_iff] at hn
   rw [List.find?_cons,(isStr_of (n:=n) e1).1,Bool.beq_comm,hn.1]
   exact ih hn.2 e2
theorem getL_of {n:Nat} {es:List DictEntry} {e:DictEntry} (h:es.find? (fun e=>e.key.isStr (nm n))=some e):getL (nm n) es=some (some e.val):=by unfold getL;rw [h]
theorem putV_put {S:Sx} {w:Wd} {n:Nat} {x:V} {cx:Value} {t:Tok} (rx:Rel S w x cx) {ns:List Nat}:∀ {k:List V->Prop} {vs:List V} {cvs:List Value} {es:List DictEntry},putV n x ns vs k->Ents S.w ns cvs es->All2 (Rel S w) vs cvs ->
  ∃ vs' cvs',k vs'/\Ents S.w ns cvs' (putL (nm n) (PyData.keyHash S.w.params (nm n)) (.str (nm n) t) cx es)/\All2 (Rel S w) vs' cvs'/\n∈ns:=by
 induction ns with
 | nil=>exact fun h=>h.elim
 | cons m r ih =>
  intro k vs cvs es h e a
  have h1:cond (m==n) (vs.casesOn (k [x]) fun v vs=>k (x::vs)) (vs.casesOn False fun v vs=>putV n x r vs fun vs=>k (v::vs)):=h
  clear h
  cases hq:m==n with
  | true =>
   rw [hq] at h1
   cases beq_iff_eq.mp hq
   cases vs with
   | nil=>cases (show _=_ from a);cases (show _=_ from e);exact ⟨[x],[cx],h1,IsCons.mk (Rs:=Ents S.w r []) IsEnt.mk rfl,IsCons.mk (Rs:=All2 (Rel S w) []) rx rfl,.head _⟩
   | cons v vs =>
    cases (show IsCons .. from a) with | mk a1 a2=>cases (show IsCons .. from e) with | mk e1 e2 =>
    have q:=isStr_of (n:=n) e1
    unfold putL
    rw [if_pos (q.1.trans (beq_self_eq_true n))]
    cases e1 with | mk=>exact ⟨x::vs,cx::_,h1,IsCons.mk .mk e2,IsCons.mk rx a2,.head _⟩
  | false =>
   rw [hq] at h1
   cases vs with
   | nil=>exact h1.elim
   | cons v vs =>
    cases (show IsCons .. from a) with | mk a1 a2=>cases (show IsCons .. from e) with | mk e1 e2 =>
    have q:=isStr_of (n:=n) e1
    obtain ⟨vs',cvs',x1,x2,x3,x4⟩:=ih (k:=fun vs=>k (v::vs)) h1 e2 a2
    unfold putL
    rw [if_neg (by rw [q.1,hq];exact Bool.false_ne_true)]
    exact ⟨v::vs',_::cvs',x1,IsCons.mk e1 x2,IsCons.mk a1 x3,.tail _ x4⟩
end
section
variable {S:Sx} {F:Fx S} {mp:Mp} {hp:Hp} {w w0:Wd} {s:Shared} {E:Value->Shared->Prop} {Q:V->Hp->Prop} {v:V} {cv:Value} {n:Nat} {expr:Bool}
theorem handedD {x:D} {c:Value} {fz:Fz} (r:RelD S fz x c):handedIn c=true:=by
 cases x with
 | none=>cases (show _=_ from r);rfl
 | bool=>cases (show _=Value.bool _ from r);rfl
 | tup=>cases (show IsTup .. from r);rfl
 | obj=>cases (show IsOb .. from r);rfl
 | list=>cases (show IsFl .. from r);rfl
 | barr=>cases (show IsFb .. from r);rfl
 | _=>obtain ⟨t,e⟩:=r;subst e;rfl
theorem biV_handed (b:Nat):handedIn (biV b)=true:=by
 have h:∀ b < 18,handedIn (biV b)=true:=by decide +kernel
 by_cases q:b < 18
 ·exact h b q
 ·unfold biV;rw [List.getD_eq_getElem?_getD,List.getElem?_eq_none (show biL.length<=b from Nat.not_lt.mp q)];decide +kernel
theorem handed (r:Rel S w v cv):handedIn cv=true:=by
 cases v with
 | d x=>exact handedD r
 | pair=>cases (show IsTup .. from r);rfl
 | ref=>cases (show IsRef .. from r);rfl
 | inst=>cases (show IsIn .. from r);rfl
 | fn=>cases (show _=Value.ref _ from r);rfl
 | cls=>cases (show _=Value.ref _ from r);rfl
 | bi b=>exact (show cv=biV b from r)▸biV_handed b
noncomputable def attrI (n:Nat) (v:V) (hp:Hp) (k:V->Prop):Prop:=asInst v fun c i=>atN hp i fun c' vs=>cond (c==c') (fldV n (fld c') vs k) False
theorem attrI_ok (h:attrI n v hp fun r=>Q r hp) (ha:At F mp hp w s) (r:Rel S w v cv) (l:w0.le w):PySem.wpAny (model S.prog S.w) F.A (getAttr cv (nm n) expr) (PostE F mp w0 Q) E s :=
 asInst_on (R:=fun v=>Rel S w v cv) h r fun c i h r=>atN_on h fun c' vs e h=>by
  cases hq:c==c' with
  | false=>rw [hq] at h;exact h.elim
  | true =>
   rw [hq] at h
   cases beq_iff_eq.mp hq
   obtain ⟨a,o,g1,g2,g3⟩:=ha.cell e
   cases (show IsIn .. from r) with | mk r1 r2 =>
   cases g1.symm.trans r2
   cases (show IsNs .. from g3) with | mk g4 g5 =>
   obtain ⟨x,ee,x1,x2,x3,x4⟩:=fldV_get h g4 g5
   obtain ⟨at_,f1,f2⟩:=S.clsAttr c n x4
   obtain ⟨news,j⟩:=ha.inv
   exact get_own (C:=S.cA c) j.fr S.kin ⟨ha.get r1,rfl,rfl,g2⟩ (S.clsGet c) (S.clsDict c) f1 f2 (getL_of x2) (handed x3) (.mk l x3 (ha.toks _) x1)
noncomputable def attrO (n:Nat) (v:V) (k:V->Prop):Prop:=asO v fun c xs=>fldV n (fld c) xs fun x=>k (.d x)
theorem attrO_ok (h:attrO n v fun r=>Q r hp) (ha:At F mp hp w s) (r:Rel S w v cv) (l:w0.le w):PySem.wpAny (model S.prog S.w) F.A (getAttr cv (nm n) expr) (PostE F mp w0 Q) E s :=
 asO_on (R:=fun v=>Rel S w v cv) h r fun c xs h r=>by
  cases (show IsOb .. from r) with | mk r1 r2 r3 r4 =>
  obtain ⟨x,ee,x1,x2,x3,x4⟩:=fldV_get h r3 (RelDs.eq.mp r4)
  obtain ⟨at_,f1,f2⟩:=S.clsAttr c n x4
  obtain ⟨news,j⟩:=ha.inv
  exact get_own (C:=S.cA c) j.fr S.kin ⟨ha.get r1,rfl,rfl,ha.get r2⟩ (S.clsGet c) (S.clsDict c) f1 f2 (getL_of x2) (handedD x3) (.mk (v := .d x) l x3 (ha.toks _) x1)
noncomputable def setI (n:Nat) (v x:V) (hp:Hp) (k:Hp->Prop):Prop:=asInst v fun c i=>atN hp i fun c' vs=>cond (c==c') (putV n x (fld c') vs fun vs=>k (hp.set i (.ns c' vs))) False
theorem fld_short (c:Nat):(fld c).length<=14:=by
 have h:∀ c < 9,(fld c).length<=14:=by decide +kernel
 by_cases q:c < 9
 ·exact h c q
 ·unfold fld;rw [List.getD_eq_getElem?_getD,List.getElem?_eq_none (show fldL.length<=c from Nat.not_lt.mp q)];exact Nat.zero_le _
theorem putL_len {name:Str} {h:Int} {k v:Value} (es:List DictEntry):(putL name h k v es).length<=es.length+1:=by
 induction es with
 | nil=>exact Nat.le_refl _
 | cons e r ih =>
  unfold putL
  split
  ·exact Nat.le_succ _
  ·exact Nat.succ_le_succ ih
theorem setI_ok {x:V} {cx:Value} {k:Hp->Prop} {P:Unit->Shared->Prop} (h:setI n v x hp k) (ha:At F mp hp w s) (r:Rel S w v cv) (rx:Rel S w x cx) (q:∀ hp' s',At F mp hp' w s'->k hp'->P () s'):PySem.wpAny (model S.prog S.w) F.A (setAttr cv (nm n) cx) P E s :=
 asInst_on (R:=fun v=>Rel S w v cv) h r fun c i h r=>atN_on h fun c' vs e h=>by
  cases hq:c==c' with
  | false=>rw [hq] at h;exact h.elim
  | true =>
   rw [hq] at h
   cases beq_iff_eq.mp hq
   obtain ⟨news,j⟩:=ha.inv
   cases (show IsIn .. from r) with | @mk a d r1 r2 =>
   obtain ⟨o,m,g3⟩:=j.own _ (List.mem_append_right _ (cells_at r2 e rfl))
   cases (show IsNs .. from g3) with | @mk es nn cvs g4 g5 =>
   obtain ⟨vs',cvs',x1,x2,x3,x4⟩:=putV_put (t:=s.toks+1) rx h g4 g5
   refine set_dict (C:=S.cA c) (es:=es) (n:=nn) (dx:=d) j.fr S.kin j.nw ⟨ha.get r1,rfl,rfl,(j.nw _ m).1⟩ rfl (S.clsSet c) (S.clsPlain c) (S.clsTake c n x4) (S.clsDict c) ?_ rfl (upd_put m j.nd) ?_ fun h' F' N'=>q _ _ (j.putN (y := .ns c vs') ha e r2 F' N' (IsNs.mk x2 x3) rfl rfl) x1
   ·unfold getL
    split
    ·rfl
    ·rw [(ents_plain g4).1];rfl
   ·exact Nat.le_trans (putL_len es) (Nat.le_trans (Nat.succ_le_succ (Nat.le_trans (ents_plain g4).2 (fld_short c))) (by decide))
end
end Mine.C
namespace Mine.C
structure Io where
 W:V->V->Hp->(V->Prop)->Prop
 ok:∀ {S:Sx} {F:Fx S} {mp:Mp} {hp:Hp} {w w0:Wd} {s:Shared} {a b:V} {ca cb:Value} {Q:V->Hp->Prop} {E:Value->Shared->Prop} {value slice:PySem.Expr},(∀ o k,subscripted slice false o k=operate [o,k] (getItem o k)) ->
  W a b hp (fun r=>Q r hp)->At F mp hp w s->Rel S w a ca->Rel S w b cb->w0.le w->PySem.wpAny (model S.prog S.w) F.A (subscriptTail value slice ca cb) (PostE F mp w0 Q) E s
noncomputable def opt {α:Type} (o:Option α) (k:α->Prop):Prop:=o.casesOn False k
theorem opt_on {α:Type} {o:Option α} {k:α->Prop} (h:opt o k):∃ a,o=some a/\k a:=by
 cases o with
 | none=>exact h.elim
 | some a=>exact ⟨a,rfl,h⟩
noncomputable def itB:Io:=⟨fun a b hp k=>asB a fun x=>asI b fun i=>(0<=i/\i < x.length/\x.length<=16777216)/\k (.d (.int (x.getD i.toNat 0).toNat)),
 fun hs h ha ra rb l=>asB_of h ra fun x t h=>asI_of h rb fun i u h=>tail_any (typeIs_bytes _ _ _) FB.slot_bytes_getitem.lookup (getItem_bytes (Nat.le_trans h.1.2.2 (by decide)) h.1.1 h.1.2.1 (PI l (ha.toks _) h.2)) (hs _ _)⟩
theorem seqIx {k:Int} {n:Nat} (h0:0<=k) (h1:k.toNat < n):seqIndex? k n=some k.toNat:=by
 unfold seqIndex?
 have h3:k < (n:Int):=by omega
 simp [Int.not_lt.mpr h0,h0,h3]
noncomputable def itT:Io:=⟨fun a b hp k=>asT a fun xs=>asI b fun i=>(0<=i/\i < 1000000)/\opt xs[i.toNat]? fun x=>k (.d x),
 fun {S F mp hp w w0 s a b ca cb Q E value slice} hs h ha ra rb l=>asT_of h ra fun xs p cvs n dd sl h e r=>asI_of h rb fun i u h=>by
  obtain ⟨⟨h0,h1⟩,h2⟩:=h
  obtain ⟨x,e1,h3⟩:=opt_on h2
  obtain ⟨cv,e2,r2⟩:=r.get e1
  exact item_tupleT (l:=cvs) (j:=i.toNat) ⟨_,ha.get e,rfl,n,rfl⟩ (by omega) (by omega) (seqIx h0 (List.getElem?_eq_some_iff.mp e2).1) e2 (.mk (v := .d x) l r2 ha h3) (hs _ _)⟩
noncomputable def itL:Io:=⟨fun a b hp k=>asRef a fun p=>atL hp p fun xs=>asI b fun i=>(0<=i/\i < 1000000)/\opt xs[i.toNat]? fun x=>k (.d x),
 fun {S F mp hp w w0 s a b ca cb Q E value slice} hs h ha ra rb l=>asRef_on (R:=fun v=>Rel S w v ca) h ra fun p h ra=>atL_on h fun xs e h=>asI_of h rb fun i u h=>by
  obtain ⟨⟨h0,h1⟩,h2⟩:=h
  obtain ⟨x,e1,h3⟩:=opt_on h2
  cases At.ref ha e ra with | mk g1 g2 g3 =>
  cases (show IsList .. from g3) with | @mk cvs n g4 =>
  obtain ⟨cv,e2,r2⟩:=g4.get e1
  have hl:s.heap.IsList _ cvs.toArray:=⟨_,g2,rfl,n,rfl⟩
  have h4:=(List.getElem?_eq_some_iff.mp e2).1
  exact tail_any hl.typeIs slot_list_getitem.lookup (wpAny_getItem_list hl h0 (Int.lt_of_lt_of_le h1 (by decide)) (by rw [List.getElem?_toArray];exact e2) (.mk (v := .d x) l r2 ha h3)) (hs _ _)⟩
noncomputable def itTL:Io:=⟨fun a b hp k=>itT.W a b hp k\/itL.W a b hp k,fun hs h ha ra rb l=>h.elim (fun h=>itT.ok hs h ha ra rb l) fun h=>itL.ok hs h ha ra rb l⟩
theorem negIx (n:Nat):((-1:Int)+(n:Int)).toNat=n - 1:=by omega
noncomputable def itLast:Io:=⟨fun a b hp k=>asRef a fun p=>atRs hp p fun is=>b = .d (.int (-1))/\is.length < 1000000/\opt is.getLast? fun i=>k (.ref i),
 fun {S F mp hp w w0 s a b ca cb Q E value slice} hs h ha ra rb l=>asRef_on (R:=fun v=>Rel S w v ca) h ra fun p h ra=>atRs_on h fun is e h=>by
  obtain ⟨rfl,hz,h⟩:=h
  obtain ⟨t,rfl⟩:=rb
  obtain ⟨i,e1,h⟩:=opt_on h
  rw [List.getLast?_eq_getElem?] at e1
  cases At.ref ha e ra with | mk g1 g2 g3 =>
  cases (show IsList .. from g3) with | @mk cvs n g4 =>
  obtain ⟨cv,e2,r2⟩:=g4.get e1
  have hl:s.heap.IsList _ cvs.toArray:=⟨_,g2,rfl,n,rfl⟩
  have hlen:cvs.length=is.length:=g4.length
  have hpos:=(List.getElem?_eq_some_iff.mp e1).1
  refine tail_any hl.typeIs slot_list_getitem.lookup (wpAny_getItem_list_neg hl (x:=cv) (by decide) ?_ (by decide) ?_ (.mk (v := .ref i) l r2 ha h)) (hs _ _)
  ·show -((cvs.length:Nat):Int)<=-1;omega
  ·show cvs.toArray[((-1:Int)+(cvs.length:Int)).toNat]?=_
   rw [negIx,hlen,List.getElem?_toArray];exact e2⟩
noncomputable def itI:Io:=⟨fun a b hp k=>asRef a fun p=>atI hp p fun fs=>asI b fun i=>opt (fs.lookup i) fun x=>k (.d x),
 fun {S F mp hp w w0 s a b ca cb Q E value slice} hs h ha ra rb l=>asRef_on (R:=fun v=>Rel S w v ca) h ra fun p h ra=>atI_on h fun fs e h=>asI_of h rb fun i u h=>by
  obtain ⟨x,e1,h⟩:=opt_on h
  cases At.ref ha e ra with | mk g1 g2 g3 =>
  cases (show IsDi .. from g3) with | @mk kvs o g4 g5 =>
  obtain ⟨cv,e2,r2⟩:=(lookup_rel (g:=id) idInj g5).1 x e1
  have hD:=Heap.dictOf_iff.mpr ⟨_,g2,g4⟩
  exact tail_any hD.mapOf.typeIs slot_dict_getitem.lookup (wpAny_getItem_of (k:=i) (intKind_is _ _ _ _) hD.mapOf (by rw [valueAt_eq];exact e2) (.mk (v := .d x) l r2 (ha.toks _) h)) (hs _ _)⟩
noncomputable def itS:Io:=⟨fun a b hp k=>asRef a fun p=>atS hp p fun fs=>asS b fun i=>opt (fs.lookup i) k,
 fun {S F mp hp w w0 s a b ca cb Q E value slice} hs h ha ra rb l=>asRef_on (R:=fun v=>Rel S w v ca) h ra fun p h ra=>atS_on h fun fs e h=>asS_of h rb fun i u h=>by
  obtain ⟨x,e1,h⟩:=opt_on h
  cases At.ref ha e ra with | mk g1 g2 g3 =>
  cases (show IsDi .. from g3) with | @mk kvs o g4 g5 =>
  obtain ⟨cv,e2,r2⟩:=(lookup_rel (g:=nm) (fun a b=>nm_inj) g5).1 x e1
  have hD:=Heap.dictOf_iff.mpr ⟨_,g2,g4⟩
  exact tail_any hD.mapOf.typeIs slot_dict_getitem.lookup (wpAny_getItem_of (k:=nm i) (strKind_is _ _ _ _) hD.mapOf (by rw [valueAt_eq];exact e2) (.mk l r2 (ha.toks _) h)) (hs _ _)⟩
end Mine.C
namespace Mine
noncomputable def loN (lo:Option Int):Nat:=lo.elim 0 Int.toNat
noncomputable def hiN (hi:Option Int) (n:Nat):Nat:=hi.elim n fun j=>min j.toNat n
noncomputable def cutL {α:Type} (l:List α) (lo hi:Option Int):List α:=(l.take (hiN hi l.length)).drop (loN lo)
noncomputable def nonneg (o:Option Int):Prop:=o.elim True fun i=>0<=i
theorem lo_eq {lo:Option Int} (n:Nat) (h:nonneg lo):kms_lo lo n=min (loN lo) n:=by
 cases lo with
 | none=>exact (Nat.zero_min n).symm
 | some i=>exact if_neg (Int.not_lt.mpr h)
theorem hi_eq {hi:Option Int} (n:Nat) (h:nonneg hi):kms_hi hi n=hiN hi n:=by
 cases hi with
 | none=>rfl
 | some i=>exact if_neg (Int.not_lt.mpr h)
theorem cut_eq {α:Type} (l:List α) {lo hi:Option Int} (h1:nonneg lo) (h2:nonneg hi):(l.drop (kms_lo lo l.length)).take (kms_hi hi l.length - kms_lo lo l.length)=cutL l lo hi:=by
 rw [lo_eq _ h1,hi_eq _ h2]
 unfold cutL
 generalize loN lo=x
 generalize hiN hi l.length=y
 rw [List.drop_take]
 by_cases h:x<=l.length
 ·rw [Nat.min_eq_left h]
 ·have h:=Nat.le_of_lt (Nat.not_le.mp h)
  rw [Nat.min_eq_right h,List.drop_eq_nil_of_le (Nat.le_refl _),List.drop_eq_nil_of_le h,List.take_nil,List.take_nil]
theorem clip_lo (lo:Option Int) (n:Nat):lo.elim 0 (clipAt n)=kms_lo lo n:=Int.ofNat.inj (congrArg Prod.fst ((sliceBounds_plain lo none n).symm.trans (kms_bounds lo none n)))
theorem clip_hi (hi:Option Int) (n:Nat):hi.elim n (clipAt n)=kms_hi hi n:=Int.ofNat.inj (congrArg (fun p=>p.2.1) ((sliceBounds_plain none hi n).symm.trans (kms_bounds none hi n)))
theorem picked_cut (b:Bs) {lo hi:Option Int} (h1:nonneg lo) (h2:nonneg hi):KBy.picked b.toArray lo hi=(cutL b lo hi).toArray:=by
 rw [KBc.picked_eq,clip_lo,clip_hi,List.size_toArray,cut_eq _ h1 h2]
theorem owner_barr0:Manifest.owners.lookup (String.ofList ['y','a','r','r','a','e','t','y','b'].reverse)=some Manifest.sig_bytearray:=by kernel_rfl
theorem slot_barr_getitem:Slot "bytearray" "__getitem__" "bytearray.__getitem__" :=
 .of (owner := "bytearray") (n := "__getitem__") (by rw [typeLookup_type,builtinLookup_eq_fast];kernel_rfl) (by decide +kernel) (by decide +kernel) (by decide +kernel)
  (by first | exact .inl (by decide +kernel) | exact .inr (by decide +kernel)) (by rw [isSubtype_type];kernel_rfl)
theorem entry_barr_getitem:entryFor table "bytearray.__getitem__" = some Builtin.«bytearray.__getitem__»:=entryFor_of_tree (by kernel_rfl)
theorem args_barr_getitem (a b:Value):argsOk "bytearray.__getitem__" ⟨[a,b],[]⟩:=by
 unfold argsOk;rw [signature?_of (id := "bytearray.__getitem__") (n:=['_','_','m','e','t','i','t','e','g','_','_']) (o:=['y','a','r','r','a','e','t','y','b']) (by kernel_rfl) owner_barr0];kernel_rfl
open Builtin in
theorem meets_barr_cut (b:Array UInt8) (p a:Addr) {i j:Int} {t u:Tok} :
  PySem.Meets («bytearray.__getitem__» ⟨[.ref p,.ref a],[]⟩) (fun _ R s=>s.heap.get? p=some { cls := .type "bytearray", data := .bytearray b 0 }/\s.heap.IsSliceOf a (.int i t) (.int j u) .none/\(KBy.picked b (some i) (some j)).size<=sizeLine/\∀ k,R (.ok (.ret (.ref s.heap.objs.size))) { s with heap:=s.heap.push { cls := .type "bytearray", data := .bytearray (KBy.picked b (some i) (some j)) 0 },toks:=k }):=by
 refine .of_wp fun prog w A R s hS=>?_
 obtain ⟨hp,⟨o,ho,hc,hd⟩,hsz,h⟩:=hS
 have hT:s.TypeIs (.ref a) "slice" := ⟨o,ho,hc⟩
 show wpAny _ _ (Bytes.subscript? (.ref a) >>= fun r=>_) _ _ s
 refine wpAny_bind ?_
 unfold Bytes.subscript?
 refine wpAny_bind (wpAny_specialOf hT slice_no_index (wpAny_pure ?_))
 refine wpAny_bind (wpAny_typeOf hT ?_)
 show wpAny _ _ (Bytes.sliceParts (.ref a) >>= fun r=>_) _ _ s
 refine wpAny_bind ?_
 unfold Bytes.sliceParts
 refine wpAny_bind (wpAny_field (x := .none) ho hd rfl ?_)
 kby_none
 refine wpAny_ite (KBy.ite_no (show ¬ ((Value.none==rawInt 0)=true) from Bool.false_ne_true) ?_)
 refine wpAny_bind (wpAny_field (x := .int i t) ho hd rfl ?_)
 have pay:wpAny (model prog w) A.in1 (Bytes.payload (.ref p)) (fun r s'=>r=b/\s'=s) (fun _ _=>False) s:=by
  unfold Bytes.payload Bytes.payload?
  exact wpAny_bind (wpAny_bind (wpAny_load hp (wpAny_pure (wpAny_pure ⟨rfl,rfl⟩))))
 have go:wpAny (model prog w) A.in1 (sliceIndices (rawPart (some i)) (rawPart (some j)) (rawPart none) b.size) (fun r s'=>r=sliceBounds (some i) (some j) none b.size/\s'=s) (fun _ _=>False) s :=
  wpAny_of_eq (sliceIndices_raw (some i) (some j) none b.size (fun e=>nomatch e)) ⟨rfl,rfl⟩
 kby_int
 refine wpAny_bind (wpAny_field (x := .int j u) ho hd rfl ?_)
 kby_int
 refine wpAny_pure ?_
 refine wpAny_bind (wpAny_mono pay (fun r s' hr=>?_) fun _ _ e=>e.elim)
 obtain ⟨hr1,hr2⟩:=hr
 subst hr1 hr2
 refine wpAny_bind (wpAny_mono go (fun r s' hr=>?_) fun _ _ e=>e.elim)
 obtain ⟨hr1,hr2⟩:=hr
 subst hr1 hr2
 refine wpAny_bind ?_
 unfold Bytes.newBytearray
 refine wpAny_newObj_type ?_ hsz
 exact wpAny_pure ⟨_,rfl,h _⟩
end Mine
namespace Mine.C
noncomputable def RelO (S:Sx) (w:Wd) (o:Option V) (c:Value):Prop:=o.casesOn (c = .none) fun v=>Rel S w v c
theorem RelO.mono {S:Sx} {w w':Wd} (h:w.le w') {o:Option V} {c:Value} (r:RelO S w o c):RelO S w' o c:=by
 cases o with
 | none=>exact r
 | some v=>exact Rel.mono h r
noncomputable def asPart (o:Option V) (k:Option Int->Prop):Prop:=o.casesOn (k none) fun v=>asI v fun i=>0<=i/\k (some i)
theorem asPart_of {S:Sx} {w:Wd} {o:Option V} {c:Value} {k:Option Int->Prop} {P:Prop} (h:asPart o k) (r:RelO S w o c) (f:∀ i,IsPart c i->nonneg i->k i->P):P:=by
 cases o with
 | none=>cases (show c = .none from r);exact f none .none trivial h
 | some v=>exact asI_of (P:=fun c=>(∀ i,IsPart c i->nonneg i->k i->P)->P) h r (fun i t h f=>f _ (.int i t) h.1 h.2) f
structure So where
 W:V->Option V->Option V->Hp->(V->Hp->Prop)->Prop
 ok:∀ {S:Sx} {F:Fx S} {mp:Mp} {hp:Hp} {w w0:Wd} {s:Shared} {a:V} {lo hi:Option V} {ca cl ch:Value} {Q:V->Hp->Prop} {E:Value->Shared->Prop} {value sl:PySem.Expr},(∀ o x,subscripted sl false o (.ref x)=operate [.ref x,o] (getItem o (.ref x))) ->
  W a lo hi hp Q->At F mp hp w s->Rel S w a ca->RelO S w lo cl->RelO S w hi ch->w0.le w->PySem.wpAny (model S.prog S.w) F.A (subscriptTail value sl ca (.ref s.heap.objs.size)) (PostE F mp w0 Q) E { s with heap:=s.heap.push { cls := .type "slice", data := .fields #[cl,ch,.none] } }
theorem fitLine {n:Nat} (h:n<=16777216):n<=sizeLine:=Nat.le_trans h (by decide)
noncomputable def slB:So:=⟨fun a lo hi hp Q=>asB a fun b=>asPart lo fun i=>asPart hi fun j=>b.length<=16777216/\Q (.d (.bytes (cutL b i j))) hp,
 fun {S F mp hp w w0 s a lo hi ca cl ch Q E value sl} hs h ha ra rl rh l=>asB_of h ra fun b t h=>asPart_of h rl fun i p1 n1 h=>asPart_of h rh fun j p2 n2 h=>by
  obtain ⟨news,iv⟩:=ha.inv
  refine KBc.slice_K iv.fr iv.nw rfl p1 p2 (by rw [KBw.ints_length];simpa using h.1) (fun h' t' k F' N' _=>?_) (hs _ _) (by intro r;cases value<;>rfl)
  rw [picked_cut b n1 n2]
  exact PB l ⟨ha.len,news,iv.same F' N' rfl rfl⟩ h.2⟩
theorem _root_.Mine.Internal.Mine.All2.cut {α β:Type} {R:α->β->Prop} {vs:List α} {cs:List β} (lo hi:Option Int) (r:All2 R vs cs):All2 R (cutL vs lo hi) (cutL cs lo hi):=by
 have ht:∀ (n:Nat) {vs:List α} {cs:List β},All2 R vs cs->All2 R (vs.take n) (cs.take n)/\All2 R (vs.drop n) (cs.drop n):=fun n=>by
  induction n with
  | zero=>exact fun r=>⟨rfl,r⟩
  | succ n ih=>intro vs cs r;cases vs with
   | nil=>cases (show _=_ from r);exact ⟨rfl,rfl⟩
   | cons v vs=>cases (show IsCons .. from r) with | mk a b=>exact ⟨IsCons.mk a (ih b).1,(ih b).2⟩
 unfold cutL
 rw [r.length]
 exact (ht _ (ht _ r).1).2
theorem cutList {S:Sx} {F:Fx S} {mp:Mp} {hp:Hp} {w w0:Wd} {s:Shared} {Q:V->Hp->Prop} {E:Value->Shared->Prop} {value sl:PySem.Expr} {b:Addr} {xs:List D} {cvs:List Value} {n:Nat} {cl ch:Value} {i j:Option Int} (hs:∀ o x,subscripted sl false o (.ref x)=operate [.ref x,o] (getItem o (.ref x)))
  (hb:s.heap.get? b=some (listOf cvs.toArray n)) (r:All2 (RelD S w.fz) xs cvs) (p1:IsPart cl i) (p2:IsPart ch j) (n1:nonneg i) (n2:nonneg j) (ha:At F mp hp w s) (h:xs.length<=16777216/\Q (.ref hp.length) (hp++[.list (cutL xs i j)])) (l:w0.le w) :
  PySem.wpAny (model S.prog S.w) F.A (subscriptTail value sl (.ref b) (.ref s.heap.objs.size)) (PostE F mp w0 Q) E { s with heap:=s.heap.push { cls := .type "slice", data := .fields #[cl,ch,.none] } }:=by
 have hl':=(show s.heap.IsList b cvs.toArray from ⟨_,hb,rfl,n,rfl⟩).push (o:={ cls := .type "slice", data := .fields #[cl,ch,.none] })
 refine tail_any hl'.typeIs slot_list_getitem.lookup (wpAny_getItem_list_slice hl' (Heap.IsSliceOf.new _ _ _ _) p1 p2 .none (by decide) ?_ (show cvs.length<=_ from r.length▸fitLine h.1)) (hs _ _)
 have hp':slicePick cvs.toArray i j none=(cutL cvs i j).toArray:=by
  rw [kms_pick_eq];unfold kms_pick;rw [cut_eq _ n1 n2]
 rw [hp']
 obtain ⟨news,iv⟩:=(ha.hid (o:={ cls := .type "slice", data := .fields #[cl,ch,.none] }) rfl rfl).drop.inv
 exact PRef l ha.len (iv.alloc (s':={ s with heap:=(s.heap.push { cls := .type "slice", data := .fields #[cl,ch,.none] }).push (listOf (cutL cvs i j).toArray 0) }) (x := .list (cutL xs i j)) ha.len (iv.fr.push _) (iv.nw.push iv.fr _ rfl) iv.size (show IsList .. from IsList.mk (n:=0) (r.cut i j)) rfl rfl) h.2
noncomputable def slF:So:=⟨fun a lo hi hp Q=>asL a fun xs=>asPart lo fun i=>asPart hi fun j=>xs.length<=16777216/\Q (.ref hp.length) (hp++[.list (cutL xs i j)]),
 fun {S F mp hp w w0 s a lo hi ca cl ch Q E value sl} hs h ha ra rl rh l=>asL_on (R:=fun v=>Rel S w v ca) h ra fun xs h ra=>asPart_of h rl fun i p1 n1 h=>asPart_of h rh fun j p2 n2 h=>by
  cases (show IsFl .. from ra) with | mk g1 g2=>exact cutList hs (ha.get g1) (RelDs.eq.mp g2) p1 p2 n1 n2 ha h l⟩
noncomputable def slR:So:=⟨fun a lo hi hp Q=>asR a fun b=>opt lo fun x=>opt hi fun y=>asI x fun i=>asI y fun j=>(0<=i/\0<=j/\b.length<=16777216)/\Q (.ref hp.length) (hp++[.barr (cutL b (some i) (some j))]),
 fun {S F mp hp w w0 s a lo hi ca cl ch Q E value sl} hs h ha ra rl rh l=>asR_on (R:=fun v=>Rel S w v ca) h ra fun b h ra=>by
  obtain ⟨x,rfl,h1⟩:=opt_on h
  obtain ⟨y,rfl,h2⟩:=opt_on h1
  cases (show IsFb .. from ra) with | @mk a e =>
  refine asI_of (P:=fun cl=>PySem.wpAny (model S.prog S.w) F.A (subscriptTail value sl (.ref a) (.ref s.heap.objs.size)) (PostE F mp w0 Q) E { s with heap:=s.heap.push { cls := .type "slice", data := .fields #[cl,ch,.none] } }) h2 rl fun i t h=>?_
  refine asI_of (P:=fun ch=>PySem.wpAny (model S.prog S.w) F.A (subscriptTail value sl (.ref a) (.ref s.heap.objs.size)) (PostE F mp w0 Q) E { s with heap:=s.heap.push { cls := .type "slice", data := .fields #[.int i t,ch,.none] } }) h rh fun j u h=>?_
  obtain ⟨⟨n1,n2,hz⟩,h⟩:=h
  have hp':=Heap.get?_push_of_some { cls := .type "slice", data := .fields #[.int i t,.int j u,.none] } (ha.get e)
  have hT:({ s with heap:=s.heap.push { cls := .type "slice", data := .fields #[.int i t,.int j u,.none] } }:Shared).TypeIs (.ref a) "bytearray" := ⟨_,hp',rfl⟩
  refine tail_any hT slot_barr_getitem.lookup (getItem_meets hT (by decide) slot_barr_getitem entry_barr_getitem (args_barr_getitem _ _) (meets_barr_cut b.toArray a _) ⟨hp',Heap.IsSliceOf.new _ _ _ _,Nat.le_trans (KBc.size_picked_le _ _ _) (fitLine hz),fun k=>?_⟩) (hs _ _)
  rw [picked_cut b (lo:=some i) (hi:=some j) n1 n2]
  obtain ⟨news,iv⟩:=(ha.hid (o:={ cls := .type "slice", data := .fields #[.int i t,.int j u,.none] }) rfl rfl).drop.inv
  exact PRef l ha.len (iv.alloc (s':={ s with heap:=(s.heap.push { cls := .type "slice", data := .fields #[.int i t,.int j u,.none] }).push { cls := .type "bytearray", data := .bytearray (cutL b (some i) (some j)).toArray 0 },toks:=k }) (x := .barr (cutL b (some i) (some j))) ha.len (iv.fr.push _) (iv.nw.push iv.fr _ rfl) iv.size rfl rfl rfl) h⟩
end Mine.C
namespace Mine.C
noncomputable def cst (x:D):Option Const:=x.casesOn (some .none) (fun b=>some (.bool b)) (fun i=>some (.int i)) (fun k=>some (.str (nm k))) (fun b=>some (.bytes b)) (fun a=>none) (fun a b=>none) (fun a=>none) (fun a=>none)
noncomputable def tX (x:D):Ex where
 chk cx e:=onConst e fun c n p=>decide (cst x=some c)
 W d C loc hp Q X:=Q (.d x) hp
 ok S cx e h:=onConst_elim h fun c n p h=>by
  intro F d loc mp hp w s Q X R hw
  have h:=of_decide_eq_true h
  have a:=R.at_
  cases x with
  | none=>cases Option.some.inj h;exact lf (Constant_none (PN (.refl _) a hw))
  | bool b=>cases Option.some.inj h;exact lf (Constant_bool (PBo (.refl _) a hw))
  | int i=>cases Option.some.inj h;exact lf (wpAny_Constant_int (PI (.refl _) (a.toks _) hw))
  | str k=>cases Option.some.inj h;exact lf (Constant_str (.mk (v := .d (.str k)) (.refl _) ⟨_,rfl⟩ (a.toks _) hw))
  | bytes b=>cases Option.some.inj h;exact lf (Constant_bytes (PB (.refl _) (a.toks _) hw))
  | _=>exact nomatch (show none=some c from h)
noncomputable def optL (loc:Loc) (i:Nat) (k:V->Prop):Prop:=opt loc[i]?.join k
theorem optL_on {loc:Loc} {i:Nat} {k:V->Prop} (h:optL loc i k):∃ v,loc[i]?=some (some v)/\k v:=by
 obtain ⟨v,e,h⟩:=opt_on h
 exact ⟨v,Option.join_eq_some_iff.mp e,h⟩
noncomputable def nmChk (cx:Cx) (i:Nat) (k:NameKind) (x:Str):Bool := !(x==("__debug__" : Str))&&decide (cx.names[i]?=some x)&&decide (cx.sc.names.lookup x=some k)
theorem nmChk_on {cx:Cx} {i:Nat} {k:NameKind} {x:Str} (h:nmChk cx i k x=true):(x==("__debug__" : Str))=false/\cx.names[i]?=some x/\cx.sc.names.lookup x=some k :=
 have h1:=Bool.and_eq_true_iff.mp h
 have h2:=Bool.and_eq_true_iff.mp h1.1
 ⟨Bool.not_eq_true' _ |>.mp h2.1,of_decide_eq_true h2.2,of_decide_eq_true h1.2⟩
noncomputable def lX (i:Nat):Ex where
 chk cx e:=onName e fun x p=>nmChk cx i .local x
 W d C loc hp Q X:=optL loc i fun v=>Q v hp
 ok S cx e h:=onName_elim h fun x p h=>by
  intro F d loc mp hp w s Q X R hw
  obtain ⟨h1,h2,h3⟩:=nmChk_on h
  obtain ⟨v,e,hw⟩:=optL_on hw
  obtain ⟨y,hy,r⟩:=R.lr i v e
  rw [R.names,h2] at hy
  cases hy
  have hk:=R.kind h3
  rcases r with ⟨_,cv,hm,r⟩ | ⟨q,_⟩
  ·obtain ⟨news,j⟩:=R.at_.inv
   refine lf (wpAny_Name (wpAny_loadName_local F.kind hk (m:=mp) ?_ hm (.mk (.refl _) r R.at_ hw)) h1)
   rw [F.loc];exact j.fr.ns
  ·rw [hk] at q;exact (q.elim (fun e=>nomatch e) fun e=>nomatch e)
noncomputable def cellX (i:Nat):Ex where
 chk cx e:=onName e fun x p=>nmChk cx i .cell x
 W d C loc hp Q X:=optL loc i fun v=>asRef v fun p=>atC hp p fun o=>opt o fun v=>Q v hp
 ok S cx e h:=onName_elim h fun x p h=>by
  intro F d loc mp hp w s Q X R hw
  obtain ⟨h1,h2,h3⟩:=nmChk_on h
  obtain ⟨v,e,hw⟩:=optL_on hw
  obtain ⟨y,hy,r⟩:=R.lr i v e
  rw [R.names,h2] at hy
  cases hy
  have hk:=R.kind h3
  rcases r with ⟨q,_⟩ | ⟨_,c,hm,r⟩
  ·rw [hk] at q;exact nomatch q
  ·refine asRef_on (R:=fun v=>Rel S w v (.ref c)) hw r fun j hw r=>atC_on hw fun o e hw=>?_
   obtain ⟨v,rfl,hw⟩:=opt_on hw
   cases At.ref R.at_ e r with | mk g1 g2 g3 =>
   obtain ⟨cv,g4,g5⟩:=g3
   exact lf (wpAny_Name (wpAny_loadName_cell F.kind hk hm ⟨_,g2,g4⟩ (.mk (.refl _) g5 R.at_ hw)) h1)
noncomputable def gX (j:Nat) (v:V) (hv:glV j=v):Ex where
 chk cx e:=onName e fun x p => !(x==("__debug__" : Str))&&decide (x=glN j)&&decide (cx.sc.names.lookup x=some .globalImplicit)&&decide (j < glL.length)
 W d C loc hp Q X:=Q v hp
 ok S cx e h:=onName_elim h fun x p h=>by
  intro F d loc mp hp w s Q X R hw
  have h1:=Bool.and_eq_true_iff.mp h
  have h2:=Bool.and_eq_true_iff.mp h1.1
  have h3:=Bool.and_eq_true_iff.mp h2.1
  obtain ⟨cv,r,k⟩:=R.glob.1 j (of_decide_eq_true h1.2)
  have hk:=R.kind (of_decide_eq_true h2.2)
  have hdb:=Bool.not_eq_true' _ |>.mp h3.1
  have r1:Rel S w v cv:=hv▸Rel.mono ⟨fun i a e=>(by cases e),R.at_.zero⟩ r
  have T:=S.top
  rw [of_decide_eq_true h3.2] at hk hdb ⊢
  obtain ⟨news,i⟩:=R.at_.inv
  rcases k with k | ⟨k1,k2,k3⟩
  ·refine lf (Name_function_global F.kind hk (loadGlobal_global (env:=F.env) (mg:=S.mg) ?_ (mg_of S.kin T.g k) (.mk (.refl _) r1 R.at_ hw)) hdb)
   rw [F.glob];exact T.g.keeps i.fr.keep
  ·refine lf (Name_function_global F.kind hk (loadGlobal_builtin (env:=F.env) (mg:=S.mg) (mb:=S.mb) ?_ (mg_none_of S.kin T.g k1) ?_ ((T.builtins _ k3).trans k2) (.mk (.refl _) r1 R.at_ hw)) hdb)
   ·rw [F.glob];exact T.g.keeps i.fr.keep
   ·rw [F.bi];exact T.b.keeps i.fr.keep
noncomputable def bX (o:Bo) (a b:Ex):Ex where
 chk cx e:=onBin e fun l op r p=>decide (o.op=op)&&a.chk cx l&&b.chk cx r
 W d C loc hp Q X:=a.W d C loc hp (fun v hp=>b.W d C loc hp (fun w hp=>o.W v w hp Q) X) X
 ok S cx e h:=onBin_elim h fun l op r p h=>by
  intro F d loc mp hp w s Q X R hw
  have h1:=Bool.and_eq_true_iff.mp h
  have h2:=Bool.and_eq_true_iff.mp h1.1
  cases of_decide_eq_true h2.1
  exact wpAny_BinOp (a.on h2.2 R hw (.refl _) fun l1 _ r1 R1 q1=>b.on h1.2 R1 q1 l1 fun l2 l3 r2 R2 q2=>lf (o.ok q2 R2.at_ (r1.mono l3) r2 l2))
noncomputable def negX (a:Ex):Ex where
 chk cx e:=onUn e fun op x p=>decide (op = .USub)&&a.chk cx x
 W d C loc hp Q X:=a.W d C loc hp (fun v hp=>asI v fun i=>Q (.d (.int (-i))) hp) X
 ok S cx e h:=onUn_elim h fun op x p h=>by
  intro F d loc mp hp w s Q X R hw
  have h1:=Bool.and_eq_true_iff.mp h
  cases of_decide_eq_true h1.1
  exact UnaryOp_ (a.on h1.2 R hw (.refl _) fun l1 _ r1 R1 q1=>lf (asI_of q1 r1 fun i t q=>neg_int (PI l1 (R1.at_.toks _) q)))
noncomputable def iteX (t:Tx) (a b:Ex):Ex where
 chk cx e:=onIf e fun x y z p=>t.chk cx x&&a.chk cx y&&b.chk cx z
 W d C loc hp Q X:=t.W d C loc hp (fun r hp=>r.casesOn (b.W d C loc hp Q X) (a.W d C loc hp Q X)) X
 ok S cx e h:=onIf_elim h fun x y z p h=>by
  intro F d loc mp hp w s Q X R hw
  have h1:=Bool.and_eq_true_iff.mp h
  have h2:=Bool.and_eq_true_iff.mp h1.1
  refine wpAny_IfExp (t.on h2.1 R hw (.refl _) fun {w1 r hp1 s1} l1 _ R1 q1=>?_)
  cases r
  ·exact b.on h1.2 R1 q1 l1 fun l2 _ r2 R2 q2 => .mk l2 r2 R2.at_ q2
  ·exact a.on h2.2 R1 q1 l1 fun l2 _ r2 R2 q2 => .mk l2 r2 R2.at_ q2
noncomputable def testX (t:Tx):Ex:=⟨t.chkE,fun d C loc hp Q X=>t.W d C loc hp (fun b hp=>Q (.d (.bool b)) hp) X,t.okE⟩
noncomputable def cmpT (o:Co) (a b:Ex):Tx where
 chk cx e:=onCmp e fun l ops rs p => !lastMarks ops rs&&decide (ops=[o.op])&&a.chk cx l&&(rs.casesOn false fun r t=>t.isEmpty&&b.chk cx r)
 chkE cx e:=onCmp e fun l ops rs p => !lastMarks ops rs&&decide (ops=[o.op])&&a.chk cx l&&(rs.casesOn false fun r t=>t.isEmpty&&b.chk cx r)
 W d C loc hp Q X:=a.W d C loc hp (fun v hp=>b.W d C loc hp (fun w hp=>o.W v w hp fun r=>Q r hp) X) X
 ok S cx e h:=onCmp_elim h fun l ops rs p h=>by
  intro F d loc mp hp w s Q X R hw
  have h1:=Bool.and_eq_true_iff.mp h
  have h2:=Bool.and_eq_true_iff.mp h1.1
  have h3:=Bool.and_eq_true_iff.mp h2.1
  cases rs with
  | nil=>exact no h1.2
  | cons r t =>
   have h4:=Bool.and_eq_true_iff.mp h1.2
   cases List.isEmpty_iff.mp h4.1
   cases of_decide_eq_true h3.2
   refine wpAny_isTrue_Compare1 (a.on h2.2 R hw (.refl _) fun l1 _ r1 R1 q1=>b.on h4.2 R1 q1 l1 fun l2 l3 r2 R2 q2=>wpAny_mono (lf (o.ok (E:=PostX F w X) q2 R2.at_ (r1.mono l3) r2)) (fun c s3 k=>?_) fun _ _ x=>x) (Bool.not_eq_true' _ |>.mp h3.1)
   obtain ⟨r,rfl,a3,q3⟩:=k
   exact lf (wpAny_truthy_bool (.mk l2 a3 q3))
 okE S cx e h:=onCmp_elim h fun l ops rs p h=>by
  intro F d loc mp hp w s Q X R hw
  have h1:=Bool.and_eq_true_iff.mp h
  have h2:=Bool.and_eq_true_iff.mp h1.1
  have h3:=Bool.and_eq_true_iff.mp h2.1
  cases rs with
  | nil=>exact no h1.2
  | cons r t =>
   have h4:=Bool.and_eq_true_iff.mp h1.2
   cases List.isEmpty_iff.mp h4.1
   cases of_decide_eq_true h3.2
   refine wpAny_Compare1 (a.on h2.2 R hw (.refl _) fun l1 _ r1 R1 q1=>b.on h4.2 R1 q1 l1 fun l2 l3 r2 R2 q2=>wpAny_mono (lf (o.ok (E:=PostX F w X) q2 R2.at_ (r1.mono l3) r2)) (fun c s3 k=>?_) fun _ _ x=>x) (Bool.not_eq_true' _ |>.mp h3.1)
   obtain ⟨r,rfl,a3,q3⟩:=k
   exact PBo l2 a3 q3
noncomputable def chk2 (o1 o2:Co) (a b c:Ex) (cx:Cx) (l:PySem.Expr) (ops:List CmpOp) (rs:List PySem.Expr):Bool := !lastMarks ops rs&&decide (ops=[o1.op,o2.op])&&a.chk cx l&&(rs.casesOn false fun r t=>b.chk cx r&&(t.casesOn false fun r t=>t.isEmpty&&c.chk cx r))
theorem chk2_on {o1 o2:Co} {a b c:Ex} {cx:Cx} {l:PySem.Expr} {ops:List CmpOp} {rs:List PySem.Expr} (h:chk2 o1 o2 a b c cx l ops rs=true):∃ x y,ops=[o1.op,o2.op]/\rs=[x,y]/\lastMarks [o1.op,o2.op] [x,y]=false/\a.chk cx l=true/\b.chk cx x=true/\c.chk cx y=true:=by
 have h1:=Bool.and_eq_true_iff.mp h
 have h2:=Bool.and_eq_true_iff.mp h1.1
 have h3:=Bool.and_eq_true_iff.mp h2.1
 cases rs with
 | nil=>exact no h1.2
 | cons x t =>
  have h4:=Bool.and_eq_true_iff.mp h1.2
  cases t with
  | nil=>exact no h4.2
  | cons y t =>
   have h5:=Bool.and_eq_true_iff.mp h4.2
   cases List.isEmpty_iff.mp h5.1
   cases of_decide_eq_true h3.2
   exact ⟨x,y,rfl,rfl,Bool.not_eq_true' _ |>.mp h3.1,h2.2,h4.1,h5.2⟩
noncomputable def chainT (o1 o2:Co) (a b c:Ex):Tx where
 chk cx e:=onCmp e fun l ops rs p=>chk2 o1 o2 a b c cx l ops rs
 chkE cx e:=onCmp e fun l ops rs p=>chk2 o1 o2 a b c cx l ops rs
 W d C loc hp Q X:=a.W d C loc hp (fun v hp=>b.W d C loc hp (fun w hp=>o1.W v w hp fun r=>r.casesOn (Q false hp) (c.W d C loc hp (fun x hp=>o2.W w x hp fun r=>Q r hp) X)) X) X
 ok S cx e h:=onCmp_elim h fun l ops rs p h=>by
  intro F d loc mp hp w s Q X R hw
  obtain ⟨x,y,rfl,rfl,hm,ka,kb,kc⟩:=chk2_on h
  refine isTrue_chain (a.on ka R hw (.refl _) fun l1 _ r1 R1 q1=>test_link (b.on kb R1 q1 l1 fun l2 l3 r2 R2 q2=>wpAny_mono (lf (o1.ok (E:=PostX F w X) q2 R2.at_ (r1.mono l3) r2)) (fun z s3 k=>?_) fun _ _ x=>x)) hm
  obtain ⟨r,rfl,a3,q3⟩:=k
  refine lf (wpAny_truthy_bool ?_)
  cases r
  ·exact PostT.mk l2 a3 q3
  ·refine test_last (c.on kc (R2.next (.refl _) a3) q3 l2 fun l4 l5 r4 R4 q4=>wpAny_mono (lf (o2.ok (E:=PostX F w X) q4 R4.at_ (r2.mono l5) r4)) (fun z s3 k=>?_) fun _ _ x=>x)
   obtain ⟨r,rfl,a3,q3⟩:=k
   exact lf (wpAny_truthy_bool (.mk l4 a3 q3))
 okE S cx e h:=onCmp_elim h fun l ops rs p h=>by
  intro F d loc mp hp w s Q X R hw
  obtain ⟨x,y,rfl,rfl,hm,ka,kb,kc⟩:=chk2_on h
  refine Compare_chain (a.on ka R hw (.refl _) fun l1 _ r1 R1 q1=>chain_link (b.on kb R1 q1 l1 fun l2 l3 r2 R2 q2=>wpAny_mono (lf (o1.ok (E:=PostX F w X) q2 R2.at_ (r1.mono l3) r2)) (fun z s3 k=>?_) fun _ _ x=>x)) hm
  obtain ⟨r,rfl,a3,q3⟩:=k
  refine lf (wpAny_truthy_bool ?_)
  cases r
  ·exact PBo l2 a3 q3
  ·refine chain_last (c.on kc (R2.next (.refl _) a3) q3 l2 fun l4 l5 r4 R4 q4=>wpAny_mono (lf (o2.ok (E:=PostX F w X) q4 R4.at_ (r2.mono l5) r4)) (fun z s3 k=>?_) fun _ _ x=>x)
   obtain ⟨r,rfl,a3,q3⟩:=k
   exact PBo l4 a3 q3
end Mine.C
namespace Mine.C
noncomputable def isStar (x:PySem.Expr):Bool:=x.casesOn (fun a b c=>false) (fun a b c=>false) (fun a b c d=>false) (fun a b c=>false) (fun a b c d=>false) (fun a b c d=>false) (fun a b c=>false) (fun a b c=>false) (fun a b c d=>false) (fun a b c d=>false) (fun a b c d e=>false) (fun a b c d=>false) (fun a b=>false) (fun a b=>false) (fun a b=>false) (fun a b c d=>false) (fun a b c d=>false) (fun a b c d=>false) (fun a b=>false) (fun a b c=>false) (fun a b c=>false) (fun a b c=>false) (fun a b=>true) (fun a b=>false) (fun a b=>false) (fun a b c=>false) (fun a b c d=>false)
theorem starEach_cons {x:PySem.Expr} {r:List PySem.Expr} {env:Env} (h:isStar x=false):starEach (x::r) env=(false,eval x env)::starEach r env:=by
 cases x<;>first | rfl | exact absurd h.symm Bool.false_ne_true
abbrev LW:=Nat->CallP->Loc->Hp->(List V->Hp->Prop)->(Bs->Prop)->Prop
noncomputable def Ws (es:List Ex):LW:=es.rec (fun d C loc hp Q X=>Q [] hp) fun e r ih d C loc hp Q X=>e.W d C loc hp (fun v hp=>ih d C loc hp (fun vs hp=>Q (v::vs) hp) X) X
noncomputable def chkL (cx:Cx) (es:List Ex):List PySem.Expr->Bool:=es.rec (fun xs=>xs.isEmpty) fun e r ih xs=>xs.casesOn false fun x t => !isStar x&&e.chk cx x&&ih t
theorem chkL_on {cx:Cx} {e:Ex} {r:List Ex} {xs:List PySem.Expr} (h:chkL cx (e::r) xs=true):∃ x t,xs=x::t/\isStar x=false/\e.chk cx x=true/\chkL cx r t=true:=by
 cases xs with
 | nil=>exact no h
 | cons x t =>
  have h1:=Bool.and_eq_true_iff.mp h
  have h2:=Bool.and_eq_true_iff.mp h1.1
  exact ⟨x,t,rfl,Bool.not_eq_true' _ |>.mp h2.1,h2.2,h1.2⟩
section
variable {S:Sx} {cx:Cx} {F:Fx S} {d:Nat} {mp:Mp} {w0:Wd} {X:Bs->Prop} {loc:Loc}
theorem Ws_on {pos:Pos} {P:List Value->Shared->Prop} (es:List Ex):∀ {xs:List PySem.Expr} {hp:Hp} {w:Wd} {s:Shared} {Q:List V->Hp->Prop},chkL cx es xs=true->Rd cx F d loc mp hp w s->Ws es d (CallOk S) loc hp Q X->w0.le w ->
  (∀ {w' vs cvs hp' s'},w0.le w'->w.le w'->All2 (Rel S w') vs cvs->Rd cx F d loc mp hp' w' s'->Q vs hp'->cvs.length=es.length->P cvs s')->wpAny (model S.prog S.w) F.A (spliced (backTo pos (starEach xs F.env))) P (PostX F w0 X) s:=by
 induction es generalizing P with
 | nil =>
  intro xs hp w s Q h R hw l k
  cases List.isEmpty_iff.mp h
  exact lf (spliced_none (k (vs:=[]) l (.refl _) rfl R hw rfl))
 | cons e r ih =>
  intro xs hp w s Q h R hw l k
  obtain ⟨x,t,rfl,h1,h2,h3⟩:=chkL_on h
  exact spliced_more (e.on h2 R hw l fun l1 l2 r1 R1 q1=>ih h3 R1 q1 l1 fun l3 l4 rs R2 q2 hl=>k (vs:=_::_) l3 (l2.trans l4) (IsCons.mk (r1.mono l4) rs) R2 q2 (congrArg Nat.succ hl)) (starEach_cons h1)
theorem chkL_star {pos:Pos} {env:Env} {es:List Ex} {xs:List PySem.Expr} (h:chkL cx es xs=true):(backTo pos (starEach xs env)).any (·.1)=false/\(es=[]\/∃ x t,xs=x::t/\isStar x=false):=by
 have key:∀ {es:List Ex} {xs:List PySem.Expr},chkL cx es xs=true->(starEach xs env).any (·.1)=false:=by
  intro es
  induction es with
  | nil=>intro xs h;cases List.isEmpty_iff.mp h;rfl
  | cons e r ih=>intro xs h;obtain ⟨x,t,rfl,h1,_,h3⟩:=chkL_on h;rw [starEach_cons h1,List.any_cons,ih h3];rfl
 cases es with
 | nil=>cases List.isEmpty_iff.mp h;exact ⟨rfl,.inl rfl⟩
 | cons e r =>
  obtain ⟨x,t,rfl,h1,h2,h3⟩:=chkL_on h
  refine ⟨?_,.inr ⟨x,t,rfl,h1⟩⟩
  rw [starEach_cons h1]
  show (_::(starEach t env).map _).any _=false
  rw [List.any_cons,List.any_map]
  exact (Bool.false_or _).trans (key h3)
end
noncomputable def toDs (vs:List V):(List D->Prop)->Prop:=vs.rec (fun k=>k []) fun v r ih k=>asD v fun x=>ih fun xs=>k (x::xs)
theorem toDs_on {S:Sx} {w:Wd} {P:Prop} {vs:List V}:∀ {k:List D->Prop} {cvs:List Value},toDs vs k->All2 (Rel S w) vs cvs->(∀ xs,k xs->All2 (RelD S w.fz) xs cvs->P)->P:=by
 induction vs with
 | nil=>intro k cvs h r f;cases (show cvs=[] from r);exact f [] h rfl
 | cons v vs ih =>
  intro k cvs h r f
  cases (show IsCons .. from r) with | mk a b =>
  exact asD_on (R:=fun v=>Rel S w v _) h a fun x h a=>ih h b fun xs h b=>f (x::xs) h (IsCons.mk a b)
noncomputable def dtupX (es:List Ex):Ex where
 chk cx e:=onTup e fun xs k p=>chkL cx es xs
 W d C loc hp Q X:=Ws es d C loc hp (fun vs hp=>toDs vs fun xs=>xs.length<=1000/\Q (.d (.tup xs)) hp) X
 ok S cx e h:=onTup_elim h fun xs k p h=>by
  intro F d loc mp hp w s Q X R hw
  refine Tuple_ (Ws_on es h R hw (.refl _) fun {w1 vs cvs hp1 s1} l1 _ rs R1 q1 hl=>toDs_on q1 rs fun ys q1 rs=>?_)
  obtain ⟨news,i⟩:=R1.at_.inv
  refine lf (newTuple_N i.fr i.nw (fun h' F' N'=>?_) (by rw [rs.length];exact Nat.le_trans q1.1 (by decide)))
  obtain ⟨a',l'⟩:=i.icy (s':={ s1 with heap:=h' }) R1.at_.len F' N' i.size rfl rfl
  exact PT (l1.trans l') (Fz.set_at _ _ _) (rs.imp fun a b=>RelD.mono l'.fz) a' q1.2
noncomputable def as2 (vs:List V) (k:V->V->Prop):Prop:=vs.casesOn False fun x r=>r.casesOn False fun y r=>r.casesOn (k x y) fun a b=>False
noncomputable def pairX (a b:Ex):Ex where
 chk cx e:=onTup e fun xs k p=>chkL cx [a,b] xs
 W d C loc hp Q X:=Ws [a,b] d C loc hp (fun vs hp=>as2 vs fun x y=>Q (.pair x y) hp) X
 ok S cx e h:=onTup_elim h fun xs k p h=>by
  intro F d loc mp hp w s Q X R hw
  refine Tuple_ (Ws_on [a,b] h R hw (.refl _) fun {w1 vs cvs hp1 s1} l1 _ rs R1 q1 hl=>?_)
  obtain ⟨news,i⟩:=R1.at_.inv
  refine lf (newTuple_N i.fr i.nw (fun h' F' N'=>?_) (by rw [hl];exact (show 2<=sizeLine by decide)))
  obtain ⟨a',l'⟩:=i.icy (s':={ s1 with heap:=h' }) R1.at_.len F' N' i.size rfl rfl
  match vs,q1,rs with
  | [x,y],q1,rs=>exact .mk (v := .pair x y) (l1.trans l') (IsTup.mk (Fz.set_at _ _ _) (Rels.mono l' rs)) a' q1
noncomputable def lstX (es:List Ex):Ex where
 chk cx e:=onList e fun xs p=>chkL cx es xs
 W d C loc hp Q X:=Ws es d C loc hp (fun vs hp=>toDs vs fun xs=>xs.length<=1000/\Q (.ref hp.length) (hp++[.list xs])) X
 ok S cx e h:=onList_elim h fun xs p h=>by
  intro F d loc mp hp w s Q X R hw
  refine List_ (Ws_on es h R hw (.refl _) fun {w1 vs cvs hp1 s1} l1 _ rs R1 q1 hl=>toDs_on q1 rs fun ys q1 rs=>?_)
  obtain ⟨news,i⟩:=R1.at_.inv
  refine lf (newList_N i.fr i.nw (fun h' F' N'=>?_) (by rw [rs.length];exact Nat.le_trans q1.1 (by decide)))
  exact PRef l1 R1.at_.len (i.alloc (s':={ s1 with heap:=h' }) (x := .list ys) R1.at_.len F' N' i.size (IsList.mk (n:=0) rs) rfl rfl) q1.2
noncomputable def rlstX:Ex where
 chk cx e:=onList e fun xs p=>xs.isEmpty
 W d C loc hp Q X:=Q (.ref hp.length) (hp++[.refs []])
 ok S cx e h:=onList_elim h fun xs p h=>by
  intro F d loc mp hp w s Q X R hw
  cases List.isEmpty_iff.mp h
  refine List_ (lf (spliced_none ?_))
  obtain ⟨news,i⟩:=R.at_.inv
  refine lf (newList_N i.fr i.nw (fun h' F' N'=>?_) (by decide))
  exact PRef (.refl _) R.at_.len (i.alloc (s':={ s with heap:=h' }) (x := .refs []) R.at_.len F' N' i.size (IsList.mk (n:=0) (cvs:=[]) rfl) rfl rfl) hw
noncomputable def noSuper (x:PySem.Expr):Bool:=x.casesOn (fun a b c=>true) (fun a b c=>true) (fun a b c d=>true) (fun a b c=>true) (fun a b c d=>true) (fun a b c d=>true) (fun a b c=>true) (fun a b c=>true) (fun a b c d=>true) (fun a b c d=>true) (fun a b c d e=>true) (fun a b c d=>true) (fun a b=>true) (fun a b=>true) (fun a b=>true) (fun a b c d=>true) (fun a b c d => !b.isEmpty) (fun a b c d=>true) (fun a b=>true) (fun a b c=>true) (fun a b c=>true) (fun a b c=>true) (fun a b=>true) (fun a b=>true) (fun a b=>true) (fun a b c=>true) (fun a b c d=>true)
theorem attributeBase_no {o:PySem.Expr} {attr:Str} {env:Env} {whole:Sem Value} (h:noSuper o=true):attributeBase o attr env whole=whole:=by
 cases o with
 | Call f xs ks p=>cases xs with
  | nil=>exact no h
  | cons y t=>cases f<;>rfl
 | _=>rfl
noncomputable def attrChk (n:Nat) (a:Ex) (cx:Cx) (e:PySem.Expr):Bool:=onAttr e fun v x p=>decide (x=nm n)&&noSuper v&&a.chk cx v
theorem attr_ok {S:Sx} {n:Nat} {a:Ex} {cx:Cx} {e:PySem.Expr} {W:V->Hp->(V->Prop)->Prop} (h:attrChk n a cx e=true)
  (hW:∀ {F:Fx S} {mp:Mp} {hp:Hp} {w w0:Wd} {s:Shared} {v:V} {cv:Value} {Q:V->Hp->Prop} {E:Value->Shared->Prop},W v hp (fun r=>Q r hp)->At F mp hp w s->Rel S w v cv->w0.le w->PySem.wpAny (model S.prog S.w) F.A (getAttr cv (nm n) true) (PostE F mp w0 Q) E s) :
  EvOk S cx e fun d C loc hp Q X=>a.W d C loc hp (fun v hp=>W v hp fun r=>Q r hp) X:=onAttr_elim h fun v x p h=>by
 intro F d loc mp hp w s Q X R hw
 have h1:=Bool.and_eq_true_iff.mp h
 have h2:=Bool.and_eq_true_iff.mp h1.1
 cases of_decide_eq_true h2.1
 exact Attribute_any_ (a.on h1.2 R hw (.refl _) fun l1 _ r1 R1 q1=>lf (hW q1 R1.at_ r1 l1)) (by rw [arm_eval_Attribute,attributeBase_no h2.2])
noncomputable def attrX (n:Nat) (a:Ex):Ex:=⟨attrChk n a,fun d C loc hp Q X=>a.W d C loc hp (fun v hp=>attrI n v hp fun r=>Q r hp) X,fun S cx e h=>attr_ok h attrI_ok⟩
noncomputable def attrOX (n:Nat) (a:Ex):Ex:=⟨attrChk n a,fun d C loc hp Q X=>a.W d C loc hp (fun v hp=>attrO n v fun r=>Q r hp) X,fun S cx e h=>attr_ok (W:=fun v hp k=>attrO n v k) h attrO_ok⟩
noncomputable def noSlice (x:PySem.Expr):Bool:=x.casesOn (fun a b c=>true) (fun a b c=>true) (fun a b c d=>true) (fun a b c=>true) (fun a b c d=>true) (fun a b c d=>true) (fun a b c=>true) (fun a b c=>true) (fun a b c d=>true) (fun a b c d=>true) (fun a b c d e=>true) (fun a b c d=>true) (fun a b=>true) (fun a b=>true) (fun a b=>true) (fun a b c d=>true) (fun a b c d=>true) (fun a b c d=>true) (fun a b=>true) (fun a b c=>true) (fun a b c=>true) (fun a b c=>true) (fun a b=>true) (fun a b=>true) (fun a b=>true) (fun a b c=>true) (fun a b c d=>false)
theorem noSlice_sub {x:PySem.Expr} (h:noSlice x=true) (o k:Value):subscripted x false o k=operate [o,k] (getItem o k):=by cases x<;>first | rfl | exact no h
noncomputable def itemX (o:Io) (a b:Ex):Ex where
 chk cx e:=onSub e fun v i p=>noSlice i&&a.chk cx v&&b.chk cx i
 W d C loc hp Q X:=a.W d C loc hp (fun v hp=>b.W d C loc hp (fun w hp=>o.W v w hp fun r=>Q r hp) X) X
 ok S cx e h:=onSub_elim h fun v i p h=>by
  intro F d loc mp hp w s Q X R hw
  have h1:=Bool.and_eq_true_iff.mp h
  have h2:=Bool.and_eq_true_iff.mp h1.1
  exact Subscript_ (a.on h2.2 R hw (.refl _) fun l1 _ r1 R1 q1=>b.on h1.2 R1 q1 l1 fun l2 l3 r2 R2 q2=>lf (o.ok (noSlice_sub h2.1) q2 R2.at_ (r1.mono l3) r2 l2))
abbrev OW:=Nat->CallP->Loc->Hp->(Option V->Hp->Prop)->(Bs->Prop)->Prop
noncomputable def WO (o:Option Ex):OW:=fun d C loc hp Q X=>o.casesOn (Q none hp) fun e=>e.W d C loc hp (fun v hp=>Q (some v) hp) X
noncomputable def chkO (cx:Cx) (o:Option Ex) (x:Option PySem.Expr):Bool:=o.casesOn x.isNone fun e=>x.casesOn false fun x=>e.chk cx x
theorem WO_on {S:Sx} {cx:Cx} {F:Fx S} {d:Nat} {mp:Mp} {w w0:Wd} {X:Bs->Prop} {loc:Loc} {hp:Hp} {s:Shared} {o:Option Ex} {x:Option PySem.Expr} {Q:Option V->Hp->Prop} {P:Value->Shared->Prop} (hc:chkO cx o x=true) (R:Rd cx F d loc mp hp w s) (hw:WO o d (CallOk S) loc hp Q X) (l:w0.le w)
  (k:∀ {w' v cv hp' s'},w0.le w'->w.le w'->RelO S w' v cv->Rd cx F d loc mp hp' w' s'->Q v hp'->P cv s'):wpAny (model S.prog S.w) F.A (evalPart x F.env) P (PostX F w0 X) s:=by
 cases o with
 | none=>cases Option.isNone_iff_eq_none.mp hc;exact lf (wpAny_evalPart_none (k (v:=none) l (.refl _) rfl R hw))
 | some e=>cases x with
  | none=>exact no hc
  | some x=>exact wpAny_evalPart_some (e.on hc R hw l fun {w' v cv hp' s'} l1 l2 r R q=>k (v:=some v) l1 l2 r R q)
noncomputable def slX (o:So) (a:Ex) (lo hi:Option Ex):Ex where
 chk cx e:=onSub e fun v i p=>a.chk cx v&&onSlice i fun x y z p=>z.isNone&&chkO cx lo x&&chkO cx hi y
 W d C loc hp Q X:=a.W d C loc hp (fun v hp=>WO lo d C loc hp (fun l hp=>WO hi d C loc hp (fun h hp=>o.W v l h hp Q) X) X) X
 ok S cx e h:=onSub_elim h fun v i p h=>onSlice_elim (P:=fun i=>EvOk S cx (.Subscript v i p) fun d C loc hp Q X=>a.W d C loc hp (fun v hp=>WO lo d C loc hp (fun l hp=>WO hi d C loc hp (fun h hp=>o.W v l h hp Q) X) X) X) (Bool.and_eq_true_iff.mp h).2 fun x y z q h'=>by
  intro F d loc mp hp w s Q X R hw
  have h1:=Bool.and_eq_true_iff.mp h'
  have h2:=Bool.and_eq_true_iff.mp h1.1
  cases Option.isNone_iff_eq_none.mp h2.1
  exact Subscript_ (a.on (Bool.and_eq_true_iff.mp h).1 R hw (.refl _) fun l1 _ r1 R1 q1=>wpAny_Slice (WO_on h2.2 R1 q1 l1 fun l2 l3 r2 R2 q2=>WO_on h1.2 R2 q2 l2 fun l4 l5 r3 R3 q3=>lf (wpAny_evalPart_none (lf (o.ok (fun o x=>rfl) q3 R3.at_ (r1.mono (l3.trans l5)) (r2.mono l5) r3 l4)))))
end Mine.C
namespace Mine
theorem plainAttrs_barr:PlainAttrs "bytearray" :=
 ⟨⟨"bytearray.__getattribute__", by rw [typeLookup_type,builtinLookup_eq_fast];kernel_rfl,by decide +kernel⟩,by rw [typeLookup_type,builtinLookup_eq_fast];kernel_rfl⟩
theorem slot_bytes_join:Slot "bytes" "join" "bytes.join" :=
 .of (owner := "bytes") (n := "join") (by rw [typeLookup_type,builtinLookup_eq_fast];kernel_rfl) (by decide +kernel) (by decide +kernel) (by decide +kernel)
  (by first | exact .inl (by decide +kernel) | exact .inr (by decide +kernel)) (by rw [isSubtype_type];kernel_rfl)
theorem type_bytes_join:typeOf (.builtin "bytes.join")=pure (.type "method_descriptor"):=by show builtinType _=_;rw [builtinType_eq_fast];kernel_rfl
theorem slot_bytes_partition:Slot "bytes" "partition" "bytes.partition" :=
 .of (owner := "bytes") (n := "partition") (by rw [typeLookup_type,builtinLookup_eq_fast];kernel_rfl) (by decide +kernel) (by decide +kernel) (by decide +kernel)
  (by first | exact .inl (by decide +kernel) | exact .inr (by decide +kernel)) (by rw [isSubtype_type];kernel_rfl)
theorem type_bytes_partition:typeOf (.builtin "bytes.partition")=pure (.type "method_descriptor"):=by show builtinType _=_;rw [builtinType_eq_fast];kernel_rfl
theorem slot_bytes_index:Slot "bytes" "index" "bytes.index" :=
 .of (owner := "bytes") (n := "index") (by rw [typeLookup_type,builtinLookup_eq_fast];kernel_rfl) (by decide +kernel) (by decide +kernel) (by decide +kernel)
  (by first | exact .inl (by decide +kernel) | exact .inr (by decide +kernel)) (by rw [isSubtype_type];kernel_rfl)
theorem type_bytes_index:typeOf (.builtin "bytes.index")=pure (.type "method_descriptor"):=by show builtinType _=_;rw [builtinType_eq_fast];kernel_rfl
theorem slot_bytes_split:Slot "bytes" "split" "bytes.split" :=
 .of (owner := "bytes") (n := "split") (by rw [typeLookup_type,builtinLookup_eq_fast];kernel_rfl) (by decide +kernel) (by decide +kernel) (by decide +kernel)
  (by first | exact .inl (by decide +kernel) | exact .inr (by decide +kernel)) (by rw [isSubtype_type];kernel_rfl)
theorem type_bytes_split:typeOf (.builtin "bytes.split")=pure (.type "method_descriptor"):=by show builtinType _=_;rw [builtinType_eq_fast];kernel_rfl
theorem slot_barr_append:Slot "bytearray" "append" "bytearray.append" :=
 .of (owner := "bytearray") (n := "append") (by rw [typeLookup_type,builtinLookup_eq_fast];kernel_rfl) (by decide +kernel) (by decide +kernel) (by decide +kernel)
  (by first | exact .inl (by decide +kernel) | exact .inr (by decide +kernel)) (by rw [isSubtype_type];kernel_rfl)
theorem type_barr_append:typeOf (.builtin "bytearray.append")=pure (.type "method_descriptor"):=by show builtinType _=_;rw [builtinType_eq_fast];kernel_rfl
end Mine
namespace Mine.C
noncomputable def callable (v:V):Bool:=v.casesOn (fun a=>false) (fun a b=>false) (fun a=>false) (fun a b=>false) (fun a=>true) (fun a=>true) (fun a=>true)
noncomputable def isBT (v:Value):Bool:=match v with | .builtin _=>true | .type _=>true | _=>false
theorem biV_bt (b:Nat):isBT (biV b)=true:=by
 have h:∀ b < 18,isBT (biV b)=true:=by decide +kernel
 by_cases q:b < 18
 ·exact h b q
 ·unfold biV;rw [List.getD_eq_getElem?_getD,List.getElem?_eq_none (show biL.length<=b from Nat.not_lt.mp q)];rfl
theorem keepsOk {S:Sx} {w:Wd} {f:V} {cf:Value} (hc:callable f=true) (r:Rel S w f cf) (h:Heap) (X:S.K.In h):∃ k,(k=Keeper.frame\/k=Keeper.machine\/k=Keeper.boundFrame)/\Looks (model S.prog S.w) h (keeperOf cf) k:=by
 cases f with
 | fn k=>cases (show cf=_ from r);exact keeps_K (S.fnKeep k) h X
 | cls c=>cases (show cf=_ from r);exact keeps_K (S.clsKeep c) h X
 | bi b =>
  cases (show cf=biV b from r)
  have:=biV_bt b
  generalize biV b=v at *
  cases v<;>first | exact ⟨.machine,.inr (.inl rfl),Looks.now⟩ | exact no this
 | _=>exact no hc
section
variable {S:Sx} {cx:Cx} {F:Fx S} {d:Nat} {loc:Loc} {mp:Mp} {hp:Hp} {w w0:Wd} {s:Shared} {X:Bs->Prop} {Q:V->Hp->Prop}
theorem args_ok {es:List Ex} {xs:List PySem.Expr} {f:V} {cf:Value} {first:List V} {cfirst:List Value} {pos:Pos} (hc:callable f=true) (h:chkL cx es xs=true) (R:Rd cx F d loc mp hp w s) (l:w0.le w) (rf:Rel S w f cf) (rs:All2 (Rel S w) first cfirst)
  (hw:Ws es d (CallOk S) loc hp (fun vs hp=>CallOk S d f (first++vs) hp Q X) X):wpAny (model S.prog S.w) F.A (callWith pos cf cfirst (backTo pos (starEach xs F.env)) []) (PostE F mp w0 Q) (PostX F w0 X) s:=by
 have st:=chkL_star (pos:=pos) (env:=F.env) h
 refine callWith_of (P:=fun h=>S.K.In h) ?_ (fun h X=>keepsOk hc rf h X) ?_
 ·rw [Bool.or_eq_false_iff]
  refine ⟨?_,rfl⟩
  exact st.1
 have fin:∀ {w' vs cvs hp' s'},w0.le w'->w.le w'->All2 (Rel S w') vs cvs->Rd cx F d loc mp hp' w' s'->CallOk S d f (first++vs) hp' Q X->S.K.In s'.heap/\wpAny (model S.prog S.w) F.A (call cf (cfirst++cvs) []) (PostE F mp w0 Q) (PostX F w0 X) s':=fun l1 l2 rs' R q =>
  ⟨R.at_.kIn,wpAny_mono (q.run R.dp R.at_ (rf.mono l2) (All2.app rs' (Rels.mono l2 rs))) (fun _ _ p=>p.rec fun a b c q => .mk (l1.trans a) b c q) fun _ _ p=>p.weak l1⟩
 rcases st.2 with rfl | ⟨x,t,rfl,hx⟩
 ·cases List.isEmpty_iff.mp h
  exact lf (evalArgs_nil3 (fin (vs:=[]) l (.refl _) rfl R hw))
 ·rw [starEach_cons hx]
  refine evalArgs_plain (?_:wpAny _ _ (spliced (backTo pos ((false,eval x F.env)::starEach t F.env))) _ _ _)
  rw [<- starEach_cons hx]
  exact Ws_on es h R hw l fun l1 l2 rs R q hl=>fin l1 l2 rs R q
end
noncomputable def kX (f:Ex) (es:List Ex):Ex where
 chk cx e:=onCall e fun g xs ks p=>ks.isEmpty&&f.chk cx g&&onName g (fun a b=>true)&&chkL cx es xs
 W d C loc hp Q X:=f.W d C loc hp (fun v hp=>cond (callable v) (Ws es d C loc hp (fun vs hp=>C d v vs hp Q X) X) False) X
 ok S cx e h:=onCall_elim h fun g xs ks p h=>by
  intro F d loc mp hp w s Q X R hw
  have h1:=Bool.and_eq_true_iff.mp h
  have h2:=Bool.and_eq_true_iff.mp h1.1
  have h3:=Bool.and_eq_true_iff.mp h2.1
  cases List.isEmpty_iff.mp h3.1
  refine onName_elim (P:=fun g=>f.chk cx g=true->wpAny (model S.prog S.w) F.A (eval (.Call g xs [] p) F.env) (PostE F mp w Q) (PostX F w X) s) h2.2 (fun n q _ h=>?_) h3.2
  refine Call_ (f.on h R hw (.refl _) fun {w1 v cv hp1 s1} l1 _ r1 R1 q1=>?_) rfl
  cases hc:callable v with
  | false=>rw [hc] at q1;exact q1.elim
  | true=>rw [hc] at q1;exact args_ok (first:=[]) (cfirst:=[]) hc h1.2 R1 l1 r1 rfl q1
structure Mo where
 n:Nat
 W:V->Hp->(V->Prop)->Prop
 ok:∀ {S:Sx} {F:Fx S} {mp:Mp} {hp:Hp} {w:Wd} {s:Shared} {v:V} {cv:Value} {k:V->Prop} {R:Value×List Value->Shared->Prop} {E:Value->Shared->Prop} {pl:Sem Bool},W v hp k->At F mp hp w s->Rel S w v cv->(∀ f cf,callable f=true->Rel S w f cf->k f->R (cf,[cv]) s) ->
  PySem.wpAny (model S.prog S.w) F.A (getMethod cv (nm n) pl) R E s
noncomputable def methX (m:Mo) (o:Ex) (es:List Ex):Ex where
 chk cx e:=onCall e fun g xs ks p=>ks.isEmpty&&Nat.ble xs.length 25&&chkL cx es xs&&onAttr g fun v n q=>decide (n=nm m.n)&&noSuper v&&(q.endLine==p.line)&&o.chk cx v
 W d C loc hp Q X:=o.W d C loc hp (fun v hp=>m.W v hp fun f=>Ws es d C loc hp (fun vs hp=>C d f (v::vs) hp Q X) X) X
 ok S cx e h:=onCall_elim h fun g xs ks p h=>by
  intro F d loc mp hp w s Q X R hw
  have h1:=Bool.and_eq_true_iff.mp h
  have h2:=Bool.and_eq_true_iff.mp h1.1
  have h3:=Bool.and_eq_true_iff.mp h2.1
  cases List.isEmpty_iff.mp h3.1
  refine onAttr_elim (P:=fun g=>wpAny (model S.prog S.w) F.A (eval (.Call g xs [] p) F.env) (PostE F mp w Q) (PostX F w X) s) h1.2 fun v n q h=>?_
  have k1:=Bool.and_eq_true_iff.mp h
  have k2:=Bool.and_eq_true_iff.mp k1.1
  have k3:=Bool.and_eq_true_iff.mp k2.1
  cases of_decide_eq_true k3.1
  refine MethodCall_ (pl:=do return (<- importBound v F.env).getD true) (o.on k1.2 R hw (.refl _) fun l1 _ r1 R1 q1=>lf (m.ok q1 R1.at_ r1 fun f cf hc rf q2=>args_ok (first:=[_]) (cfirst:=[_]) hc h2.2 R1 l1 rf (IsCons.mk r1 rfl) q2)) ?_
  rw [arm_eval_Call,attributeBase_no k3.2]
  have hfew:methodCallForm (xs.length+([] : List Keyword).length) (backTo p (starEach xs F.env)) (backToKw p (keywordEach [] F.env))=true:=by
   unfold methodCallForm
   have st:=chkL_star (pos:=p) (env:=F.env) h2.2
   rw [Bool.and_eq_true,Bool.and_eq_true]
   refine ⟨⟨List.all_eq_true.mpr fun x hx=>?_,rfl⟩,decide_eq_true (Nat.lt_of_le_of_lt (Nat.le_of_ble_eq_true h3.2) (by decide))⟩
   exact Bool.not_eq_true' _ |>.mpr (Bool.eq_false_iff.mpr (List.any_eq_false.mp st.1 x hx))
  have e1:methodCallPos true v F.env q p=pure p:=by unfold methodCallPos;rw [k2.2];rfl
  unfold methodCall
  rw [hfew,e1]
  rfl
section
variable {S:Sx} {F:Fx S} {mp:Mp} {hp:Hp} {w:Wd} {s:Shared} {v:V} {cv:Value} {R:Value×List Value->Shared->Prop} {E:Value->Shared->Prop} {pl:Sem Bool}
theorem gmO {T:String} {name:Str} {id:String} {a:Addr} {o:Obj} (pa:PlainAttrs T) (slot:Slot T name id) (ty:typeOf (.builtin id)=pure (.type "method_descriptor"))
  (ho:s.heap.get? a=some o) (hc:o.cls = .type T) (hd:o.dict=none) (h:R (.builtin id,[.ref a]) s):PySem.wpAny (model S.prog S.w) F.A (getMethod (.ref a) name pl) R E s :=
 getMethod_builtin ⟨o,ho,hc⟩ pa slot ty (fun a e=>by cases e;exact ⟨_,ho,hd⟩) h
end
noncomputable def mBy (n b:Nat) (id:String) (e:biV b = .builtin id) (slot:Slot "bytes" (nm n) id) (ty:typeOf (.builtin id)=pure (.type "method_descriptor")):Mo :=
 ⟨n,fun v hp k=>asB v fun x=>k (.bi b),fun {S F mp hp w s v cv k R E pl} h ha r f=>asB_on (R:=fun v=>Rel S w v cv) h r fun x h r=>by
  obtain ⟨t,rfl⟩:=r
  have q:R (.builtin id,[_]) s:=f (.bi b) _ rfl e.symm h
  with_reducible exact KBd.method_of (.bytes x.toArray t) (typeIs_bytes _ _ _) slot ty KBd.noRef q⟩
noncomputable def mBa:Mo:=⟨39,fun v hp k=>asRef v fun i=>atB hp i fun x=>k (.bi 12),fun {S F mp hp w s v cv k R E pl} h ha r f=>asRef_on (R:=fun v=>Rel S w v cv) h r fun i h r=>atB_on h fun x e h=>by
 cases At.ref ha e r with | mk g1 g2 g3 =>
 cases (show _=_ from g3)
 have q:R (.builtin "bytearray.append", [_]) s:=f (.bi 12) _ rfl rfl h
 show PySem.wpAny _ _ (getMethod _ (Str.ofString "append") _) _ _ _
 with_reducible exact gmO plainAttrs_barr slot_barr_append type_barr_append g2 rfl rfl q⟩
noncomputable def mDg:Mo:=⟨41,fun v hp k=>asRef v fun i=>atI hp i fun x=>k (.bi 13),fun {S F mp hp w s v cv k R E pl} h ha r f=>asRef_on (R:=fun v=>Rel S w v cv) h r fun i h r=>atI_on h fun x e h=>by
 cases At.ref ha e r with | mk g1 g2 g3 =>
 cases (show IsDi .. from g3) with | mk g4 g5 =>
 obtain ⟨es,ep,⟨x1,x2,x3⟩,_⟩:=g4
 have q:R (.builtin "dict.get", [_]) s:=f (.bi 13) _ rfl rfl h
 show PySem.wpAny _ _ (getMethod _ (Str.ofString "get") _) _ _ _
 with_reducible exact gmO PySem.F.plainAttrs_dict PySem.F.slot_dict_get PySem.F.type_dict_get g2 x1 x2 q⟩
noncomputable def methK (c n:Nat):Option Nat:=methL.lookup (c,n)
theorem methL_mem {c n k:Nat} (h:methK c n=some k):((c,n),k)∈methL:=by
 unfold methK at h
 generalize methL=l at h
 induction l with
 | nil=>exact nomatch h
 | cons p r ih =>
  rw [List.lookup_cons] at h
  cases q:(c,n)==p.1 with
  | false=>rw [q] at h;exact .tail _ (ih h)
  | true=>rw [q] at h;cases Option.some.inj h;rw [beq_iff_eq.mp q];exact .head _
noncomputable def mOwn (n:Nat):Mo:=⟨n,fun v hp k=>asInst v fun c i=>atN hp i fun c' vs=>cond (c==c' && !(fld c').contains n) (opt (methK c n) fun j=>k (.fn j)) False,fun {S F mp hp w s v cv k R E pl} h ha r f=>asInst_on (R:=fun v=>Rel S w v cv) h r fun c i h r=>atN_on h fun c' vs e h=>by
 cases hq:c==c' && !(fld c').contains n with
 | false=>rw [hq] at h;exact h.elim
 | true =>
  rw [hq] at h
  have h1:=Bool.and_eq_true_iff.mp hq
  cases beq_iff_eq.mp h1.1
  obtain ⟨j,hj,h⟩:=opt_on h
  obtain ⟨a,o,g1,g2,g3⟩:=ha.cell e
  cases (show IsIn .. from r) with | mk r1 r2 =>
  cases g1.symm.trans r2
  cases (show IsNs .. from g3) with | mk g4 g5 =>
  obtain ⟨f1,f2⟩:=S.clsMeth _ (methL_mem hj)
  obtain ⟨news,z⟩:=ha.inv
  refine method_inst (C:=S.cA c) z.fr S.kin ⟨ha.get r1,rfl,rfl,g2⟩ (S.clsGet c) f1 f2 ?_ (f (.fn j) _ rfl rfl h)
  unfold getL
  rw [ents_none (Bool.not_eq_true' _ |>.mp h1.2) g4,(ents_plain g4).1]
  rfl⟩
noncomputable def isLst (x:O):Bool:=x.casesOn (fun a=>true) (fun a=>true) (fun a=>false) (fun a b=>false) (fun a=>false) (fun a=>false) (fun a=>false) false
theorem lst_cls {S:Sx} {w:Wd} {x:O} {o:Obj} (h:isLst x=true) (r:ORel S w x o):o.cls = .type "list" /\ o.dict=none:=by
 cases x with
 | list=>cases (show IsList .. from r);exact ⟨rfl,rfl⟩
 | refs=>cases (show IsList .. from r);exact ⟨rfl,rfl⟩
 | _=>exact no h
theorem live_lst {x:O} (h:isLst x=true):live x=true:=by cases x<;>first | rfl | exact no h
noncomputable def mLs (n b:Nat) (id:String) (e:biV b = .builtin id) (slot:Slot "list" (nm n) id) (ty:typeOf (.builtin id)=pure (.type "method_descriptor")):Mo :=
 ⟨n,fun v hp k=>asRef v fun i=>atO hp i fun x=>cond (isLst x) (k (.bi b)) False,fun {S F mp hp w s v cv k R E pl} h ha r f=>asRef_on (R:=fun v=>Rel S w v cv) h r fun i h r=>atO_on h fun x e' h=>by
  cases hl:isLst x with
  | false=>rw [hl] at h;exact h.elim
  | true =>
   rw [hl] at h
   cases At.ref ha e' r (live_lst hl) with | mk g1 g2 g3 =>
   have q:R (.builtin id,[_]) s:=f (.bi b) _ rfl e.symm h
   have c:=lst_cls hl g3
   with_reducible exact gmO PySem.F.plainAttrs_list slot ty g2 c.1 c.2 q⟩
end Mine.C
namespace Mine.C
noncomputable def plainT (x:PySem.Expr):Bool:=x.casesOn (fun a b c=>false) (fun a b c=>false) (fun a b c d=>false) (fun a b c=>false) (fun a b c d=>false) (fun a b c d=>false) (fun a b c=>false) (fun a b c=>false) (fun a b c d=>false) (fun a b c d=>false) (fun a b c d e=>false) (fun a b c d=>false) (fun a b=>false) (fun a b=>false) (fun a b=>false) (fun a b c d=>false) (fun a b c d=>true) (fun a b c d=>false) (fun a b=>false) (fun a b c=>false) (fun a b c=>true) (fun a b c=>false) (fun a b=>false) (fun a b=>true) (fun a b=>false) (fun a b c=>false) (fun a b c d=>false)
theorem plainT_eq {x:PySem.Expr} (h:plainT x=true) (env:Env) (whole:Sem Value):PySem.isTrue x env whole=(do let v <- whole;standAt x.pos;holding [v] (truthy v)):=by cases x<;>first | exact no h | rfl
noncomputable def valT (e:Ex):Tx where
 chk cx x:=plainT x&&e.chk cx x
 chkE cx x:=e.chk cx x
 W d C loc hp Q X:=e.W d C loc hp (fun v hp=>asB0 v fun b=>Q b hp) X
 ok S cx x h:=by
  intro F d loc mp hp w s Q X R hw
  have h1:=Bool.and_eq_true_iff.mp h
  exact isTrue_plain (e.on h1.2 R hw (.refl _) fun l1 _ r1 R1 q1=>asB0_on (R:=fun v=>Rel S _ v _) q1 r1 fun b q r=>by
   cases (show _=Value.bool b from r)
   exact lf (wpAny_truthy_bool (.mk l1 R1.at_ q))) (plainT_eq h1.1 _ _)
 okE S cx x h:=by
  intro F d loc mp hp w s Q X R hw
  exact e.on h R hw (.refl _) fun l1 _ r1 R1 q1=>asB0_on (R:=fun v=>Rel S _ v _) q1 r1 fun b q r => .mk l1 r R1.at_ q
noncomputable def notT (t:Tx):Tx where
 chk cx e:=onUn e fun op x p=>decide (op = .Not)&&t.chk cx x
 chkE cx e:=onUn e fun op x p=>decide (op = .Not)&&t.chkE cx x
 W d C loc hp Q X:=t.W d C loc hp (fun b=>Q !b) X
 ok S cx e h:=onUn_elim h fun op x p h=>by
  intro F d loc mp hp w s Q X R hw
  have h1:=Bool.and_eq_true_iff.mp h
  cases of_decide_eq_true h1.1
  exact isTrue_not (t.on h1.2 R hw (.refl _) fun l1 _ R1 q1 => .mk l1 R1.at_ q1)
 okE S cx e h:=onUn_elim h fun op x p h=>by
  intro F d loc mp hp w s Q X R hw
  have h1:=Bool.and_eq_true_iff.mp h
  cases of_decide_eq_true h1.1
  refine UnaryOp_ (EvOk.on (t.okE S cx x h1.2) R (Q:=fun v hp=>asB0 v fun b=>Q (.d (.bool !b)) hp) hw (.refl _) fun l1 _ r1 R1 q1=>asB0_on (R:=fun v=>Rel S _ v _) q1 r1 fun b q r=>?_)
  cases (show _=Value.bool b from r)
  exact not_of (lf (wpAny_truthy_bool (PBo l1 R1.at_ q)))
abbrev TsW:=Nat->CallP->Loc->Hp->(Bool->Hp->Prop)->(Bs->Prop)->Prop
noncomputable def Wj (z:Bool) (ts:List Tx):TsW:=ts.rec (fun d C loc hp Q X=>Q (!z) hp) fun t r ih d C loc hp Q X=>t.W d C loc hp (fun b hp=>cond (b==z) (Q z hp) (ih d C loc hp Q X)) X
noncomputable def chkJ (f:Tx->Cx->PySem.Expr->Bool) (cx:Cx) (ts:List Tx):List PySem.Expr->Bool:=ts.rec (fun xs=>xs.isEmpty) fun t r ih xs=>xs.casesOn false fun x l=>f t cx x&&ih l
theorem chkJ_on {f:Tx->Cx->PySem.Expr->Bool} {cx:Cx} {e:Tx} {r:List Tx} {xs:List PySem.Expr} (h:chkJ f cx (e::r) xs=true):∃ x t,xs=x::t/\f e cx x=true/\chkJ f cx r t=true:=by
 cases xs with
 | nil=>exact no h
 | cons x t=>exact ⟨x,t,rfl,Bool.and_eq_true_iff.mp h⟩
section
variable {S:Sx} {cx:Cx} {F:Fx S} {d:Nat} {loc:Loc} {mp:Mp} {w0:Wd} {X:Bs->Prop} {pos:Pos} {whole:Sem Value}
theorem and_ok {P:Bool->Shared->Prop} (ts:List Tx):∀ {xs:List PySem.Expr} {hp:Hp} {w:Wd} {s:Shared} {Q:Bool->Hp->Prop},chkJ Tx.chk cx ts xs=true->Rd cx F d loc mp hp w s->Wj false ts d (CallOk S) loc hp Q X->w0.le w->(∀ {w' b hp' s'},w0.le w'->At F mp hp' w' s'->Q b hp'->P b s') ->
  wpAny (model S.prog S.w) F.A (PySem.isTrue (.BoolOp .And xs pos) F.env whole) P (PostX F w0 X) s:=by
 induction ts with
 | nil=>intro xs hp w s Q h R hw l k;cases List.isEmpty_iff.mp h;exact lf (isTrue_and_nil (k l R.at_ hw))
 | cons t r ih =>
  intro xs hp w s Q h R hw l k
  obtain ⟨x,y,rfl,h1,h2⟩:=chkJ_on h
  refine isTrue_and (t.on h1 R hw l fun {w1 b hp1 s1} l1 _ R1 q1=>?_)
  cases b
  ·exact k l1 R1.at_ q1
  ·exact ih h2 R1 q1 l1 k
theorem or_ok {P:Bool->Shared->Prop} (ts:List Tx):∀ {xs:List PySem.Expr} {hp:Hp} {w:Wd} {s:Shared} {Q:Bool->Hp->Prop},chkJ Tx.chk cx ts xs=true->Rd cx F d loc mp hp w s->Wj true ts d (CallOk S) loc hp Q X->w0.le w->(∀ {w' b hp' s'},w0.le w'->At F mp hp' w' s'->Q b hp'->P b s') ->
  wpAny (model S.prog S.w) F.A (PySem.isTrue (.BoolOp .Or xs pos) F.env whole) P (PostX F w0 X) s:=by
 induction ts with
 | nil=>intro xs hp w s Q h R hw l k;cases List.isEmpty_iff.mp h;exact lf (isTrue_or_nil (k l R.at_ hw))
 | cons t r ih =>
  intro xs hp w s Q h R hw l k
  obtain ⟨x,y,rfl,h1,h2⟩:=chkJ_on h
  refine isTrue_or (t.on h1 R hw l fun {w1 b hp1 s1} l1 _ R1 q1=>?_)
  cases b
  ·exact ih h2 R1 q1 l1 k
  ·exact k l1 R1.at_ q1
theorem orE_ok {P:Value->Shared->Prop} (t:Tx) (ts:List Tx):∀ {t:Tx} {xs:List PySem.Expr} {hp:Hp} {w:Wd} {s:Shared} {Q:Bool->Hp->Prop},chkJ Tx.chkE cx (t::ts) xs=true->Rd cx F d loc mp hp w s->Wj true (t::ts) d (CallOk S) loc hp Q X->w0.le w->(∀ {w' b hp' s'},w0.le w'->At F mp hp' w' s'->Q b hp'->P (.bool b) s') ->
  wpAny (model S.prog S.w) F.A (eval (.BoolOp .Or xs pos) F.env) P (PostX F w0 X) s:=by
 induction ts with
 | nil =>
  intro t xs hp w s Q h R hw l k
  obtain ⟨x,y,rfl,h1,h2⟩:=chkJ_on h
  cases List.isEmpty_iff.mp h2
  refine BoolOp_one (EvOk.on (t.okE S cx x h1) R (Q:=fun v hp=>asB0 v fun b=>cond (b==true) (Q true hp) (Q false hp)) hw l fun l1 _ r1 R1 q1=>asB0_on (R:=fun v=>Rel S _ v _) q1 r1 fun b q r=>?_)
  cases (show _=Value.bool b from r)
  cases b
  ·exact k l1 R1.at_ q
  ·exact k l1 R1.at_ q
 | cons t2 r ih =>
  intro t xs hp w s Q h R hw l k
  obtain ⟨x,y,rfl,h1,h2⟩:=chkJ_on h
  obtain ⟨x2,y2,rfl,_⟩:=chkJ_on h2
  refine BoolOp_or (EvOk.on (t.okE S cx x h1) R (Q:=fun v hp=>asB0 v fun b=>cond (b==true) (Q true hp) (Wj true (t2::r) d (CallOk S) loc hp Q X)) hw l fun {w1 v cv hp1 s1} l1 _ r1 R1 q1=>asB0_on (R:=fun v=>Rel S _ v _) q1 r1 fun b q r=>?_)
  cases (show _=Value.bool b from r)
  refine lf (wpAny_truthy_bool ?_)
  cases b
  ·exact ih h2 R1 q l1 k
  ·exact k l1 R1.at_ q
theorem andE_ok {P:Value->Shared->Prop} (t:Tx) (ts:List Tx):∀ {t:Tx} {xs:List PySem.Expr} {hp:Hp} {w:Wd} {s:Shared} {Q:Bool->Hp->Prop},chkJ Tx.chkE cx (t::ts) xs=true->Rd cx F d loc mp hp w s->Wj false (t::ts) d (CallOk S) loc hp Q X->w0.le w->(∀ {w' b hp' s'},w0.le w'->At F mp hp' w' s'->Q b hp'->P (.bool b) s') ->
  wpAny (model S.prog S.w) F.A (eval (.BoolOp .And xs pos) F.env) P (PostX F w0 X) s:=by
 induction ts with
 | nil =>
  intro t xs hp w s Q h R hw l k
  obtain ⟨x,y,rfl,h1,h2⟩:=chkJ_on h
  cases List.isEmpty_iff.mp h2
  refine BoolOp_one (EvOk.on (t.okE S cx x h1) R (Q:=fun v hp=>asB0 v fun b=>cond (b==false) (Q false hp) (Q true hp)) hw l fun l1 _ r1 R1 q1=>asB0_on (R:=fun v=>Rel S _ v _) q1 r1 fun b q r=>?_)
  cases (show _=Value.bool b from r)
  cases b
  ·exact k l1 R1.at_ q
  ·exact k l1 R1.at_ q
 | cons t2 r ih =>
  intro t xs hp w s Q h R hw l k
  obtain ⟨x,y,rfl,h1,h2⟩:=chkJ_on h
  obtain ⟨x2,y2,rfl,_⟩:=chkJ_on h2
  refine BoolOp_and (EvOk.on (t.okE S cx x h1) R (Q:=fun v hp=>asB0 v fun b=>cond (b==false) (Q false hp) (Wj false (t2::r) d (CallOk S) loc hp Q X)) hw l fun {w1 v cv hp1 s1} l1 _ r1 R1 q1=>asB0_on (R:=fun v=>Rel S _ v _) q1 r1 fun b q r=>?_)
  cases (show _=Value.bool b from r)
  refine lf (wpAny_truthy_bool ?_)
  cases b
  ·exact k l1 R1.at_ q
  ·exact ih h2 R1 q l1 k
end
noncomputable def andT (t:Tx) (ts:List Tx):Tx where
 chk cx e:=onBool e fun op xs p=>decide (op = .And)&&chkJ Tx.chk cx (t::ts) xs
 chkE cx e:=onBool e fun op xs p=>decide (op = .And)&&chkJ Tx.chkE cx (t::ts) xs
 W d C loc hp Q X:=Wj false (t::ts) d C loc hp Q X
 ok S cx e h:=onBool_elim h fun op xs p h=>by
  intro F d loc mp hp w s Q X R hw
  have h1:=Bool.and_eq_true_iff.mp h
  cases of_decide_eq_true h1.1
  exact and_ok (t::ts) h1.2 R hw (.refl _) fun l a q => .mk l a q
 okE S cx e h:=onBool_elim h fun op xs p h=>by
  intro F d loc mp hp w s Q X R hw
  have h1:=Bool.and_eq_true_iff.mp h
  cases of_decide_eq_true h1.1
  exact andE_ok t ts h1.2 R hw (.refl _) fun l a q=>PBo l a q
noncomputable def orT (t:Tx) (ts:List Tx):Tx where
 chk cx e:=onBool e fun op xs p=>decide (op = .Or)&&chkJ Tx.chk cx (t::ts) xs
 chkE cx e:=onBool e fun op xs p=>decide (op = .Or)&&chkJ Tx.chkE cx (t::ts) xs
 W d C loc hp Q X:=Wj true (t::ts) d C loc hp Q X
 ok S cx e h:=onBool_elim h fun op xs p h=>by
  intro F d loc mp hp w s Q X R hw
  have h1:=Bool.and_eq_true_iff.mp h
  cases of_decide_eq_true h1.1
  exact or_ok (t::ts) h1.2 R hw (.refl _) fun l a q => .mk l a q
 okE S cx e h:=onBool_elim h fun op xs p h=>by
  intro F d loc mp hp w s Q X R hw
  have h1:=Bool.and_eq_true_iff.mp h
  cases of_decide_eq_true h1.1
  exact orE_ok t ts h1.2 R hw (.refl _) fun l a q=>PBo l a q
end Mine.C
namespace Mine.C
noncomputable def one (x:PySem.Expr):Bool:=onUn x fun op y p=>decide (op = .USub)&&onConst y fun c k p=>decide (c = .int 1)
noncomputable def revX (a:Ex):Ex where
 chk cx e:=onSub e fun v i p=>a.chk cx v&&onSlice i fun x y z p=>x.isNone&&y.isNone&&(z.casesOn false fun z=>one z)
 W d C loc hp Q X:=a.W d C loc hp (fun v hp=>asRef v fun i=>atL hp i fun xs=>xs.length<=16777216/\Q (.ref hp.length) (hp++[.list xs.reverse])) X
 ok S cx e h:=onSub_elim h fun v i p h=>onSlice_elim (P:=fun i=>EvOk S cx (.Subscript v i p) fun d C loc hp Q X=>a.W d C loc hp (fun v hp=>asRef v fun i=>atL hp i fun xs=>xs.length<=16777216/\Q (.ref hp.length) (hp++[.list xs.reverse])) X) (Bool.and_eq_true_iff.mp h).2 fun x y z q h'=>by
  intro F d loc mp hp w s Q X R hw
  have h1:=Bool.and_eq_true_iff.mp h'
  have h2:=Bool.and_eq_true_iff.mp h1.1
  cases Option.isNone_iff_eq_none.mp h2.1
  cases Option.isNone_iff_eq_none.mp h2.2
  cases z with
  | none=>exact no h1.2
  | some z =>
  refine onUn_elim (P:=fun z=>wpAny (model S.prog S.w) F.A (eval (.Subscript v (.Slice none none (some z) q) p) F.env) (PostE F mp w Q) (PostX F w X) s) h1.2 fun op y p2 h3=>?_
  have k1:=Bool.and_eq_true_iff.mp h3
  refine onConst_elim (P:=fun y=>wpAny (model S.prog S.w) F.A (eval (.Subscript v (.Slice none none (some (.UnaryOp op y p2)) q) p) F.env) (PostE F mp w Q) (PostX F w X) s) k1.2 fun c k p1 h4=>?_
  cases of_decide_eq_true k1.1
  cases of_decide_eq_true h4
  refine Subscript_ (a.on (Bool.and_eq_true_iff.mp h).1 R hw (.refl _) fun {w1 v1 cv hp1 s1} l1 _ r1 R1 q1=>?_)
  refine wpAny_Slice (lf (wpAny_evalPart_none (lf (wpAny_evalPart_none (wpAny_evalPart_some (UnaryOp_ (lf (wpAny_Constant_int (lf (neg_int ?_))))))))))
  refine asRef_on (R:=fun v=>Rel S w1 v cv) q1 r1 fun j q1 r1=>atL_on q1 fun xs e q1=>?_
  cases At.ref R1.at_ e r1 with | mk g1 g2 g3 =>
  cases (show IsList .. from g3) with | @mk cvs n g4 =>
  generalize s1.toks+1=tk1
  generalize tk1+1=tk2
  have hl':=(show s1.heap.IsList _ cvs.toArray from ⟨_,g2,rfl,n,rfl⟩).push (o:={ cls := .type "slice", data := .fields #[.none,.none,.int (-1) tk1] })
  refine lf (tail_any hl'.typeIs slot_list_getitem.lookup (wpAny_getItem_list_slice hl' (Heap.IsSliceOf.new _ _ _ _) .none .none (.int _ _) (by decide) ?_ (show cvs.length<=_ from g4.length▸fitLine q1.1)) rfl)
  rw [krv_pick]
  obtain ⟨news,iv⟩:=(R1.at_.hid (o:={ cls := .type "slice", data := .fields #[.none,.none,.int (-1) tk1] }) rfl rfl).drop.inv
  exact PRef l1 R1.at_.len (iv.alloc (s':={ s1 with heap:=(s1.heap.push { cls := .type "slice", data := .fields #[.none,.none,.int (-1) tk1] }).push (listOf cvs.reverse.toArray 0),toks:=tk2 }) (x := .list xs.reverse) R1.at_.len (iv.fr.push _) (iv.nw.push iv.fr _ rfl) iv.size (show IsList .. from IsList.mk (n:=0) g4.rev) rfl rfl) q1.2
noncomputable def isD (x:D):PySem.Expr->Bool :=
 D.rec (motive_1:=fun a=>PySem.Expr->Bool) (motive_2:=fun a=>List PySem.Expr->Bool) (fun e=>false) (fun b e=>false)
  (fun i e=>onConst e (fun c k p=>decide (c = .int i))||onUn e fun op y p=>decide (op = .USub)&&onConst y fun c k p=>decide (c = .int (-i)))
  (fun k e=>onConst e fun c n p=>decide (c = .str (nm k))) (fun b e=>onConst e fun c n p=>decide (c = .bytes b)) (fun a ih e=>onTup e fun xs k p=>Nat.ble xs.length 1000&&ih xs) (fun a b ih e=>false) (fun a ih e=>false) (fun a e=>false)
  (fun xs=>xs.isEmpty) (fun a b i j xs=>xs.casesOn false fun x r => !isStar x&&i x&&j r) x
section
variable {S:Sx} {F:Fx S} {mp:Mp} {hp:Hp} {E:Value->Shared->Prop}
def PostD (F:Fx S) (mp:Mp) (hp:Hp) (w:Wd) (x:D) (cv:Value) (s:Shared):Prop:=∃ w',w.le w'/\RelD S w'.fz x cv/\At F mp hp w' s/\w'.m=w.m
theorem isD_ok {x:D}:∀ {e:PySem.Expr} {w:Wd} {s:Shared},isD x e=true->At F mp hp w s->PySem.wpAny (model S.prog S.w) F.A (eval e F.env) (PostD F mp hp w x) E s:=by
 refine D.rec (motive_1:=fun x=>∀ {e:PySem.Expr} {w:Wd} {s:Shared},isD x e=true->At F mp hp w s->PySem.wpAny (model S.prog S.w) F.A (eval e F.env) (PostD F mp hp w x) E s)
  (motive_2:=fun xs=>∀ {es:List PySem.Expr} {pos:Pos} {w:Wd} {s:Shared},D.rec_1 (motive_1:=fun a=>PySem.Expr->Bool) (motive_2:=fun a=>List PySem.Expr->Bool) (fun e=>false) (fun b e=>false)
  (fun i e=>onConst e (fun c k p=>decide (c = .int i))||onUn e fun op y p=>decide (op = .USub)&&onConst y fun c k p=>decide (c = .int (-i)))
  (fun k e=>onConst e fun c n p=>decide (c = .str (nm k))) (fun b e=>onConst e fun c n p=>decide (c = .bytes b)) (fun a ih e=>onTup e fun xs k p=>Nat.ble xs.length 1000&&ih xs) (fun a b ih e=>false) (fun a ih e=>false) (fun a e=>false)
  (fun xs=>xs.isEmpty) (fun a b i j xs=>xs.casesOn false fun x r => !isStar x&&i x&&j r) xs es=true->At F mp hp w s ->
   PySem.wpAny (model S.prog S.w) F.A (spliced (backTo pos (starEach es F.env))) (fun cvs s'=>cvs.length=es.length/\∃ w',w.le w'/\All2 (RelD S w'.fz) xs cvs/\At F mp hp w' s'/\w'.m=w.m) E s) ?_ ?_ ?_ ?_ ?_ ?_ ?_ ?_ ?_ ?_ ?_ x
 ·exact fun {e w s} h=>no h
 ·exact fun b {e w s} h=>no h
 ·intro i e w s h ha
  rcases Bool.or_eq_true_iff.mp h with h | h
  ·refine onConst_elim h fun c k p h=>?_
   cases of_decide_eq_true h
   exact wpAny_Constant_int ⟨w,.refl _,⟨_,rfl⟩,ha.toks _,rfl⟩
  ·refine onUn_elim h fun op y p h3=>?_
   have h1:=Bool.and_eq_true_iff.mp h3
   refine onConst_elim (P:=fun y=>PySem.wpAny (model S.prog S.w) F.A (eval (.UnaryOp op y p) F.env) (PostD F mp hp w (.int i)) E s) h1.2 fun c k q h4=>?_
   cases of_decide_eq_true h1.1
   cases of_decide_eq_true h4
   exact wpAny_UnaryOp (wpAny_Constant_int (neg_int ⟨w,.refl _,⟨_,by rw [Int.neg_neg]⟩,(ha.toks _).toks _,rfl⟩))
 ·intro k e w s h ha
  refine onConst_elim h fun c n p h=>?_
  cases of_decide_eq_true h
  exact Constant_str ⟨w,.refl _,⟨_,rfl⟩,ha.toks _,rfl⟩
 ·intro b e w s h ha
  refine onConst_elim h fun c n p h=>?_
  cases of_decide_eq_true h
  exact Constant_bytes ⟨w,.refl _,⟨_,rfl⟩,ha.toks _,rfl⟩
 ·intro xs ih e w s h ha
  refine onTup_elim h fun es k p h=>?_
  have h1:=Bool.and_eq_true_iff.mp h
  refine PyProof.Rows.Tuple_ (PySem.wpAny_mono (ih h1.2 ha) (fun cvs s1 q=>?_) fun a b x=>x)
  obtain ⟨hl,w1,l1,r1,a1,m1⟩:=q
  obtain ⟨news,i⟩:=a1.inv
  refine newTuple_N i.fr i.nw (fun h' F' N'=>?_) (by rw [hl];exact Nat.le_trans (Nat.le_of_ble_eq_true h1.1) (by decide))
  obtain ⟨a',l'⟩:=i.icy (s':={ s1 with heap:=h' }) a1.len F' N' i.size rfl rfl
  exact ⟨_,l1.trans l',IsTup.mk (Fz.set_at _ _ _) (RelDs.eq.mpr (r1.imp fun a b=>RelD.mono l'.fz)),a',m1⟩
 ·exact fun a b ih {e w s} h=>no h
 ·exact fun a ih {e w s} h=>no h
 ·exact fun a {e w s} h=>no h
 ·intro es pos w s h ha
  cases List.isEmpty_iff.mp h
  exact spliced_none ⟨rfl,w,.refl _,rfl,ha,rfl⟩
 ·intro x xs i j es pos w s h ha
  cases es with
  | nil=>exact no h
  | cons e r =>
   have h1:=Bool.and_eq_true_iff.mp h
   have h2:=Bool.and_eq_true_iff.mp h1.1
   refine PyProof.Rows.spliced_more (PySem.wpAny_mono (i h2.2 ha) (fun cv s1 q=>?_) fun a b x=>x) (starEach_cons (Bool.not_eq_true' _ |>.mp h2.1))
   obtain ⟨w1,l1,r1,a1,m1⟩:=q
   refine PySem.wpAny_mono (j h1.2 a1) (fun cvs s2 q=>?_) fun a b x=>x
   obtain ⟨hl,w2,l2,r2,a2,m2⟩:=q
   exact ⟨congrArg Nat.succ hl,w2,l1.trans l2,IsCons.mk (RelD.mono l2.fz r1) r2,a2,m2.trans m1⟩
end
end Mine.C
namespace Mine.C
noncomputable def chkP {α β:Type} (kc:α->Const) (vc:β->PySem.Expr->Bool) (fs:List (α×β)):List (Option PySem.Expr)->List PySem.Expr->Bool :=
 fs.rec (fun ks vs=>ks.isEmpty&&vs.isEmpty) fun f r ih ks vs=>ks.casesOn false fun k ks=>vs.casesOn false fun v vs=>(k.casesOn false fun k=>onConst k fun c n p=>decide (c=kc f.1))&&vc f.2 v&&ih ks vs
theorem chkP_on {α β:Type} {kc:α->Const} {vc:β->PySem.Expr->Bool} {f:α×β} {r:List (α×β)} {ks:List (Option PySem.Expr)} {vs:List PySem.Expr} (h:chkP kc vc (f::r) ks vs=true):∃ n p t v u,ks=some (.Constant (kc f.1) n p)::t/\vs=v::u/\vc f.2 v=true/\chkP kc vc r t u=true:=by
 cases ks with
 | nil=>exact no h
 | cons k t=>cases vs with
  | nil=>exact no h
  | cons v u =>
   have h1:=Bool.and_eq_true_iff.mp h
   have h2:=Bool.and_eq_true_iff.mp h1.1
   cases k with
   | none=>exact no h2.1
   | some k=>exact onConst_elim (P:=fun k=>∃ n p t' v' u',some k::t=some (.Constant (kc f.1) n p)::t'/\v::u=v'::u'/\vc f.2 v'=true/\chkP kc vc r t' u'=true) h2.1 fun c n p e=>⟨n,p,t,v,u,by rw [of_decide_eq_true e],rfl,h2.2,h1.2⟩
section
variable {S:Sx} {F:Fx S} {mp:Mp} {hp:Hp} {E:Value->Shared->Prop} {α β K:Type} [DecidableEq K] {knd:KeyKind S.prog S.w K} {g:α->K} {kc:α->Const} {vc:β->PySem.Expr->Bool} {R:Wd->β->Value->Prop} {C:β->Prop} {wb:Wd}
theorem chkP_len {fs:List (α×β)}:∀ {ks:List (Option PySem.Expr)} {vs:List PySem.Expr},chkP kc vc fs ks vs=true->ks.all (·.isSome)=true/\ks.length=vs.length/\ks.length=fs.length:=by
 induction fs with
 | nil=>intro ks vs h;have h1:=Bool.and_eq_true_iff.mp h;cases List.isEmpty_iff.mp h1.1;cases List.isEmpty_iff.mp h1.2;exact ⟨rfl,rfl,rfl⟩
 | cons f r ih=>intro ks vs h;obtain ⟨n,p,t,v,u,rfl,rfl,_,h3⟩:=chkP_on h;have:=ih h3;exact ⟨this.1,congrArg _ this.2.1,congrArg _ this.2.2⟩
theorem pairs_ok {pos:Pos} (hk:∀ (a:α) (n:Nat) (p:Pos) (s:Shared) (Q:Value->Shared->Prop),(∀ kv tk,knd.is (g a) kv=true->Q kv { s with toks:=tk })->PySem.wpAny (model S.prog S.w) F.A (eval (.Constant (kc a) n p) F.env) Q E s) (hm:∀ (w w':Wd) (b:β) (c:Value),w.le w'->R w b c->R w' b c)
  (hv:∀ (b:β) (e:PySem.Expr) (w:Wd) (s:Shared),C b->wb.le w->vc b e=true->At F mp hp w s->PySem.wpAny (model S.prog S.w) F.A (eval e F.env) (fun cv s'=>∃ w',w.le w'/\R w' b cv/\At F mp hp w' s'/\w'.m=w.m) E s) (fs:List (α×β)) :
  ∀ {ks:List (Option PySem.Expr)} {vs:List PySem.Expr} {w:Wd} {s:Shared},(∀ f∈fs,C f.2)->wb.le w->chkP kc vc fs ks vs=true->At F mp hp w s->PySem.wpAny (model S.prog S.w) F.A (evalPairs (pairTrees ks vs F.env pos)) (fun ps s'=>∃ w' kvs,w.le w'/\All2 (PairR g (R w')) fs kvs/\Carries knd ps kvs/\At F mp hp w' s'/\w'.m=w.m) E s:=by
 induction fs with
 | nil=>intro ks vs w s hC lb h ha;have h1:=Bool.and_eq_true_iff.mp h;cases List.isEmpty_iff.mp h1.1;cases List.isEmpty_iff.mp h1.2;exact pairTrees_nil_walk ⟨w,[],.refl _,rfl,trivial,ha,rfl⟩
 | cons f r ih =>
  intro ks vs w s hC lb h ha
  obtain ⟨n,p,t,v,u,rfl,rfl,h2,h3⟩:=chkP_on h
  refine pairTrees_cons_walk (hk f.1 n p s _ fun kv tk e=>PySem.wpAny_mono (hv f.2 v w _ (hC f (.head _)) lb h2 (ha.toks tk)) (fun cv s1 q=>?_) fun a b x=>x)
  obtain ⟨w1,l1,r1,a1,m1⟩:=q
  refine PySem.wpAny_mono (ih (fun f m=>hC f (.tail _ m)) (lb.trans l1) h3 a1) (fun ps s2 q=>?_) fun a b x=>x
  obtain ⟨w2,kvs,l2,r2,c2,a2,m2⟩:=q
  exact ⟨w2,(g f.1,cv)::kvs,l1.trans l2,IsCons.mk ⟨rfl,hm _ _ _ _ l2 r1⟩ r2,⟨e,rfl,c2⟩,a2,m2.trans m1⟩
theorem keys_of {fs:List (α×β)} {R:β->Value->Prop}:∀ {kvs:List (K×Value)},All2 (PairR g R) fs kvs->kvs.map (·.1)=fs.map fun f=>g f.1:=by
 induction fs with
 | nil=>intro kvs r;cases (show kvs=[] from r);rfl
 | cons f r ih=>intro kvs h;cases (show IsCons .. from h) with | mk a b=>exact (List.map_cons ..).trans (by rw [ih b,a.1];rfl)
theorem dict_ok {fs:List (α×β)} {ks:List (Option PySem.Expr)} {vs:List PySem.Expr} {pos:Pos} {w w0:Wd} {s:Shared} {Q:V->Hp->Prop} {x:O} (hC:∀ f∈fs,C f.2) (h:chkP kc vc fs ks vs=true) (hn:(fs.map fun f=>g f.1).Nodup) (h0:fs≠[]) (hz:fs.length<=15)
  (hk:∀ (a:α) (n:Nat) (p:Pos) (s:Shared) (Q:Value->Shared->Prop),(∀ kv tk,knd.is (g a) kv=true->Q kv { s with toks:=tk })->PySem.wpAny (model S.prog S.w) F.A (eval (.Constant (kc a) n p) F.env) Q E s) (hm:∀ (w w':Wd) (b:β) (c:Value),w.le w'->R w b c->R w' b c)
  (hv:∀ (F':Fx S) (b:β) (e:PySem.Expr) (w':Wd) (s:Shared),F'.A=F.A->F'.env=F.env->F'.L=F.L->C b->w.le w'->vc b e=true->At F' mp hp w' s->PySem.wpAny (model S.prog S.w) F.A (eval e F.env) (fun cv s'=>∃ w2,w'.le w2/\R w2 b cv/\At F' mp hp w2 s'/\w2.m=w'.m) E s)
  (hx:∀ w kvs o,o.IsDictOf knd kvs->All2 (PairR g (R w)) fs kvs->ORel S w x o) (ha:At F mp hp w s) (hw:Q (.ref hp.length) (hp++[x])) (l:w0.le w) (lx:live x=true:=by rfl):PySem.wpAny (model S.prog S.w) F.A (eval (.Dict ks vs pos) F.env) (PostE F mp w0 Q) E s:=by
 have c:=chkP_len h
 obtain ⟨news,i⟩:=ha.inv
 refine Dict_made (knd:=knd) i.fr c.1 c.2.1 (fun e=>h0 (List.eq_nil_of_length_eq_zero (c.2.2.symm.trans (by rw [e];rfl)))) (c.2.2▸hz) fun _=>?_
 have a0:=ha.hid (o:={ cls := .type "dict", data := .dict #[] }) rfl rfl
 refine PySem.wpAny_mono (pairs_ok (F:=F.plus _) (pos:=pos) hk hm (fun b e w s=>hv (F.plus _) b e w s rfl rfl rfl) fs hC (.refl _) h a0) (fun ps s1 q=>?_) fun a b x=>x
 obtain ⟨w1,kvs,l1,r1,c1,a1,m1⟩:=q
 have hh:=a1.held (.head _)
 have hd0:s1.heap.DictOf knd s.heap.objs.size []:=by
  obtain ⟨o,ho,hd⟩:=Heap.dictOf_iff.mp (Heap.DictOf.new (knd:=knd) s.heap)
  rw [Heap.get?_push_size _ rfl] at ho
  cases ho
  exact Heap.dictOf_iff.mpr ⟨_,hh,hd⟩
 refine ⟨kvs,c1,hd0,fun h' hD hS=>?_⟩
 have hmg:merged [] kvs=kvs:=(merged_append_of_fresh [] kvs (show ((([] : List (K×Value))++kvs).map (·.1)).Nodup by rw [List.nil_append,keys_of r1];exact hn)).trans (List.nil_append _)
 rw [hmg] at hD
 obtain ⟨o',ho',hd'⟩:=Heap.dictOf_iff.mp hD
 have a2:=(a1.turn (P':=Is o') (tk:=s1.toks+ps.length) hS.extBut ho' rfl).adopt (x:=x) (fun o e=>(show o=o' from e)▸hx w1 kvs o' hd' r1) lx
 exact PRef (l.trans l1) a1.len a2 hw
end
noncomputable def idctX (fs:List (Int×D)):Ex where
 chk cx e:=onDict e fun ks vs p=>decide (fs.map (·.1)).Nodup&&Nat.ble fs.length 15&&chkP Const.int isD fs ks vs
 W d C loc hp Q X:=Q (.ref hp.length) (hp++[.idict fs])
 ok S cx e h:=onDict_elim h fun ks vs p h=>by
  intro F d loc mp hp w s Q X R hw
  have h1:=Bool.and_eq_true_iff.mp h
  have h2:=Bool.and_eq_true_iff.mp h1.1
  refine lf ?_
  by_cases h0:fs=[]
  ·subst h0
   have h3:=Bool.and_eq_true_iff.mp h1.2
   cases List.isEmpty_iff.mp h3.1
   cases List.isEmpty_iff.mp h3.2
   refine wpAny_Dict_empty ?_
   have a0:=(R.at_.hid (o:={ cls := .type "dict", data := .dict #[] }) rfl rfl).adopt (F:=F) (l:=[]) (x := .idict []) fun o e=>by
    cases (show o=_ from e)
    obtain ⟨o,ho,hd⟩:=Heap.dictOf_iff.mp (Heap.DictOf.new (knd:=intKind S.prog S.w) s.heap)
    rw [Heap.get?_push_size _ rfl] at ho
    cases ho
    exact IsDi.mk hd rfl
   exact PRef (.refl _) R.at_.len a0 hw
  ·exact dict_ok (x := .idict fs) (C:=fun a=>True) (knd:=intKind S.prog S.w) (g:=id) (R:=fun w=>RelD S w.fz) (fun f m=>trivial) h1.2 (of_decide_eq_true h2.1) h0 (Nat.le_of_ble_eq_true h2.2) (fun a n p s Q k=>wpAny_Constant_int (k _ _ (intKind_is _ _ _ _))) (fun w w' b c l r=>r.mono l.fz)
    (fun F' b e w' s e1 e2 e3 z z' h ha=>e1▸e2▸isD_ok (E:=PostX F w X) h ha) (fun w kvs o hd r=>IsDi.mk hd r) R.at_ hw (.refl _)
noncomputable def locs (loc:Loc) (fs:List (Nat×Nat)):(List (Nat×V)->Prop)->Prop:=fs.rec (fun k=>k []) fun f r ih k=>optL loc f.2 fun v=>ih fun vs=>k ((f.1,v)::vs)
theorem locs_on {loc:Loc} {fs:List (Nat×Nat)}:∀ {k:List (Nat×V)->Prop},locs loc fs k->∃ vs:List (Nat×Nat×V),k (vs.map fun q=>(q.1,q.2.2))/\(vs.map fun q=>(q.1,q.2.1))=fs/\∀ f∈vs,loc[f.2.1]?=some (some f.2.2):=by
 induction fs with
 | nil=>exact fun h=>⟨[],h,rfl,fun f m=>nomatch m⟩
 | cons f r ih =>
  intro k h
  obtain ⟨v,e,h⟩:=optL_on h
  obtain ⟨vs,h1,h2,h3⟩:=ih h
  exact ⟨(f.1,f.2,v)::vs,h1,congrArg _ h2,fun g m=>(List.mem_cons.mp m).elim (fun q=>q▸e) (h3 g)⟩
theorem chkP_map {α β γ:Type} {kc:α->Const} {vc:β->PySem.Expr->Bool} {g:γ->β} {fs:List (α×γ)}:∀ {ks:List (Option PySem.Expr)} {vs:List PySem.Expr},chkP kc vc (fs.map fun q=>(q.1,g q.2)) ks vs=chkP kc (fun c=>vc (g c)) fs ks vs:=by
 induction fs with
 | nil=>exact rfl
 | cons f r ih=>intro ks vs;cases ks with
  | nil=>rfl
  | cons=>cases vs with
   | nil=>rfl
   | cons a b=>exact congrArg (fun z=>_&&z) (ih (ks:=_) (vs:=b))
theorem All2.map {α β γ:Type} {R:β->γ->Prop} {g:α->β} {l:List α}:∀ {r:List γ},All2 (fun a=>R (g a)) l r->All2 R (l.map g) r:=by
 induction l with
 | nil=>exact fun h=>h
 | cons a l ih=>exact fun h=>IsCons.imp (fun _ x=>x) (fun _=>ih) h
noncomputable def sdctX (fs:List (Nat×Nat)):Ex where
 chk cx e:=onDict e fun ks vs p=>decide (fs.map fun f=>nm f.1).Nodup&&Nat.ble fs.length 15 && !fs.isEmpty&&chkP (fun k => .str (nm k)) (fun i e=>onName e fun x p=>nmChk cx i .local x) fs ks vs
 W d C loc hp Q X:=locs loc fs fun vs=>Q (.ref hp.length) (hp++[.sdict vs])
 ok S cx e h:=onDict_elim h fun ks vs p h=>by
  intro F d loc mp hp w s Q X R hw
  have h1:=Bool.and_eq_true_iff.mp h
  have h2:=Bool.and_eq_true_iff.mp h1.1
  have h3:=Bool.and_eq_true_iff.mp h2.1
  obtain ⟨us,hq,rfl,hu⟩:=locs_on hw
  refine lf (dict_ok (x := .sdict (us.map fun q=>(q.1,q.2.2))) (C:=fun q:Nat×V=>loc[q.1]?=some (some q.2)) (knd:=strKind S.prog S.w) (g:=nm) (R:=fun w q=>Rel S w q.2) hu ((chkP_map (g:=Prod.fst)).symm.trans h1.2) ?_ (fun e=>?_) ?_ (fun a n p s Q k=>Constant_str (k _ _ (strKind_is _ _ _ _))) (fun w w' b c l (r:Rel S w b.2 c)=>r.mono l)
    (fun F' b e w' s e1 e2 e3 hc lw h ha=>?_) (fun w kvs o hd r=>IsDi.mk hd (All2.map (g:=fun q:Nat×Nat×V=>(q.1,q.2.2)) r)) R.at_ hq (.refl _))
  ·have:=of_decide_eq_true h3.1;rwa [List.map_map] at this
  ·rw [e] at h2;exact no h2.2
  ·have:=Nat.le_of_ble_eq_true h3.2;rwa [List.length_map] at this
  ·refine onName_elim h fun x p h=>?_
   obtain ⟨k1,k2,k3⟩:=nmChk_on h
   obtain ⟨y,hy,r⟩:=R.lr _ _ hc
   rw [R.names,k2] at hy
   cases hy
   have hk:=R.kind k3
   rcases r with ⟨_,cv,hm,r⟩ | ⟨q,_⟩
   ·obtain ⟨news,j⟩:=ha.inv
    refine wpAny_Name (wpAny_loadName_local F.kind hk (m:=mp) ?_ hm ⟨w',.refl _,r.mono lw,ha,rfl⟩) k1
    rw [F.loc,<- e3];exact j.fr.ns
   ·rw [hk] at q;exact (q.elim (fun e=>nomatch e) fun e=>nomatch e)
end Mine.C
namespace Mine.C
structure Nx {S:Sx} (w0:Wd) (I:Addr) (P:Nat->Obj->Prop) (st:Hp->Prop) (xs:List D):Prop where
 next:∀ (F:Fx S) (k:Nat) (l:Cl) (mp:Mp) (hp:Hp) (w:Wd) (s:Shared) (E:Value->Shared->Prop),w0.le w->st hp->At (F.plus ((I,P k)::l)) mp hp w s ->
  PySem.wpAny (model S.prog S.w) F.A (pyNext (.ref I)) (fun r s'=>xs[k]?.casesOn (r=none/\At (F.plus l) mp hp w s') fun x=>∃ c,r=some c/\RelD S w.fz x c/\At (F.plus ((I,P (k+1))::l)) mp hp w s') E s
 self:∀ (A:Around) (k:Nat) (o:Obj) (s:Shared) (R:Value->Shared->Prop) (E:Value->Shared->Prop),s.heap.get? I=some o->P k o->R (.ref I) s->PySem.wpAny (model S.prog S.w) A (pyIter (.ref I)) R E s
abbrev IW:=Nat->CallP->Loc->Hp->((Hp->Prop)->List D->Hp->Prop)->(Bs->Prop)->Prop
structure Ie where
 chk:Cx->PySem.Expr->Bool
 W:IW
 ok:∀ {S:Sx} {cx:Cx} {x:PySem.Expr} {F:Fx S} {d:Nat} {loc:Loc} {mp:Mp} {hp:Hp} {w w0:Wd} {s:Shared} {Q:(Hp->Prop)->List D->Hp->Prop} {X:Bs->Prop} {R:Value->Shared->Prop},chk cx x=true->Rd cx F d loc mp hp w s->W d (CallOk S) loc hp Q X->w0.le w ->
  (∀ {st xs hp' w' s' I P o},w0.le w'->w.le w'->Nx (S:=S) w' I P st xs->P 0 o->I=s'.heap.objs.size->o.isFreed=false->st hp'->Rd cx F d loc mp hp' w' s'->Q st xs hp'->R (.ref I) { s' with heap:=s'.heap.push o }) ->
  wpAny (model S.prog S.w) F.A (eval x F.env) (fun v s1=>PySem.wpAny (model S.prog S.w) F.A (pyIter v) R (PostX F w0 X) s1) (PostX F w0 X) s
def ByIt (b:Array UInt8) (t:Tok) (k:Nat) (o:Obj):Prop:=o.cls = .type "bytes_iterator" /\ o.data = .fields #[.bytes b t,.int k 0]
def LsIt (l:Addr) (k:Nat) (o:Obj):Prop:=o.cls = .type "list_iterator" /\ o.data = .fields #[.ref l,.int k 0]
def RgIt (n:Nat) (k:Nat) (o:Obj):Prop:=o={ cls := .type "range_iterator", dict:=none,data := .fields #[rawInt k,rawInt (n - k),rawInt 1],slots:=#[] }
noncomputable def octs (b:Bs):List D:=b.map fun c => .int c.toNat
noncomputable def upto (n:Nat):List D:=(List.range n).map fun i => .int (i:Nat)
theorem nxBytes {S:Sx} {w0:Wd} {I:Addr} (b:Bs) (t:Tok) (st:Hp->Prop):Nx (S:=S) w0 I (ByIt b.toArray t) st (octs b) where
 next F k l mp hp w s E l0 hs ha:=by
  obtain ⟨o,ho,h1,h2⟩:=ha.heldP (.head _)
  have hI:KBw.IsBytesIter s.heap I b.toArray t k:=⟨o,ho,h1,h2⟩
  unfold octs
  rw [List.getElem?_map]
  cases hb:b[k]? with
  | none=>exact KBw.next_end F.handled hI (by rw [List.getElem?_toArray];exact hb) fun h' hx=>⟨rfl,ha.lose hx⟩
  | some c =>
   refine KBw.next_item hI (c:=c) (by rw [List.getElem?_toArray];exact hb) fun h' hI' hs=>?_
   obtain ⟨o',ho',h'⟩:=hI'
   exact ⟨_,rfl,⟨_,rfl⟩,ha.turn hs.extBut ho' h'⟩
 self A k o s R E ho h hR:=KBw.pyIter_self ⟨o,ho,h⟩ hR
theorem nxList {S:Sx} {w0:Wd} {I a:Addr} {i:Nat} {xs:List D} (ha:w0.m[i]?=some a):Nx (S:=S) w0 I (LsIt a) (fun hp=>hp[i]?=some (.list xs)) xs where
 next F k l mp hp w s E l0 hs h:=by
  obtain ⟨o,ho,h1,h2⟩:=h.heldP (.head _)
  obtain ⟨a',ob,g1,g2,g3⟩:=h.cell hs
  cases g1.symm.trans (l0.m _ _ ha)
  cases (show IsList .. from g3) with | @mk cvs n g4 =>
  have ht:s.heap.IsList a cvs.toArray:=⟨_,g2,rfl,n,rfl⟩
  cases hb:xs[k]? with
  | none=>exact wpAny_pyNext_list_end F.handled ⟨o,ho,h1,h2⟩ ht (by rw [List.getElem?_toArray,List.getElem?_eq_none_iff,g4.length];exact List.getElem?_eq_none_iff.mp hb) fun h' hx=>⟨rfl,h.lose hx⟩
  | some x =>
   obtain ⟨c,e1,r1⟩:=g4.get hb
   refine wpAny_pyNext_list_item ⟨o,ho,h1,h2⟩ ht (x:=c) (by rw [List.getElem?_toArray];exact e1) fun h' hI' hs=>?_
   obtain ⟨o',ho',h'⟩:=hI'
   exact ⟨c,rfl,r1,h.turn hs.extBut ho' h'⟩
 self A k o s R E ho h hR:=wpAny_pyIter_listiter ⟨o,ho,h⟩ hR
theorem nxRange {S:Sx} {w0:Wd} {I:Addr} (n:Nat) (st:Hp->Prop):Nx (S:=S) w0 I (RgIt n) st (upto n) where
 next F k l mp hp w s E l0 hs ha:=by
  obtain ⟨o,ho,h⟩:=ha.heldP (.head _)
  rw [h] at ho
  unfold upto
  rw [List.getElem?_map]
  by_cases hk:k < n
  ·rw [List.getElem?_range hk]
   refine wpAny_pyNext_range_item ho (Int.sub_pos_of_lt (Int.ofNat_lt.mpr hk)) fun h' hI' hs=>⟨_,rfl,⟨_,rfl⟩,ha.turn hs.extBut hI' ?_⟩
   show _=_
   rw [show (n:Int) - k - 1=n - (k+1:Nat) from Int.sub_sub ..];rfl
  ·rw [List.getElem?_eq_none (by rw [List.length_range];exact Nat.not_lt.mp hk)]
   exact wpAny_pyNext_range_end F.handled ho (Int.sub_nonpos_of_le (Int.ofNat_le.mpr (Nat.not_lt.mp hk))) fun h' hx=>⟨rfl,ha.lose hx⟩
 self A k o s R E ho h hR:=wpAny_pyIter_rangeiter (h▸ho) hR
noncomputable def itBy (a:Ex):Ie where
 chk cx x:=a.chk cx x
 W d C loc hp Q X:=a.W d C loc hp (fun v hp=>asB v fun b=>Q (fun hp=>True) (octs b) hp) X
 ok hc R hw l k:=a.on hc R hw l fun {w1 v cv hp1 s1} l1 l2 r1 R1 q1=>asB_on (R:=fun v=>Rel _ w1 v cv) q1 r1 fun b q r=>by
  obtain ⟨t,rfl⟩:=r
  exact KBw.pyIter_bytes (k l1 l2 (nxBytes b t _) ⟨rfl,rfl⟩ rfl rfl trivial R1 q)
noncomputable def itLs (a:Ex):Ie where
 chk cx x:=a.chk cx x
 W d C loc hp Q X:=a.W d C loc hp (fun v hp=>asRef v fun i=>atL hp i fun xs=>Q (fun hp=>hp[i]?=some (.list xs)) xs hp) X
 ok hc R hw l k:=a.on hc R hw l fun {w1 v cv hp1 s1} l1 l2 r1 R1 q1=>asRef_on (R:=fun v=>Rel _ w1 v cv) q1 r1 fun i q r=>atL_on q fun xs e q=>by
  cases At.ref R1.at_ e r with | mk g1 g2 g3 =>
  cases (show IsList .. from g3) with | mk g4 =>
  exact wpAny_pyIter_list ⟨_,g2,rfl,_,rfl⟩ (k l1 l2 (nxList g1) ⟨rfl,rfl⟩ rfl rfl e R1 q)
theorem rsize {n:Int} (h:0<=n):Builtin.Range.rangeSize 0 n 1=n:=by
 rw [rangeSize_one];split<;>omega
noncomputable def itRg (g a:Ex):Ie where
 chk cx x:=onCall x fun f xs ks p=>ks.isEmpty&&g.chk cx f&&onName f (fun a b=>true)&&chkL cx [a] xs
 W d C loc hp Q X:=g.W d C loc hp (fun v hp=>v = .bi 4/\a.W d C loc hp (fun v hp=>asI v fun n=>(0<=n/\n < 1000000)/\Q (fun hp=>True) (upto n.toNat) hp) X) X
 ok {S cx x F d loc mp hp w w0 s Q X R'} hc R hw l k:=onCall_elim hc fun f xs ks p h=>by
  have h1:=Bool.and_eq_true_iff.mp h
  have h2:=Bool.and_eq_true_iff.mp h1.1
  have h3:=Bool.and_eq_true_iff.mp h2.1
  cases List.isEmpty_iff.mp h3.1
  refine onName_elim (P:=fun f=>g.chk cx f=true->wpAny (model S.prog S.w) F.A (eval (.Call f xs [] p) F.env) (fun v s1=>PySem.wpAny (model S.prog S.w) F.A (pyIter v) R' (PostX F w0 X) s1) (PostX F w0 X) s) h2.2 (fun n q _ h=>?_) h3.2
  refine Call_ (g.on h R hw l fun {w1 v cv hp1 s1} l1 l2 r1 R1 q1=>?_) rfl
  obtain ⟨rfl,q1⟩:=q1
  cases (show cv = .type "range" from r1)
  have st:=chkL_star (pos:=p) (env:=F.env) h1.2
  obtain ⟨y,t,rfl,hy,ha,ht⟩:=chkL_on h1.2
  cases List.isEmpty_iff.mp ht
  refine callWith_of (P:=fun h=>S.K.In h) (by rw [st.1];rfl) (fun h X=>⟨.machine,.inr (.inl rfl),Looks.now⟩) ?_
  rw [starEach_cons hy]
  refine evalArgs_plain (spliced_cons (a.on ha R1 q1 l1 fun {w2 v2 c2 hp2 s2} l3 l4 r2 R2 q2=>lf (spliced_none (pos:=p) (env:=F.env) ?_)))
  refine ⟨R2.at_.kIn,asI_of (P:=fun c=>wpAny (model S.prog S.w) F.A (call (.type "range") ([]++[c]) []) (fun v s1=>PySem.wpAny (model S.prog S.w) F.A (pyIter v) R' (PostX F w0 X) s1) (PostX F w0 X) s2) q2 r2 fun n t q=>lf (call_range_1 ?_)⟩
  obtain ⟨news,i⟩:=R2.at_.inv
  obtain ⟨a',l'⟩:=i.icy (s':={ s2 with heap:=s2.heap.push { cls := .type "range", data := .fields #[.int 0 s2.toks,.int n t,.int 1 (s2.toks+1)] },toks:=s2.toks+1+1 }) R2.at_.len (i.fr.push _) (i.nw.push i.fr _ rfl) i.size rfl rfl
  refine wpAny_pyIter_range (a'.get (Fz.set_at _ _ _)) (small_one (by decide) (by decide) (by omega) (by omega)) ?_
  rw [rsize q.1.1]
  exact k (l3.trans l') ((l2.trans l4).trans l') (nxRange n.toNat _) (by show _=_;rw [Int.toNat_of_nonneg q.1.1];simp) rfl rfl trivial (R2.next l' a') q.2
end Mine.C
namespace Mine.C
theorem wpAny_E {α:Type} {M:Model} {A:Around} {t:Sem α} {Q:α->Shared->Prop} {E E':Value->Shared->Prop} {s:Shared} (h:wpAny M A t Q E s) (hE:∀ e s,E e s->E' e s):wpAny M A t Q E' s:=wpAny_mono h (fun a b x=>x) hE
structure Kt where
 next:Loc->Hp->Prop
 brk:Loc->Hp->Prop
 cont:Loc->Hp->Prop
 ret:V->Hp->Prop
abbrev SW:=Nat->CallP->Loc->Hp->Kt->(Bs->Prop)->Prop
section
variable {S:Sx}
inductive PostS (F:Fx S) (w:Wd) (K:Kt):Flow->Shared->Prop
 | next {w':Wd} {loc:Loc} {mp:Mp} {hp:Hp} {s:Shared}:w.le w'->LocRel F w' loc mp->At F mp hp w' s->K.next loc hp->PostS F w K .next s
 | brk {w':Wd} {loc:Loc} {mp:Mp} {hp:Hp} {s:Shared}:w.le w'->LocRel F w' loc mp->At F mp hp w' s->K.brk loc hp->PostS F w K .brk s
 | cont {w':Wd} {loc:Loc} {mp:Mp} {hp:Hp} {s:Shared}:w.le w'->LocRel F w' loc mp->At F mp hp w' s->K.cont loc hp->PostS F w K .cont s
 | ret {w':Wd} {mp:Mp} {hp:Hp} {v:V} {cv:Value} {s:Shared}:w.le w'->Rel S w' v cv->At F mp hp w' s->K.ret v hp->PostS F w K (.ret cv) s
theorem PostS.weak {F:Fx S} {w w':Wd} {K:Kt} (h:w.le w') {f:Flow} {s:Shared} (p:PostS F w' K f s):PostS F w K f s :=
 p.rec (fun l a b c => .next (h.trans l) a b c) (fun l a b c => .brk (h.trans l) a b c) (fun l a b c => .cont (h.trans l) a b c) fun l a b c => .ret (h.trans l) a b c
def Hd (F:Fx S):Prop:=∃ outer,F.fr=F.env::outer/\F.env.frame=some F.L
variable (S) in
def SOk (cx:Cx) (st:Stmt) (W:SW):Prop:=∀ (F:Fx S) (d:Nat) (loc:Loc) (mp:Mp) (hp:Hp) (w:Wd) (s:Shared) (K:Kt) (X:Bs->Prop),Rd cx F d loc mp hp w s->Hd F->W d (CallOk S) loc hp K X->wpAny (model S.prog S.w) F.A (exec st F.env) (PostS F w K) (PostX F w X) s
end
structure Stx where
 chk:Cx->Stmt->Bool
 W:SW
 ok:∀ (S:Sx) (cx:Cx) (st:Stmt),chk cx st=true->SOk S cx st W
noncomputable def Wss (b:List Stx):SW:=b.rec (fun d C loc hp K X=>K.next loc hp) fun s r ih d C loc hp K X=>s.W d C loc hp ⟨fun loc hp=>ih d C loc hp K X,K.brk,K.cont,K.ret⟩ X
noncomputable def chkS (cx:Cx) (b:List Stx):List Stmt->Bool:=b.rec (fun l=>l.isEmpty) fun s r ih l=>l.casesOn false fun x t=>s.chk cx x&&ih t
section
variable {S:Sx} {cx:Cx} {F:Fx S} {d:Nat} {loc:Loc} {mp:Mp} {hp:Hp} {w w0:Wd} {s:Shared} {X:Bs->Prop} {K:Kt} {e:Value} {l:Cl}
theorem Rd.at (R:Rd cx F d loc mp hp w s) {loc':Loc} {mp':Mp} {hp':Hp} {w':Wd} {s':Shared} (lr:LocRel F w' loc' mp') (a:At F mp' hp' w' s'):Rd cx F d loc' mp' hp' w' s':=⟨R.sc,R.names,R.dp,a,lr,R.glob⟩
theorem Wss_ok (b:List Stx):∀ {sts:List Stmt} {F:Fx S} {loc:Loc} {mp:Mp} {hp:Hp} {w:Wd} {s:Shared} {K:Kt},chkS cx b sts=true->Rd cx F d loc mp hp w s->Hd F->Wss b d (CallOk S) loc hp K X->wpAny (model S.prog S.w) F.A (execs sts F.env) (PostS F w K) (PostX F w X) s:=by
 induction b with
 | nil=>intro sts F loc mp hp w s K h R hd hw;cases List.isEmpty_iff.mp h;exact lf (wpAny_execs_nil (.next (.refl _) R.lr R.at_ hw))
 | cons x r ih =>
  intro sts F loc mp hp w s K h R hd hw
  cases sts with
  | nil=>exact no h
  | cons st sts =>
   have h1:=Bool.and_eq_true_iff.mp h
   refine wpAny_execs_cons (wpAny_mono (x.ok S cx st h1.1 F d loc mp hp w s _ X R hd hw) (fun f s1 p=>?_) fun _ _ x=>x)
   cases p with
   | next l a b q=>exact wpAny_mono (ih h1.2 (R.at a b) hd q) (fun _ _ x=>x.weak l) fun _ _ x=>x.weak l
   | brk l a b q=>exact .brk l a b q
   | cont l a b q=>exact .cont l a b q
   | ret l a b q=>exact .ret l a b q
inductive PostN (F:Fx S) (w:Wd) (X:Bs->Prop):Value->Shared->Prop
 | mk {fz:Fz} {told:Bs} {ea T:Addr} {s:Shared}:(∀ a o,w.fz a=some o->fz a=some o)->Fly F (Loose F) fz told ea (.ref T) s->X told->PostN F w X (.ref ea) s
theorem noted (hd:Hd F) (p:PostX F w X e s):notedBy (model S.prog S.w) F.A F.env (fun e s=>PostN F w X e s) e s:=by
 cases p with | mk l r x =>
 obtain ⟨ea,head,rfl,h⟩:=r
 exact h.note hd fun T s' h' => .mk l (h'.weaken fun x e => .inr e) x
theorem back (hd:Hd F) (p:PostN F w X e s):cameBackBy (model S.prog S.w) F.A F.env (PostX F w X) e s:=by
 cases p with | mk l h x =>
 unfold cameBackBy
 refine PySem.wpAny_bind (h.field1 ?_)
 rw [if_neg (by rw [beq_iff_eq];exact fun e=>nomatch e),hd.elim fun a b=>b.2]
 exact h.setFlight (P':=Loose F) (.inr rfl) fun s' h' => .mk l ⟨_,_,rfl,h'⟩ x
theorem _root_.Mine.Internal.Mine.At.skip {l':Cl} (h:At ((F.plus l).plus l') mp hp w s):At (F.plus l') mp hp w s:=by
 obtain ⟨news,i⟩:=h.inv
 have nd:=h.nd
 have e:((F.plus l).plus l').hid=l'++(l++F.hid):=rfl
 rw [e,List.map_append,List.map_append,List.append_assoc,List.append_assoc] at nd
 refine i.reach (F:=F.plus l') ⟨h.len.len,?_,h.len.dd⟩ rfl (fun p m=>⟨p.2,List.mem_append_left _ ?_,fun _ r=>r⟩) (fun _ _ _ l e1 e2=>⟨_,List.mem_append_right _ (cells_at e1 e2 l),fun _ r=>r⟩)
 ·show ((l'++F.hid).map (·.1)++w.m).Nodup
  rw [List.map_append,List.append_assoc]
  exact nd.sublist (List.Sublist.append (.refl _) (List.sublist_append_right _ _))
 ·exact List.mem_append.mpr ((List.mem_append.mp m).imp id fun m=>List.mem_append_right _ m)
theorem PostX.skip (p:PostX (F.plus l) w X e s):PostX F w X e s:=by
 cases p with | mk a r x =>
 obtain ⟨ea,head,rfl,mp,l',ht,h⟩:=r
 exact .mk a ⟨ea,head,rfl,mp,l',ht,h.skip⟩ x
theorem store_ok {x:Str} {i:Nat} {v:V} {cv:Value} {P:Unit->Shared->Prop} {E:Value->Shared->Prop} (hi:cx.names[i]?=some x) (hk:cx.sc.names.lookup x=some .local) (R:Rd cx F d loc mp hp w s) (r:Rel S w v cv)
  (k:∀ mp' s',LocRel F w (loc.set i (some v)) mp'->At F mp' hp w s'->P () s'):PySem.wpAny (model S.prog S.w) F.A (storeName F.env x cv) P E s:=by
 obtain ⟨news,j⟩:=R.at_.inv
 have hk:=R.kind hk
 rw [<- R.names] at hi
 refine wpAny_storeName_local (m:=mp) hk (by rw [F.loc];exact j.fr.ns) (fun h' hn hs=>?_) (by rw [F.kind];rfl)
 rw [F.loc] at hn hs
 refine k _ _ (fun n u e=>?_) ⟨R.at_.len,news,j.fr.set hn hs,j.nw.set hs,j.nd,j.cnd,j.ap,j.own,j.zero,j.led,j.gens,j.os⟩
 by_cases q:i=n
 ·subst q
  have h:=(List.getElem?_eq_some_iff.mp e).1
  rw [List.length_set] at h
  rw [List.getElem?_set_self h] at e
  cases e
  exact ⟨x,hi,.inl ⟨hk,cv,if_pos rfl,r⟩⟩
 ·rw [List.getElem?_set_ne q] at e
  obtain ⟨y,hy,t⟩:=R.lr n u e
  refine ⟨y,hy,t.imp (fun t=>⟨t.1,t.2.imp fun c t=>⟨(if_neg fun z=>?_).trans t.1,t.2⟩⟩) id⟩
  subst z
  exact q ((List.getElem?_inj (List.getElem?_eq_some_iff.mp hi).1 F.nodup).mp (hi.trans hy.symm))
end
noncomputable def notComp (x:PySem.Expr):Bool:=x.casesOn (fun a b c=>true) (fun a b c=>true) (fun a b c d=>true) (fun a b c=>true) (fun a b c d=>true) (fun a b c d=>true) (fun a b c=>true) (fun a b c=>false) (fun a b c d=>false) (fun a b c d=>false) (fun a b c d e=>false) (fun a b c d=>true) (fun a b=>true) (fun a b=>true) (fun a b=>true) (fun a b c d=>true) (fun a b c d=>true) (fun a b c d=>true) (fun a b=>true) (fun a b c=>true) (fun a b c=>true) (fun a b c=>true) (fun a b=>true) (fun a b=>true) (fun a b=>true) (fun a b c=>true) (fun a b c d=>true)
theorem noSwap {value:PySem.Expr} {t:Option PySem.Expr} {n:Nat} {env:Env} (h:notComp value=true):swapsWith value t n env=pure false:=by
 cases value<;>first | rfl | exact no h
theorem noFold {x:PySem.Expr} {env:Env} (h:notComp x=true) (v:Value):foldedSetIterable x env v=pure v:=by
 cases x<;>first | rfl | exact no h
theorem notMain {S:Sx} (F:Fx S):interactive F.env=false:=by unfold interactive;rw [F.kind];rfl
noncomputable def exprS (e:Ex):Stx where
 chk cx st:=onExpr st fun x p=>notComp x&&e.chk cx x
 W d C loc hp K X:=e.W d C loc hp (fun v hp=>v = .d .none/\K.next loc hp) X
 ok S cx st h:=onExpr_elim h fun x p h=>by
  intro F d loc mp hp w s K X R hd hw
  have h1:=Bool.and_eq_true_iff.mp h
  refine wpAny_Expr (e.on h1.2 R hw (.refl _) fun l1 _ r1 R1 q1=>?_) (notMain F) (noSwap h1.1)
  cases q1.1
  cases (show _=Value.none from r1)
  exact .next l1 R1.lr R1.at_ q1.2
noncomputable def asgS (i:Nat) (e:Ex):Stx where
 chk cx st:=onAsg st fun ts x p=>notComp x&&e.chk cx x&&ts.casesOn false fun t r=>r.isEmpty&&onName t fun n q=>nmChk cx i .local n
 W d C loc hp K X:=e.W d C loc hp (fun v hp=>K.next (loc.set i (some v)) hp) X
 ok S cx st h:=onAsg_elim h fun ts x p h=>by
  intro F d loc mp hp w s K X R hd hw
  have h1:=Bool.and_eq_true_iff.mp h
  have h2:=Bool.and_eq_true_iff.mp h1.1
  cases ts with
  | nil=>exact no h1.2
  | cons t r =>
  have h3:=Bool.and_eq_true_iff.mp h1.2
  cases List.isEmpty_iff.mp h3.1
  refine onName_elim (P:=fun t=>wpAny (model S.prog S.w) F.A (exec (.Assign [t] x p) F.env) (PostS F w K) (PostX F w X) s) h3.2 fun n q h=>?_
  obtain ⟨k1,k2,k3⟩:=nmChk_on h
  exact wpAny_Assign_Name (e.on h2.2 R hw (.refl _) fun l1 _ r1 R1 q1=>lf (store_ok k2 k3 R1 r1 fun mp' s' lr a => .next l1 lr a q1)) (noSwap h2.1)
noncomputable def setA (n:Nat) (o e:Ex):Stx where
 chk cx st:=onAsg st fun ts x p=>notComp x&&e.chk cx x&&ts.casesOn false fun t r=>r.isEmpty&&onAttr t fun v m q=>decide (m=nm n)&&o.chk cx v
 W d C loc hp K X:=e.W d C loc hp (fun v hp=>o.W d C loc hp (fun ov hp=>setI n ov v hp fun hp=>K.next loc hp) X) X
 ok S cx st h:=onAsg_elim h fun ts x p h=>by
  intro F d loc mp hp w s K X R hd hw
  have h1:=Bool.and_eq_true_iff.mp h
  have h2:=Bool.and_eq_true_iff.mp h1.1
  cases ts with
  | nil=>exact no h1.2
  | cons t r =>
  have h3:=Bool.and_eq_true_iff.mp h1.2
  cases List.isEmpty_iff.mp h3.1
  refine onAttr_elim (P:=fun t=>wpAny (model S.prog S.w) F.A (exec (.Assign [t] x p) F.env) (PostS F w K) (PostX F w X) s) h3.2 fun v m q h=>?_
  have h4:=Bool.and_eq_true_iff.mp h
  cases of_decide_eq_true h4.1
  exact plainObj_wpAny_Assign_Attribute (e.on h2.2 R hw (.refl _) fun l1 _ r1 R1 q1=>o.on h4.2 R1 q1 l1 fun l2 l3 r2 R2 q2=>lf (setI_ok q2 R2.at_ r2 (r1.mono l3) fun hp' s' a q => .next l2 R2.lr a q)) (noSwap h2.1)
noncomputable def ifS (t:Tx) (a b:List Stx):Stx where
 chk cx st:=onIfS st fun x y z p=>t.chk cx x&&chkS cx a y&&chkS cx b z
 W d C loc hp K X:=t.W d C loc hp (fun r hp=>r.casesOn (Wss b d C loc hp K X) (Wss a d C loc hp K X)) X
 ok S cx st h:=onIfS_elim h fun x y z p h=>by
  intro F d loc mp hp w s K X R hd hw
  have h1:=Bool.and_eq_true_iff.mp h
  have h2:=Bool.and_eq_true_iff.mp h1.1
  refine wpAny_If (t.on h2.1 R hw (.refl _) fun {w1 r hp1 s1} l1 _ R1 q1=>?_)
  cases r
  ·exact wpAny_mono (Wss_ok b h1.2 R1 hd q1) (fun _ _ x=>x.weak l1) fun _ _ x=>x.weak l1
  ·exact wpAny_mono (Wss_ok a h2.2 R1 hd q1) (fun _ _ x=>x.weak l1) fun _ _ x=>x.weak l1
noncomputable def retS (e:Ex):Stx where
 chk cx st:=onRet st fun o p=>o.casesOn false fun x=>e.chk cx x
 W d C loc hp K X:=e.W d C loc hp K.ret X
 ok S cx st h:=onRet_elim h fun o p h=>by
  intro F d loc mp hp w s K X R hd hw
  cases o with
  | none=>exact no h
  | some x=>exact wpAny_Return_some (e.on h R hw (.refl _) fun l1 _ r1 R1 q1 => .ret l1 r1 R1.at_ q1)
noncomputable def brkS:Stx where
 chk cx st:=onBrk st fun p=>true
 W d C loc hp K X:=K.brk loc hp
 ok S cx st h:=onBrk_elim h fun p h=>by
  intro F d loc mp hp w s K X R hd hw
  exact lf (wpAny_Break (.brk (.refl _) R.lr R.at_ hw))
noncomputable def contS:Stx where
 chk cx st:=onCont st fun p=>true
 W d C loc hp K X:=K.cont loc hp
 ok S cx st h:=onCont_elim h fun p h=>by
  intro F d loc mp hp w s K X R hd hw
  exact lf (wpAny_Continue (.cont (.refl _) R.lr R.at_ hw))
noncomputable def whileS (t:Tx) (b:List Stx):Stx where
 chk cx st:=onWhile st fun x y z p=>t.chk cx x&&chkS cx b y&&z.isEmpty
 W d C loc hp K X:=∀ P:Loc->Hp->Prop,(∀ loc hp (R:Loc->Hp->Prop),(∀ l h,R l h->P l h)->t.W d C loc hp (fun r hp=>r.casesOn (K.next loc hp) (Wss b d C loc hp ⟨R,K.next,R,K.ret⟩ X)) X->P loc hp)->P loc hp
 ok S cx st h:=onWhile_elim h fun x y z p h=>by
  intro F d loc mp hp w s K X R hd hw
  have h1:=Bool.and_eq_true_iff.mp h
  have h2:=Bool.and_eq_true_iff.mp h1.1
  cases List.isEmpty_iff.mp h1.2
  let Rs:Result->Shared->Prop:=fun r s'=>r.casesOn (fun e=>PostN F w X e s') fun f=>PostS F w K f s'
  refine wpAny_While (codeAny_mono (R:=Rs) (hw (fun loc hp=>∀ mp w1 s,w.le w1->Rd cx F d loc mp hp w1 s->codeAny (model S.prog S.w) F.A (.whileLoop x y [] F.env) Rs s) (fun loc hp R0 hR ht mp w1 s l1 R=>?_) mp w s (.refl _) R) fun r s' hr=>by
   cases r with
   | ok f=>exact hr
   | error e=>exact back hd hr)
  refine codeAny_while (wpAny_E (t.on h2.1 R ht l1 fun {w2 r hp2 s2} l2 _ R2 q2=>?_) fun _ _ x=>noted hd x)
  cases r
  ·exact .next l2 R2.lr R2.at_ q2
  ·refine wpAny_mono (Wss_ok b h2.2 R2 hd q2) (fun f s3 p=>?_) fun _ _ x=>noted hd (x.weak l2)
   cases p with
   | next l a b q=>exact hR _ _ q _ _ _ (l2.trans l) (R.at a b)
   | cont l a b q=>exact hR _ _ q _ _ _ (l2.trans l) (R.at a b)
   | brk l a b q=>exact PostS.next (l2.trans l) a b q
   | ret l a b q=>exact PostS.ret (l2.trans l) a b q
end Mine.C
namespace Mine.C
structure Nt (S:Sx) (cx:Cx) (w0:Wd) (I:Addr) (tg:PySem.Expr) (P:Nat->Cl) (st:Hp->Prop) {α:Type} (xs:List α) (g:α->Loc->Loc):Prop where
 turn:∀ (F:Fx S) (d k:Nat) (loc:Loc) (mp:Mp) (hp:Hp) (w:Wd) (s:Shared) (R0 B:Shared->Prop) (E:Value->Shared->Prop),w0.le w->st hp->k<=xs.length->Rd cx (F.plus (P k)) d loc mp hp w s ->
  (xs[k]?=none->∀ s',At F mp hp w s'->R0 s')->(∀ x,xs[k]?=some x->∀ mp' s',LocRel F w (g x loc) mp'->At (F.plus (P (k+1))) mp' hp w s'->B s') ->
  wpAny (model S.prog S.w) F.A (pyNext (.ref I)) (fun r s1=>r.casesOn (R0 s1) fun v=>wpAny (model S.prog S.w) F.A (letOwnedTupleGo tg (.ref I) v) (fun u s1'=>wpAny (model S.prog S.w) F.A (assign tg F.env v) (fun u s2=>B s2) E s1') E s1) E s
structure Te where
 chk:Cx->PySem.Expr->PySem.Expr->Bool
 α:Type
 g:α->Loc->Loc
 W:Nat->CallP->Loc->Hp->((Hp->Prop)->List α->Hp->Prop)->(Bs->Prop)->Prop
 ok:∀ {S:Sx} {cx:Cx} {tg x:PySem.Expr} {F:Fx S} {d:Nat} {loc:Loc} {mp:Mp} {hp:Hp} {w w0:Wd} {s:Shared} {Q:(Hp->Prop)->List α->Hp->Prop} {X:Bs->Prop} {R:Value->Shared->Prop},chk cx tg x=true->Rd cx F d loc mp hp w s->W d (CallOk S) loc hp Q X->w0.le w ->
  (∀ {st xs hp' w' s' I P},w0.le w'->w.le w'->Nt S cx w' I tg P st xs g->st hp'->Rd cx (F.plus (P 0)) d loc mp hp' w' s'->Q st xs hp'->R (.ref I) s') ->
  wpAny (model S.prog S.w) F.A (eval x F.env) (fun v s1=>wpAny (model S.prog S.w) F.A (pyIter v) R (PostX F w0 X) s1) (PostX F w0 X) s
noncomputable def forG {α:Type} (g:α->Loc->Loc) (b:List Stx) (d:Nat) (C:CallP) (K:Kt) (X:Bs->Prop) (st:Hp->Prop) (xs:List α):Loc->Hp->Prop:=xs.rec K.next fun x r ih loc hp=>Wss b d C (g x loc) hp ⟨fun loc hp=>st hp/\ih loc hp,K.next,fun loc hp=>st hp/\ih loc hp,K.ret⟩ X
section
variable {S:Sx} {cx:Cx} {F:Fx S} {d:Nat} {w w1:Wd} {X:Bs->Prop} {K:Kt}
theorem drop_some {α:Type} {xs ys:List α} {k:Nat} {y:α} (h:xs.drop k=y::ys):xs[k]?=some y/\xs.drop (k+1)=ys:=by
 refine ⟨?_,?_⟩
 ·have:=List.getElem?_drop (xs:=xs) (i:=k) (j:=0)
  rw [h] at this;exact this.symm
 ·rw [<- List.tail_drop,h];rfl
theorem for_ok {α:Type} {xs:List α} {g:α->Loc->Loc} {b:List Stx} {y:List Stmt} {I:Addr} {tg:PySem.Expr} {P:Nat->Cl} {st:Hp->Prop} (n:Nt S cx w1 I tg P st xs g) (hb:chkS cx b y=true) (hd:Hd F) (l1:w.le w1) (ys:List α):∀ (k:Nat) (loc:Loc) (mp:Mp) (hp:Hp) (w':Wd) (s:Shared),xs.drop k=ys->k<=xs.length->w1.le w'->st hp->Rd cx (F.plus (P k)) d loc mp hp w' s->forG g b d (CallOk S) K X st ys loc hp ->
  codeAny (model S.prog S.w) F.A (.forLoop tg (.ref I) y [] F.env) (fun r s'=>r.casesOn (fun e=>PostN F w X e s') fun f=>PostS F w K f s') s:=by
 induction ys with
 | nil =>
  intro k loc mp hp w' s e hk l hs R q
  have e':xs[k]?=none:=List.getElem?_eq_none_iff.mpr (List.drop_eq_nil_iff.mp e)
  exact codeAny_for (n.turn F d k loc mp hp w' s _ _ _ l hs hk R (fun e s' a=>PostS.next (l1.trans l) R.lr a q) fun x e2=>nomatch e'.symm.trans e2)
 | cons x r ih =>
  intro k loc mp hp w' s e hk l hs R q
  obtain ⟨e1,e2⟩:=drop_some e
  refine codeAny_for (n.turn F d k loc mp hp w' s _ _ _ l hs hk R (fun e3=>nomatch e1.symm.trans e3) fun x' e3 mp' s2 lr a=>?_)
  cases Option.some.inj (e1.symm.trans e3)
  refine wpAny_mono (Wss_ok (F:=F.plus (P (k+1))) b hb (Rd.at (F:=F.plus (P (k+1))) ⟨R.sc,R.names,R.dp,a,lr,R.glob⟩ lr a) hd q) (fun f s3 p=>?_) fun _ _ x=>noted hd (x.skip.weak (l1.trans l))
  cases p with
  | next l2 a b q=>exact ih _ _ _ _ _ _ e2 (List.getElem?_eq_some_iff.mp e1).1 (l.trans l2) q.1 ⟨R.sc,R.names,R.dp,b,a,R.glob⟩ q.2
  | cont l2 a b q=>exact ih _ _ _ _ _ _ e2 (List.getElem?_eq_some_iff.mp e1).1 (l.trans l2) q.1 ⟨R.sc,R.names,R.dp,b,a,R.glob⟩ q.2
  | brk l2 a b q=>exact PostS.next (l1.trans (l.trans l2)) a b.drop q
  | ret l2 a b q=>exact PostS.ret (l1.trans (l.trans l2)) a b.drop q
end
noncomputable def forS (t:Te) (b:List Stx):Stx where
 chk cx st:=onFor st fun g x y z p=>t.chk cx g x&&chkS cx b y&&z.isEmpty&&notComp x
 W d C loc hp K X:=t.W d C loc hp (fun st xs hp=>forG t.g b d C K X st xs loc hp) X
 ok S cx st h:=onFor_elim h fun g x y z p h=>by
  intro F d loc mp hp w s K X R hd hw
  have h1:=Bool.and_eq_true_iff.mp h
  have h2:=Bool.and_eq_true_iff.mp h1.1
  have h3:=Bool.and_eq_true_iff.mp h2.1
  cases List.isEmpty_iff.mp h2.2
  refine wpAny_For (t.ok h3.1 R hw (.refl _) fun {st xs hp1 w1 s1 I P} l1 _ n hs R1 q=>?_) (noFold h1.2)
  exact codeAny_mono (for_ok n h3.2 hd l1 xs 0 loc mp hp1 w1 s1 rfl (Nat.zero_le _) (.refl _) hs R1 q) fun r s' hr=>by
   cases r with
   | ok f=>exact hr
   | error e=>exact back hd hr
theorem nmAt {cx:Cx} {i:Nat} {tg:PySem.Expr} (h:(onName tg fun n q=>nmChk cx i .local n)=true):∃ n q,tg = .Name n q/\cx.names[i]?=some n/\cx.sc.names.lookup n=some .local :=
 onName_elim (P:=fun tg=>∃ n q,tg = .Name n q/\cx.names[i]?=some n/\cx.sc.names.lookup n=some .local) h fun n q h=>⟨n,q,rfl,(nmChk_on h).2⟩
theorem nt_name {S:Sx} {cx:Cx} {w0:Wd} {I:Addr} {P:Nat->Obj->Prop} {st:Hp->Prop} {xs:List D} {i:Nat} {x:Str} {p:Pos} (hi:cx.names[i]?=some x) (hk:cx.sc.names.lookup x=some .local) (n:Nx (S:=S) w0 I P st xs) :
  Nt S cx w0 I (.Name x p) (fun k=>[(I,P k)]) st xs (fun v loc=>loc.set i (some (.d v))) where
 turn F d k loc mp hp w s R0 B E l hs hkl R h0 h1:=wpAny_mono (lf (n.next F k [] mp hp w s E l hs R.at_)) (fun r s1 hr=>by
  cases e:xs[k]? with
  | none=>rw [e] at hr;cases hr.1;exact h0 e s1 hr.2.drop
  | some v =>
   rw [e] at hr
   obtain ⟨c,e2,rv,a⟩:=hr
   cases e2
   exact wpAny_pure (wpAny_assign_Name (lf (store_ok (F:=F.plus [(I,P (k+1))]) (v := .d v) hi hk ⟨R.sc,R.names,R.dp,a,R.lr,R.glob⟩ rv fun mp' s' lr a=>h1 v e mp' s' lr a)))) fun a b x=>x
noncomputable def teN (i:Nat) (it:Ie):Te where
 chk cx tg x:=it.chk cx x&&onName tg fun n q=>nmChk cx i .local n
 α:=D
 g v loc:=loc.set i (some (.d v))
 W d C loc hp Q X:=it.W d C loc hp Q X
 ok hc R hw l k:=by
  have h1:=Bool.and_eq_true_iff.mp hc
  obtain ⟨n,q,rfl,hi,hk⟩:=nmAt h1.2
  refine wpAny_mono (it.ok h1.1 R hw l fun {st xs hp' w' s' I P o} l1 l2 nx hP hI hf hs R q=>by
   subst hI
   exact k l1 l2 (nt_name hi hk nx) hs ⟨R.sc,R.names,R.dp,(R.at_.hid rfl hf).turn (fun b o q e=>e) (Heap.get?_push_size _ hf) hP,R.lr,R.glob⟩ q) (fun v s1 h=>lf h) fun a b x=>x
end Mine.C
namespace Mine
section
variable {prog:Program} {w:World} {A:Around} {E:Value->Shared->Prop} {s:Shared} {b:Array UInt8} {t:Tok}
theorem nextB_item {it:Addr} {i:Nat} {c:UInt8} {Q:Value->Shared->Prop} (hit:KBw.IsBytesIter s.heap it b t i) (hx:b[i]?=some c)
  (hQ:∀ h',KBw.IsBytesIter h' it b t (i+1)->Heap.SameBut it s.heap h'->Q (.int (c.toNat:Int) s.toks) { s with heap:=h',toks:=s.toks+1 }):wpAny (model prog w) A (Builtin.SmallTypes.nextOf (.ref it)) Q E s:=by
 obtain ⟨o,ho,hc,hd⟩:=id hit
 unfold Builtin.SmallTypes.nextOf
 refine wpAny_bind (wpAny_callSpecial?_slot (name:=PySem.Str.ofString "__next__") (KBw.iter_typeIs hit) KBw.slot_next (wpAny_call_entry KBw.slot_next (KBw.iter_typeIs hit) KBw.entry_next ?_ (KBw.args_next _)))
 show wpAny _ _ (field (.ref it) 0 >>= _) _ _ s
 refine wpAny_bind (wpAny_field ho hd (x := .bytes b t) rfl ?_)
 show wpAny _ _ (if (Value.bytes b t==Value.none)=true then _ else _) _ _ s
 rw [if_neg (show ¬ ((Value.bytes b t==Value.none)=true) from Bool.false_ne_true)]
 show wpAny _ _ (field (.ref it) 1 >>= _) _ _ s
 refine wpAny_bind (wpAny_field ho hd (x := .int i 0) rfl (wpAny_bind (wpAny_of_eq (a:=b) rfl ?_)))
 simp only [Int.toNat_natCast,hx]
 refine wpAny_bind (wpAny_setField ho hd (by simp) (wpAny_bind (wpAny_mkInt (wpAny_pure ⟨_,rfl,wpAny_pure (hQ _ ?_ (Heap.SameBut.update ..))⟩))))
 exact ⟨_,Heap.get?_update_self _ ho (Obj.isFreed_of_fields (Obj.data_mapFields hd _)),(Obj.cls_mapFields ..).trans hc,by rw [Obj.data_mapFields hd];simp [rawInt]⟩
theorem nextB_end {it:Addr} {i:Nat} {Q:Value->Shared->Prop} (hh:A.handled=none) (hit:KBw.IsBytesIter s.heap it b t i) (hx:b[i]?=none)
  (hE:∀ h' e,Heap.ExtBut it s.heap h'->(∃ o,h'.get? e=some o/\o.cls = .type "StopIteration")->E (.ref e) { s with heap:=h' }):wpAny (model prog w) A (Builtin.SmallTypes.nextOf (.ref it)) Q E s:=by
 obtain ⟨o,ho,hc,hd⟩:=id hit
 unfold Builtin.SmallTypes.nextOf
 refine wpAny_bind (wpAny_callSpecial?_slot (name:=PySem.Str.ofString "__next__") (KBw.iter_typeIs hit) KBw.slot_next (wpAny_call_entry KBw.slot_next (KBw.iter_typeIs hit) KBw.entry_next ?_ (KBw.args_next _)))
 show wpAny _ _ (field (.ref it) 0 >>= _) _ _ s
 refine wpAny_bind (wpAny_field ho hd (x := .bytes b t) rfl ?_)
 show wpAny _ _ (if (Value.bytes b t==Value.none)=true then _ else _) _ _ s
 rw [if_neg (show ¬ ((Value.bytes b t==Value.none)=true) from Bool.false_ne_true)]
 show wpAny _ _ (field (.ref it) 1 >>= _) _ _ s
 refine wpAny_bind (wpAny_field ho hd (x := .int i 0) rfl (wpAny_bind (wpAny_of_eq (a:=b) rfl ?_)))
 simp only [Int.toNat_natCast,hx]
 refine wpAny_bind (wpAny_rule (wpAny_bind (wpAny_setField ho hd (by simp) ?_)))
 show wpAny _ _ (newExc (.type "StopIteration") [] >>= _) _ _ _
 refine wpAny_bind ?_
 simp only [newExc,newTuple]
 refine wpAny_bind (wpAny_newObj_type ?_ (by size_fits))
 refine wpAny_bind (m:=firstArgMember _ _) (wpAny_of_eq (a:=Value.none) (by first | rfl | (simp only [firstArgMember];rfl)) ?_)
 refine wpAny_newObj_type ?_ (by size_fits)
 unfold raiseNew
 dsimp only
 refine wpAny_bind (wpAny_handled ?_)
 first | rw [show A.in1.handled=none from hh] | rw [hh]
 refine wpAny_bind (wpAny_pure (wpAny_throw ?_))
 exact hE _ _ (((Heap.SameBut.update ..).extBut.push _).push _) ⟨_,Heap.get?_push_size _ rfl,rfl⟩
theorem drawsBytes (hh:A.handled=none) (it:Addr) (b:Array UInt8) (t:Tok) :
  Draws prog w A it [it] b.size (fun i v=>∃ c u,b[i]?=some c/\v = .int (c.toNat:Int) u) (fun i h=>KBw.IsBytesIter h it b t i) where
 live i h st:=st.elim fun o q=>⟨o,q.1⟩
 frame i h h' st hk:=st.elim fun o q=>⟨o,hk it (.head _) o q.1,q.2⟩
 item:=fun i s Q E hi st hQ=>by
  refine nextB_item st (c:=b[i]) (by simp [hi]) fun h' hit' hs'=>?_
  exact hQ _ h' (s.toks+1) ⟨_,_,by simp [hi],rfl⟩ hit' hs'
 done:=fun s Q E st hE=>nextB_end hh st (by simp) hE
set_option maxHeartbeats 2000000 in
theorem meets_enumB (b:Array UInt8) (t:Tok) :
  Meets (Builtin.«enumerate.__new__» ⟨[.type "enumerate", .bytes b t],[]⟩) (fun _ R s =>
   R (.ok (.ret (.ref (s.heap.push { cls := .type "bytes_iterator", data := .fields #[.bytes b t,.int 0 0] }).objs.size)))
    { s with heap:=(s.heap.push { cls := .type "bytes_iterator", data := .fields #[.bytes b t,.int 0 0] }).push { cls := .type "enumerate", data := .fields #[.none,.bool false,.ref s.heap.objs.size,rawInt 0,.none,.none] } }) :=
 .of_wp fun prog w A R s h=>by
  obtain ⟨hp,g,d,tk,os⟩:=s
  have hsub:=sub_enumerate
  wp_walk
  refine wpAny_stack_any fun st=>wpAny_pure ?_
  split
  ·rename_i c _ _ _ _ _
   cases (c==Value.type "enumerate")
   ·wp_walk using KBw.pyIter_bytes
    exact ⟨_,rfl,h⟩
   ·wp_walk using KBw.pyIter_bytes
    exact ⟨_,rfl,h⟩
  ·wp_walk using KBw.pyIter_bytes
   exact ⟨_,rfl,h⟩
theorem callEnumB {Q:Value->Shared->Prop}
  (h:∀ h',IsEnum h' (s.heap.objs.size+1) s.heap.objs.size 0 .none->KBw.IsBytesIter h' s.heap.objs.size b t 0->h'=(s.heap.push { cls := .type "bytes_iterator", data := .fields #[.bytes b t,.int 0 0] }).push { cls := .type "enumerate", data := .fields #[.none,.bool false,.ref s.heap.objs.size,rawInt 0,.none,.none] } ->
   Q (.ref (s.heap.objs.size+1)) { s with heap:=h' }) :
  wpAny (model prog w) A (call (.type "enumerate") [.bytes b t]) Q E s:=by
 refine callType_new F.called_enumerate (by decide) (F.typeCall_enumerate_1 _) (F.newCall_enumerate_1 _) (fun obj=>F.args_object_init_2 obj _) F.entry_enumerate_new (meets_enumB b t) ?_
 have hz:(s.heap.push { cls := .type "bytes_iterator", data := .fields #[.bytes b t,.int 0 0] }).objs.size=s.heap.objs.size+1:=Heap.size_push ..
 show _/\_
 rw [hz]
 have he:IsEnum ((s.heap.push { cls := .type "bytes_iterator", data := .fields #[.bytes b t,.int 0 0] }).push
   { cls := .type "enumerate", data := .fields #[.none,.bool false,.ref s.heap.objs.size,rawInt 0,.none,.none] }) (s.heap.objs.size+1) s.heap.objs.size 0 .none:=by
  have:=Heap.get?_push_size (s.heap.push { cls := .type "bytes_iterator", data := .fields #[.bytes b t,.int 0 0] })
   (o:={ cls := .type "enumerate", data := .fields #[.none,.bool false,.ref s.heap.objs.size,rawInt 0,.none,.none] }) rfl
  rw [hz] at this;exact this
 exact ⟨⟨_,he,rfl⟩,h _ he ⟨_,Heap.get?_push_of_some _ (Heap.get?_push_size _ rfl),rfl,rfl⟩ rfl⟩
end
theorem At.turn2 {S:Sx} {F:Fx S} {mp:Mp} {hp:Hp} {w:Wd} {s:Shared} {l:Cl} {a b:Addr} {P P' P2 P2':Obj->Prop} {o o2:Obj} {h':Heap} {tk:Tok} (h:At (F.plus ((a,P)::(b,P2)::l)) mp hp w s) (hab:a≠b) (hx:∀ c o,c≠a->c≠b->s.heap.get? c=some o->h'.get? c=some o) (ha:h'.get? a=some o) (hb:h'.get? b=some o2) (r:P' o) (r2:P2' o2) :
  At (F.plus ((a,P')::(b,P2')::l)) mp hp w { s with heap:=h',toks:=tk }:=by
 obtain ⟨ob,e,z⟩:=h.heldP (.tail _ (.head _))
 have f2:=(Heap.get?_some_iff.mp hb).2
 have e2:(s.heap.update b fun x=>o2).get? b=some o2:=Heap.get?_update_self (fun x=>o2) e f2
 have e3:Heap.SameBut b s.heap (s.heap.update b fun x=>o2):=Heap.SameBut.update s.heap b _
 have a1:=((h.perm (.swap _ _ _)).turn (h':=s.heap.update b fun x=>o2) (tk:=tk) e3.extBut e2 r2).perm (.swap _ _ _)
 refine a1.turn (h':=h') (tk:=tk) (fun c x hc q=>?_) ha r
 by_cases hcb:c=b
 ·subst hcb;cases Option.some.inj (e2.symm.trans q);exact hb
 ·exact hx c x hc hcb ((e3.2 c hcb).symm.trans q)
end Mine
namespace Mine.C
noncomputable def EnIt (it:Addr) (k:Nat) (o:Obj):Prop:=∃ old,o={ cls := .type "enumerate", data := .fields #[.none,.bool false,.ref it,rawInt k,.none,old] }
noncomputable def num (b:Bs):List (Nat×UInt8):=b.zipIdx.map fun p=>(p.2,p.1)
theorem num_get (b:Bs) (k:Nat):(num b)[k]?=b[k]?.map fun c=>(k,c):=by
 unfold num
 rw [List.getElem?_map,List.getElem?_zipIdx,Option.map_map,Nat.zero_add];rfl
noncomputable def onTwo (tg:PySem.Expr) (f:PySem.Expr->PySem.Expr->Bool):Bool:=onTup tg fun xs k p=>xs.casesOn false fun a r=>r.casesOn false fun b r=>r.isEmpty&&f a b
theorem onTwo_on {tg:PySem.Expr} {f:PySem.Expr->PySem.Expr->Bool} (h:onTwo tg f=true):∃ a b k p,tg = .Tuple [a,b] k p/\f a b=true :=
 onTup_elim (P:=fun tg=>∃ a b k p,tg = .Tuple [a,b] k p/\f a b=true) h fun xs k p h=>by
  cases xs with
  | nil=>exact no h
  | cons a r =>
  cases r with
  | nil=>exact no h
  | cons b r =>
  have h1:=Bool.and_eq_true_iff.mp h
  cases List.isEmpty_iff.mp h1.1
  exact ⟨a,b,k,p,rfl,h1.2⟩
theorem nt_enum {S:Sx} {cx:Cx} {w0:Wd} {e it:Addr} {b:Bs} {t:Tok} {st:Hp->Prop} {i j k0:Nat} {x y:Str} {p p1 p2:Pos} (hne:e≠it) (hi:cx.names[i]?=some x) (hk:cx.sc.names.lookup x=some .local) (hj:cx.names[j]?=some y) (hl:cx.sc.names.lookup y=some .local) :
  Nt S cx w0 e (.Tuple [.Name x p1,.Name y p2] k0 p) (fun k=>[(e,EnIt it k),(it,ByIt b.toArray t k)]) st (num b) (fun q loc=>(loc.set i (some (.d (.int q.1)))).set j (some (.d (.int q.2.toNat)))) where
 turn F d k loc mp hp w s R0 B E l hs hkl R h0 h1:=by
  have D:=drawsBytes (prog:=S.prog) (w:=S.w) (A:=F.A.in1) F.handled it b.toArray t
  obtain ⟨oe,ge,old,re⟩:=R.at_.heldP (.head _)
  obtain ⟨oi,gi,ri⟩:=R.at_.heldP (.tail _ (.head _))
  subst re
  by_cases q:k < b.length
  ·refine lf (wpAny_pyNext_enum_itemD D ge ⟨oi,gi,ri⟩ q hne (fun m=>hne (List.mem_singleton.mp m)) fun v h2 tk hP hO hI hT hz hk2=>?_)
   obtain ⟨c,u,hc,rfl⟩:=hP
   refine lf (wpAny_letOwnedTupleGo_enum hO fun h3 hE3 hS3=>?_)
   have hTe:s.heap.objs.size≠e:=Nat.ne_of_gt (Heap.lt_size ge)
   obtain ⟨o3,g3,r3⟩:=hI
   have a3:=R.at_.turn2 (h':=h3) (tk:=tk+1) (P':=EnIt it (k+1)) (P2':=ByIt b.toArray t (k+1)) hne (fun c o h1 h2 h3=>(hS3.2 c h1).trans (hk2 c o h1 h2 h3)) hE3 ((hS3.2 it hne.symm).trans g3) ⟨_,rfl⟩ r3
   refine lf (wpAny_assign_Tuple F.handled (items:=#[.int k tk,.int c.toNat u]) ⟨_,(hS3.2 _ hTe).trans hT,rfl,_,rfl⟩ rfl rfl fun h4 hx4=>?_)
   have a4:=a3.ext (h':=h4) (tk:=tk+1) fun b o q=>hx4 b o (Nat.ne_of_lt (Heap.lt_size q)) q
   have R4:Rd cx (F.plus [(e,EnIt it (k+1)),(it,ByIt b.toArray t (k+1))]) d loc mp hp w _:=⟨R.sc,R.names,R.dp,a4,R.lr,R.glob⟩
   refine PySem.wpAny_bind (PySem.wpAny_holding (PySem.wpAny_assign_Name (store_ok (F:=F.plus _) (v := .d (.int k)) hi hk R4 ⟨_,rfl⟩ fun mp1 s1 lr1 a1=>?_)))
   refine PySem.wpAny_bind (PySem.wpAny_holding (PySem.wpAny_assign_Name (store_ok (F:=F.plus _) (v := .d (.int c.toNat)) hj hl (R4.at lr1 a1) ⟨_,rfl⟩ fun mp2 s2 lr2 a2=>PySem.wpAny_pure ?_)))
   refine h1 (k,c) ?_ mp2 s2 lr2 a2
   rw [num_get,<- List.getElem?_toArray,hc];rfl
  ·have e0:b[k]?=none:=List.getElem?_eq_none_iff.mpr (Nat.not_lt.mp q)
   have e1:k=b.length:=Nat.le_antisymm (by unfold num at hkl;rwa [List.length_map,List.length_zipIdx] at hkl) (Nat.not_lt.mp q)
   subst e1
   refine lf (wpAny_pyNext_enum_endD D ge ⟨oi,gi,ri⟩ fun h2 hx2=>h0 (by rw [num_get,e0];rfl) _ ((R.at_.perm (.swap _ _ _)).lose (tk:=s.toks) hx2).drop)
noncomputable def teE (i j:Nat) (g a:Ex):Te where
 chk cx tg x:=onTwo tg (fun u v=>onName u (fun n q=>nmChk cx i .local n)&&onName v fun n q=>nmChk cx j .local n)&&onCall x fun f xs ks p=>ks.isEmpty&&g.chk cx f&&onName f (fun a b=>true)&&chkL cx [a] xs
 α:=Nat×UInt8
 g q loc:=(loc.set i (some (.d (.int q.1)))).set j (some (.d (.int q.2.toNat)))
 W d C loc hp Q X:=g.W d C loc hp (fun v hp=>v = .bi 5/\a.W d C loc hp (fun v hp=>asB v fun b=>Q (fun hp=>True) (num b) hp) X) X
 ok {S cx tg x F d loc mp hp w w0 s Q X R'} hc R hw l k:=by
  have hc1:=Bool.and_eq_true_iff.mp hc
  obtain ⟨u,v,k0,p0,rfl,hc2⟩:=onTwo_on hc1.1
  have hc3:=Bool.and_eq_true_iff.mp hc2
  obtain ⟨n1,q1,rfl,hi,hk⟩:=nmAt hc3.1
  obtain ⟨n2,q2,rfl,hj,hl⟩:=nmAt hc3.2
  refine onCall_elim hc1.2 fun f xs ks p h=>?_
  have h1:=Bool.and_eq_true_iff.mp h
  have h2:=Bool.and_eq_true_iff.mp h1.1
  have h3:=Bool.and_eq_true_iff.mp h2.1
  cases List.isEmpty_iff.mp h3.1
  refine onName_elim (P:=fun f=>g.chk cx f=true->wpAny (model S.prog S.w) F.A (eval (.Call f xs [] p) F.env) (fun v s1=>wpAny (model S.prog S.w) F.A (pyIter v) R' (PostX F w0 X) s1) (PostX F w0 X) s) h2.2 (fun n q z h=>?_) h3.2
  refine Call_ (g.on h R hw l fun {w1 v cv hp1 s1} l1 l2 r1 R1 q1=>?_) rfl
  obtain ⟨rfl,q1⟩:=q1
  cases (show cv = .type "enumerate" from r1)
  have st:=chkL_star (pos:=p) (env:=F.env) h1.2
  obtain ⟨y,t,rfl,hy,ha,ht⟩:=chkL_on h1.2
  cases List.isEmpty_iff.mp ht
  refine callWith_of (P:=fun h=>S.K.In h) (by rw [st.1];rfl) (fun h X=>⟨.machine,.inr (.inl rfl),Looks.now⟩) ?_
  rw [starEach_cons hy]
  refine evalArgs_plain (spliced_cons (a.on ha R1 q1 l1 fun {w2 v2 c2 hp2 s2} l3 l4 r2 R2 q2=>lf (spliced_none (pos:=p) (env:=F.env) ?_)))
  refine ⟨R2.at_.kIn,asB_on (R:=fun v=>Rel S w2 v c2) q2 r2 fun b q r=>?_⟩
  obtain ⟨t,rfl⟩:=r
  refine lf (callEnumB fun h' hE hI e=>?_)
  subst e
  have a1:=R2.at_.hid (o:={ cls := .type "bytes_iterator", data := .fields #[.bytes b.toArray t,.int 0 0] }) rfl
  have a2:=At.hid (F:=F.plus _) a1 (o:={ cls := .type "enumerate", data := .fields #[.none,.bool false,.ref s2.heap.objs.size,rawInt 0,.none,.none] }) rfl
  rw [show (s2.heap.push { cls := .type "bytes_iterator", data := .fields #[.bytes b.toArray t,.int 0 0] }).objs.size=s2.heap.objs.size+1 from Heap.size_push ..] at a2
  have a3:At (F.plus [(s2.heap.objs.size+1,Is _),(s2.heap.objs.size,Is _)]) mp hp2 w2 _:=a2
  have hne:=Nat.succ_ne_self s2.heap.objs.size
  refine lf (wpAny_pyIter_enum hE (k (l3) (l2.trans l4) (nt_enum hne hi hk hj hl) trivial ⟨R2.sc,R2.names,R2.dp,a3.turn2 (P':=EnIt s2.heap.objs.size 0) (P2':=ByIt b.toArray t 0) hne (fun c o x y z=>z) hE (Heap.get?_push_of_some _ (Heap.get?_push_size _ rfl)) ⟨_,rfl⟩ ⟨rfl,rfl⟩,R2.lr,R2.glob⟩ q))
end Mine.C
namespace Mine.C
noncomputable def asItems (v:V) (k:List V->Prop):Prop:=v.casesOn (fun x=>asT (.d x) fun xs=>k (xs.map .d)) (fun a b=>k [a,b]) (fun a=>False) (fun a b=>False) (fun a=>False) (fun a=>False) (fun a=>False)
theorem asItems_on {S:Sx} {w:Wd} {v:V} {c:Value} {k:List V->Prop} {P:Prop} (h:asItems v k) (r:Rel S w v c) (f:∀ vs a cvs n dd sl,k vs->c = .ref a->w.fz a=some ⟨.type "tuple", dd,.seq cvs.toArray n,sl⟩->All2 (Rel S w) vs cvs->P):P:=by
 cases v with
 | d x=>exact asT_on (v := .d x) (R:=fun v=>Rel S w v c) h r fun xs h r=>by rcases (show IsTup .. from r) with ⟨e,q⟩;exact f _ _ _ _ _ _ h rfl e (All2.map (RelDs.eq.mp q))
 | pair a b=>cases (show IsTup .. from r) with | mk e q=>exact f _ _ _ _ _ _ h rfl e q
 | _=>exact h.elim
noncomputable def setAll (is:List Nat):List V->Loc->Loc:=is.rec (fun vs l=>l) fun i r ih vs l=>vs.casesOn l fun v t=>ih t (l.set i (some v))
noncomputable def chkNs (cx:Cx) (is:List Nat):List PySem.Expr->Bool:=is.rec (fun l=>l.isEmpty) fun i r ih l=>l.casesOn false fun x t=>(onName x fun n q=>nmChk cx i .local n)&&ih t
abbrev Nq:=Nat×Str×Pos
noncomputable def Nq.e (q:Nq):PySem.Expr := .Name q.2.1 q.2.2
theorem chkNs_on {cx:Cx} {is:List Nat}:∀ {ts:List PySem.Expr},chkNs cx is ts=true->∃ qs:List Nq,is=qs.map (·.1)/\ts=qs.map Nq.e/\∀ q∈qs,cx.names[q.1]?=some q.2.1/\cx.sc.names.lookup q.2.1=some .local:=by
 induction is with
 | nil=>exact fun h=>⟨[],rfl,List.isEmpty_iff.mp h,fun q m=>nomatch m⟩
 | cons i r ih =>
  intro ts h
  cases ts with
  | nil=>exact no h
  | cons x t =>
   have h1:=Bool.and_eq_true_iff.mp h
   obtain ⟨n,p,rfl,h2⟩:=nmAt h1.1
   obtain ⟨qs,rfl,rfl,h3⟩:=ih h1.2
   exact ⟨(i,n,p)::qs,rfl,rfl,List.forall_mem_cons.mpr ⟨h2,h3⟩⟩
theorem each_eq {env:Env} {qs:List Nq}:assignEach (qs.map Nq.e) env=qs.map fun q=>(false,assign q.e env):=by
 induction qs with
 | nil=>rfl
 | cons q r ih=>exact congrArg (List.cons (false,assign q.e env)) ih
section
variable {S:Sx} {cx:Cx} {F:Fx S} {d:Nat} {hp:Hp} {w:Wd} {P:Shared->Prop} {E:Value->Shared->Prop}
theorem bind_ok {f:Nq->Value->Sem Unit} (hf:∀ q v P E s,PySem.wpAny (model S.prog S.w) F.A (storeName F.env q.2.1 v) P E s->PySem.wpAny (model S.prog S.w) F.A (f q v) P E s) {qs:List Nq}:∀ {vs:List V} {cvs:List Value} {loc:Loc} {mp:Mp} {s:Shared},vs.length=qs.length ->
  (∀ q∈qs,cx.names[q.1]?=some q.2.1/\cx.sc.names.lookup q.2.1=some .local)->Rd cx F d loc mp hp w s->All2 (Rel S w) vs cvs->(∀ mp' s',LocRel F w (setAll (qs.map (·.1)) vs loc) mp'->At F mp' hp w s'->P s') ->
  PySem.wpAny (model S.prog S.w) F.A (assignInOrder (qs.map f) cvs) (fun u s'=>P s') E s:=by
 induction qs with
 | nil =>
  intro vs cvs loc mp s hl hq R rs k
  cases List.length_eq_zero_iff.mp hl
  cases (show cvs=[] from rs)
  exact PySem.wpAny_pure (k mp s R.lr R.at_)
 | cons q r ih =>
  intro vs cvs loc mp s hl hq R rs k
  cases vs with
  | nil=>exact nomatch hl
  | cons v vs =>
  cases (show IsCons .. from rs) with | @mk c cs r1 r2 =>
  have h1:=List.forall_mem_cons.mp hq
  show PySem.wpAny _ _ (do holding cs (f q c);assignInOrder (r.map f) cs) _ _ _
  exact PySem.wpAny_bind (PySem.wpAny_holding (hf q c _ _ _ (store_ok h1.1.1 h1.1.2 R r1 fun mp' s' lr a=>ih (Nat.succ.inj hl) h1.2 (R.at lr a) r2 k)))
end
noncomputable def notTup (x:PySem.Expr):Bool := !onTup x fun a b c=>true
noncomputable def notCst (x:PySem.Expr):Bool:=onTup x fun a b c => !a.all (constantsAlone 8)
theorem noStores {ts:List PySem.Expr} {k:Nat} {p:Pos} {value:PySem.Expr} {env:Env} (h:notTup value=true):swappedStores [.Tuple ts k p] value env=pure none:=by
 cases value<;>first | rfl | exact no h
theorem fm_eq {α β:Type} {f:α->Option β} {g:α->β} {l:List α} (h:∀ a∈l,f a=some (g a)):l.filterMap f=l.map g:=by
 induction l with
 | nil=>rfl
 | cons a l ih=>rw [List.filterMap_cons_some (h a (.head _)),ih fun a m=>h a (.tail _ m)];rfl
theorem filt_names {P:Str->Pos->Bool} {qs:List Nq} (h:((qs.map Nq.e).filterMap fun
  | .Name id pos=>if P id pos=true then some id else none
  | _=>none).length=(qs.map Nq.e).length):((qs.map Nq.e).filterMap fun
  | .Name id pos=>if P id pos=true then some id else none
  | _=>none)=qs.map (·.2.1):=by
 have h2:=List.filterMap_length_eq_length.mp h
 rw [List.filterMap_map]
 refine fm_eq fun q m=>?_
 have h3:=h2 _ (List.mem_map_of_mem m)
 by_cases c:P q.2.1 q.2.2=true
 ·exact if_pos c
 ·have e:(if P q.2.1 q.2.2=true then some q.2.1 else none)=none:=if_neg c
  have h4:(if P q.2.1 q.2.2=true then some q.2.1 else none).isSome=true:=h3
  rw [e] at h4
  exact no h4
theorem iteP {α:Type} {c:Prop} [Decidable c] {a b:α} {P:α->Prop} (h1:P a) (h2:¬c->P b):P (if c then a else b):=by
 by_cases h:c
 ·rw [if_pos h];exact h1
 ·rw [if_neg h];exact h2 h
theorem someStores {qs:List Nq} {k:Nat} {p:Pos} {value:PySem.Expr} {env:Env} (h:notCst value=true) :
  swappedStores [.Tuple (qs.map Nq.e) k p] value env=pure none\/swappedStores [.Tuple (qs.map Nq.e) k p] value env=pure (some (qs.map (·.2.1))):=by
 obtain ⟨vs,k',p',rfl,hv⟩:=onTup_elim (P:=fun x=>∃ a b c,x = .Tuple a b c/\(!a.all (constantsAlone 8))=true) h fun a b c h=>⟨a,b,c,rfl,h⟩
 unfold swappedStores
 refine iteP (P:=fun m=>m=pure none\/m=pure (some (qs.map (·.2.1)))) (.inl rfl) fun h1=>iteP (P:=fun m=>m=pure none\/m=pure (some (qs.map (·.2.1)))) (.inl rfl) fun h2=>iteP (P:=fun m=>m=pure none\/m=pure (some (qs.map (·.2.1)))) (.inl rfl) fun h3=>iteP (P:=fun m=>m=pure none\/m=pure (some (qs.map (·.2.1)))) (.inl rfl) fun h4=>?_
 have hv':vs.all (constantsAlone 8)=false:=Bool.not_eq_true' _ |>.mp hv
 rw [hv']
 refine .inr (congrArg (fun l=>(pure (some l):Sem (Option (List Str)))) (filt_names ?_))
 rw [Bool.or_eq_true,not_or,bne_iff_ne,ne_eq,Decidable.not_not] at h3
 exact h3.1
section
variable {S:Sx} {cx:Cx} {F:Fx S} {d:Nat} {loc:Loc} {mp:Mp} {hp:Hp} {w:Wd} {s:Shared} {P:Shared->Prop} {E:Value->Shared->Prop}
theorem items_ok {v:V} {cv:Value} {n:Nat} {k:List V->Prop} {R:List Value->Shared->Prop} (h:asItems v fun vs=>vs.length=n/\k vs) (r:Rel S w v cv) (ha:At F mp hp w s) (f:∀ vs cvs s',vs.length=n->k vs->All2 (Rel S w) vs cvs->At F mp hp w s'->R cvs s') :
  PySem.wpAny (model S.prog S.w) F.A (unpackItems cv n none) R E s :=
 asItems_on h r fun vs a cvs m dd sl q e ea rs=>by
  subst e
  rw [<- q.1,<- All2.length rs]
  exact unpackItems_tuple (items:=cvs.toArray) F.handled ⟨_,ha.get ea,rfl,m,rfl⟩ fun h' he=>f vs cvs _ q.1 q.2 rs (ha.ext fun b o q=>he b o (Nat.ne_of_lt (Heap.lt_size q)) q)
theorem unpack_ok {qs:List Nq} {k:Nat} {p:Pos} {v:V} {cv:Value} {G:Loc->Prop} (hq:∀ q∈qs,cx.names[q.1]?=some q.2.1/\cx.sc.names.lookup q.2.1=some .local) (R:Rd cx F d loc mp hp w s) (r:Rel S w v cv) (h:asItems v fun vs=>vs.length=qs.length/\G (setAll (qs.map (·.1)) vs loc))
  (f:∀ loc' mp' s',LocRel F w loc' mp'->At F mp' hp w s'->G loc'->P s'):PySem.wpAny (model S.prog S.w) F.A (assign (.Tuple (qs.map Nq.e) k p) F.env cv) (fun u s'=>P s') E s:=by
 show PySem.wpAny _ _ (do standAt p;unpack cv (assignEach (qs.map Nq.e) F.env)) _ _ _
 refine PySem.wpAny_bind (PySem.wpAny_standAt ?_)
 unfold unpack
 refine PySem.wpAny_bind (PySem.wpAny_holding ?_)
 have e0:(qs.map fun q=>(false,assign q.e F.env)).findIdx? (·.1)=none:=by rw [List.findIdx?_map];exact List.findIdx?_eq_none_iff.mpr fun x m=>rfl
 rw [each_eq,e0,List.length_map,List.map_map]
 exact items_ok h r R.at_ fun vs cvs s' hl hk rs a=>bind_ok (f:=fun q=>assign q.e F.env) (fun q v P E s h=>PySem.wpAny_assign_Name h) hl hq (R.at R.lr a) rs fun mp2 s2 lr a2=>f _ _ _ lr a2 hk
end
theorem len_two {α:Type} {l:List α} (h:l.length=2):∃ a b,l=[a,b]:=by
 cases l with
 | nil=>exact nomatch h
 | cons a l=>exact (List.length_eq_one_iff.mp (Nat.succ.inj h)).elim fun b e=>⟨a,b,congrArg (List.cons a) e⟩
theorem setAll_two {is:List Nat} {vs:List V} {loc:Loc} (h:is.length=2) (k:vs.length=2) (hn:is.Nodup):setAll is.reverse vs.reverse loc=setAll is vs loc:=by
 obtain ⟨a,b,rfl⟩:=len_two h
 obtain ⟨u,v,rfl⟩:=len_two k
 exact List.set_comm (l:=loc) (some v) (some u) fun e=>(List.nodup_cons.mp hn).1 (List.mem_singleton.mpr e.symm)
noncomputable def unpackS (is:List Nat) (e:Ex):Stx where
 chk cx st:=onAsg st fun ts x p=>notComp x&&e.chk cx x&&ts.casesOn false fun t r=>r.isEmpty&&onTup t (fun ns k q=>chkNs cx is ns)&&(notTup x||(notCst x&&decide (is.length=2)&&decide is.Nodup))
 W d C loc hp K X:=e.W d C loc hp (fun v hp=>asItems v fun vs=>vs.length=is.length/\K.next (setAll is vs loc) hp) X
 ok S cx st h:=onAsg_elim h fun ts x p h=>by
  intro F d loc mp hp w s K X R hd hw
  have h1:=Bool.and_eq_true_iff.mp h
  have h2:=Bool.and_eq_true_iff.mp h1.1
  cases ts with
  | nil=>exact no h1.2
  | cons t r =>
  have h3:=Bool.and_eq_true_iff.mp h1.2
  have h4:=Bool.and_eq_true_iff.mp h3.1
  cases List.isEmpty_iff.mp h4.1
  obtain ⟨ns,k,q,rfl,h5⟩:=onTup_elim (P:=fun t=>∃ ns k q,t = .Tuple ns k q/\chkNs cx is ns=true) h4.2 fun a b c h=>⟨a,b,c,rfl,h⟩
  obtain ⟨qs,rfl,rfl,hq⟩:=chkNs_on h5
  have hs:swapsWithSole [.Tuple (qs.map Nq.e) k q] x p.line F.env=pure false:=by show swapsWith x (some (.Tuple (qs.map Nq.e) k q)) p.line F.env=pure false;exact noSwap h2.1
  have first (e':swappedStores [.Tuple (qs.map Nq.e) k q] x F.env=pure none):wpAny (model S.prog S.w) F.A (exec (.Assign [.Tuple (qs.map Nq.e) k q] x p) F.env) (PostS F w K) (PostX F w X) s :=
   Assign_Tuple (e.on h2.2 R hw (.refl _) fun {w1 v cv hp1 s1} l1 _ r1 R1 q1=>lf (unpack_ok (G:=fun l=>K.next l hp1) hq R1 r1 (by rw [List.length_map] at q1;exact q1) fun loc' mp' s' lr a q => .next l1 lr a q)) hs e'
  cases Bool.or_eq_true_iff.mp h3.2 with
  | inl h6=>exact first (noStores h6)
  | inr h6 =>
   have h7:=Bool.and_eq_true_iff.mp h6
   have h8:=Bool.and_eq_true_iff.mp h7.1
   cases someStores (k:=k) (p:=q) (env:=F.env) h8.1 with
   | inl e'=>exact first e'
   | inr e' =>
    refine Assign_Tuple_swapped (e.on h2.2 R hw (.refl _) fun {w1 v cv hp1 s1} l1 _ r1 R1 q1=>?_) hs e'
    rw [List.length_map] at q1
    rw [List.length_map]
    refine lf (items_ok q1 r1 R1.at_ fun vs cvs s' hl hk rs a=>?_)
    have h9:=of_decide_eq_true h8.2
    rw [List.length_map] at h9
    have hz:=of_decide_eq_true h7.2
    rw [<- List.map_reverse,List.map_map,]
    refine lf (bind_ok (f:=fun q=>bindName F.env q.2.1) (qs:=qs.reverse) (fun q v P E s h=>PySem.wpAny_bindName h) (by rw [List.length_reverse,List.length_reverse];exact hl) (fun q m=>hq q (List.mem_reverse.mp m)) (R1.at R1.lr a) rs.rev fun mp2 s2 lr a2 => .next l1 lr a2 ?_)
    rw [List.map_reverse,setAll_two (by rw [List.length_map];exact h9) (hl.trans h9) hz]
    exact hk
end Mine.C
namespace Mine.C
section
variable {α β γ:Type} [DecidableEq α] [DecidableEq β]
noncomputable def has (fs:List (α×γ)) (k:α):Bool:=fs.any fun f=>decide (f.1=k)
noncomputable def subst (fs:List (α×γ)) (k:α) (v:γ):List (α×γ):=fs.map fun f=>if f.1=k then (f.1,v) else f
noncomputable def sto (fs:List (α×γ)) (k:α) (v:γ):List (α×γ):=cond (has fs k) (subst fs k v) (fs++[(k,v)])
theorem has_rel {g:α->β} (hg:∀ a b,g a=g b->a=b) {R:γ->Value->Prop} {k:α} {v:γ} {cv:Value} (rv:R v cv) {fs:List (α×γ)}:∀ {kvs:List (β×Value)},All2 (PairR g R) fs kvs->has kvs (g k)=has fs k/\All2 (PairR g R) (subst fs k v) (subst kvs (g k) cv):=by
 induction fs with
 | nil=>intro kvs e;cases e;exact ⟨rfl,rfl⟩
 | cons p r ih =>
  intro kvs e
  cases (show IsCons .. from e) with | @mk q t e1 e2 =>
  have hq:q.1=g p.1:=e1.1
  obtain ⟨i1,i2⟩:=ih e2
  have hd:decide (q.1=g k)=decide (p.1=k):=by
   rw [hq];exact decide_eq_decide.mpr ⟨hg _ _,congrArg g⟩
  refine ⟨?_,IsCons.mk ?_ i2⟩
  ·show (decide (q.1=g k)||has t (g k))=(decide (p.1=k)||has r k)
   rw [hd,i1]
  ·show PairR g R (if p.1=k then (p.1,v) else p) (if q.1=g k then (q.1,cv) else q)
   by_cases h:p.1=k
   ·rw [if_pos h,if_pos (hq.trans (congrArg g h))];exact ⟨hq,rv⟩
   ·rw [if_neg h,if_neg fun z=>h (hg _ _ (hq.symm.trans z))];exact e1
theorem sto_rel {g:α->β} (hg:∀ a b,g a=g b->a=b) {R:γ->Value->Prop} {k:α} {v:γ} {cv:Value} (rv:R v cv) {fs:List (α×γ)} {kvs:List (β×Value)} (h:All2 (PairR g R) fs kvs):All2 (PairR g R) (sto fs k v) (stored kvs (g k) cv):=by
 obtain ⟨h1,h2⟩:=has_rel hg rv (k:=k) h
 show All2 _ (cond (has fs k) (subst fs k v) (fs++[(k,v)])) (if has kvs (g k)=true then subst kvs (g k) cv else kvs++[(g k,cv)])
 rw [h1]
 cases has fs k with
 | true=>rw [if_pos rfl];exact h2
 | false=>rw [if_neg Bool.false_ne_true];exact All2.app (l':=[(k,v)]) (r':=[(g k,cv)]) (IsCons.mk (Rs:=All2 (PairR g R) []) ⟨rfl,rv⟩ rfl) h
end
noncomputable def setD (o k v:V) (hp:Hp) (K:Hp->Prop):Prop:=asRef o fun p=>atS hp p fun fs=>asS k fun n=>fs.length<=1000/\K (hp.set p (.sdict (sto fs n v)))
noncomputable def setM (o k v:V) (hp:Hp) (K:Hp->Prop):Prop:=asRef o fun p=>atI hp p fun fs=>asI k fun n=>asD v fun x=>fs.length<=1000/\K (hp.set p (.idict (sto fs n x)))
section
variable {S:Sx} {F:Fx S} {mp:Mp} {hp:Hp} {w:Wd} {s:Shared} {E:Value->Shared->Prop} {o k v:V} {co ck cv:Value} {K:Hp->Prop} {P:Unit->Shared->Prop}
theorem setD_ok (h:setD o k v hp K) (ha:At F mp hp w s) (ro:Rel S w o co) (rk:Rel S w k ck) (rv:Rel S w v cv) (f:∀ hp' s',At F mp hp' w s'->K hp'->P () s'):PySem.wpAny (model S.prog S.w) F.A (setItem co ck cv) P E s :=
 asRef_on (R:=fun v=>Rel S w v co) h ro fun p h ro=>atS_on h fun fs e h=>asS_of h rk fun n t h=>by
  cases At.ref ha e ro with | mk g1 g2 g3 =>
  cases (show IsDi .. from g3) with | @mk kvs ob g4 g5 =>
  exact wpAny_setItem_pairs (k:=nm n) (strKind_is _ _ _ _) (Heap.dictOf_iff.mpr ⟨_,g2,g4⟩) (fun h' hD hS=>by
   obtain ⟨o',ho',hd'⟩:=Heap.dictOf_iff.mp hD
   exact f _ _ (ha.put (y := .sdict (sto fs n v)) e g1 hS.extBut ho' (IsDi.mk hd' (sto_rel (R:=Rel S w) (fun a b=>nm_inj) rv g5))) h.2) (by rw [g5.length];exact Nat.le_trans h.1 (by decide))
theorem setM_ok (h:setM o k v hp K) (ha:At F mp hp w s) (ro:Rel S w o co) (rk:Rel S w k ck) (rv:Rel S w v cv) (f:∀ hp' s',At F mp hp' w s'->K hp'->P () s'):PySem.wpAny (model S.prog S.w) F.A (setItem co ck cv) P E s :=
 asRef_on (R:=fun v=>Rel S w v co) h ro fun p h ro=>atI_on h fun fs e h=>asI_of h rk fun n t h=>asD_on (R:=fun v=>Rel S w v cv) h rv fun x h rv=>by
  cases At.ref ha e ro with | mk g1 g2 g3 =>
  cases (show IsDi .. from g3) with | @mk kvs ob g4 g5 =>
  exact wpAny_setItem_pairs (k:=n) (intKind_is _ _ _ _) (Heap.dictOf_iff.mpr ⟨_,g2,g4⟩) (fun h' hD hS=>by
   obtain ⟨o',ho',hd'⟩:=Heap.dictOf_iff.mp hD
   exact f _ _ (ha.put (y := .idict (sto fs n x)) e g1 hS.extBut ho' (IsDi.mk hd' (sto_rel (g:=id) (R:=RelD S w.fz) idInj (show RelD S w.fz x cv from rv) g5))) h.2) (by rw [g5.length];exact Nat.le_trans h.1 (by decide))
end
noncomputable def itmS (W:V->V->V->Hp->(Hp->Prop)->Prop) (ok:∀ {S:Sx} {F:Fx S} {mp:Mp} {hp:Hp} {w:Wd} {s:Shared} {E:Value->Shared->Prop} {o k v:V} {co ck cv:Value} {K:Hp->Prop} {P:Unit->Shared->Prop},W o k v hp K->At F mp hp w s->Rel S w o co->Rel S w k ck->Rel S w v cv->(∀ hp' s',At F mp hp' w s'->K hp'->P () s')->PySem.wpAny (model S.prog S.w) F.A (setItem co ck cv) P E s) (o k e:Ex):Stx where
 chk cx st:=onAsg st fun ts x p=>notComp x&&e.chk cx x&&ts.casesOn false fun t r=>r.isEmpty&&onSub t fun u v q=>o.chk cx u&&k.chk cx v
 W d C loc hp K X:=e.W d C loc hp (fun v hp=>o.W d C loc hp (fun ov hp=>k.W d C loc hp (fun kv hp=>W ov kv v hp fun hp=>K.next loc hp) X) X) X
 ok S cx st h:=onAsg_elim h fun ts x p h=>by
  intro F d loc mp hp w s K X R hd hw
  have h1:=Bool.and_eq_true_iff.mp h
  have h2:=Bool.and_eq_true_iff.mp h1.1
  cases ts with
  | nil=>exact no h1.2
  | cons t r =>
  have h3:=Bool.and_eq_true_iff.mp h1.2
  cases List.isEmpty_iff.mp h3.1
  refine onSub_elim (P:=fun t=>wpAny (model S.prog S.w) F.A (exec (.Assign [t] x p) F.env) (PostS F w K) (PostX F w X) s) h3.2 fun u v q h=>?_
  have h4:=Bool.and_eq_true_iff.mp h
  exact wpAny_Assign_Subscript (e.on h2.2 R hw (.refl _) fun l1 _ r1 R1 q1=>o.on h4.1 R1 q1 l1 fun l2 l3 r2 R2 q2=>k.on h4.2 R2 q2 l2 fun l4 l5 r3 R3 q3=>lf (ok q3 R3.at_ (r2.mono l5) r3 (r1.mono (l3.trans l5)) fun hp' s' a q => .next l4 R3.lr a q)) (noSwap h2.1)
theorem cellData {S:Sx} {w:Wd} {v:Option V} {o:Obj} (h:ORel S w (.cell v) o):∃ w0,o.data = .cell w0:=by
 cases v with
 | none=>exact ⟨_,h⟩
 | some v=>exact Exists.elim h fun cv q=>⟨_,q.1⟩
noncomputable def cellS (i:Nat) (e:Ex):Stx where
 chk cx st:=onAsg st fun ts x p=>notComp x&&e.chk cx x&&ts.casesOn false fun t r=>r.isEmpty&&onName t fun n q=>nmChk cx i .cell n
 W d C loc hp K X:=e.W d C loc hp (fun v hp=>optL loc i fun c=>asRef c fun p=>atC hp p fun o=>K.next loc (hp.set p (.cell (some v)))) X
 ok S cx st h:=onAsg_elim h fun ts x p h=>by
  intro F d loc mp hp w s K X R hd hw
  have h1:=Bool.and_eq_true_iff.mp h
  have h2:=Bool.and_eq_true_iff.mp h1.1
  cases ts with
  | nil=>exact no h1.2
  | cons t r =>
  have h3:=Bool.and_eq_true_iff.mp h1.2
  cases List.isEmpty_iff.mp h3.1
  refine onName_elim (P:=fun t=>wpAny (model S.prog S.w) F.A (exec (.Assign [t] x p) F.env) (PostS F w K) (PostX F w X) s) h3.2 fun n q h=>?_
  obtain ⟨k1,k2,k3⟩:=nmChk_on h
  refine wpAny_Assign_Name (e.on h2.2 R hw (.refl _) fun {w1 v cv hp1 s1} l1 _ r1 R1 q1=>?_) (noSwap h2.1)
  obtain ⟨c,e1,q1⟩:=optL_on q1
  obtain ⟨y,hy,r⟩:=R1.lr i c e1
  rw [R1.names,k2] at hy
  cases hy
  have hk:=R1.kind k3
  rcases r with ⟨q,_⟩ | ⟨_,a,hm,r⟩
  ·rw [hk] at q;exact nomatch q
  ·refine asRef_on (R:=fun v=>Rel S w1 v (.ref a)) q1 r fun j q1 r=>atC_on q1 fun o e q1=>?_
   cases At.ref R1.at_ e r with | mk g1 g2 g3 =>
   obtain ⟨w0,hd0⟩:=cellData g3
   refine lf (wpAny_storeName_cell F.kind hk hm ⟨_,g2,hd0⟩ fun h' hv hs=>?_)
   obtain ⟨o',ho',hd'⟩:=hv
   exact .next l1 R1.lr (R1.at_.put (y := .cell (some v)) e g1 hs.extBut ho' (Exists.intro cv ⟨hd',r1⟩)) q1
end Mine.C
namespace Mine
section
variable {S:Sx}
theorem At.frame {F F':Fx S} {mp:Mp} {hp:Hp} {w:Wd} {s:Shared} (h:At F mp hp w s) (hL:F'.L=F.L) (pm:F.hid.Perm F'.hid):At F' mp hp w s :=
 ⟨⟨h.len.len,((pm.map (·.1)).append_right _).nodup_iff.mp h.nd,h.len.dd⟩,h.inv.elim fun news i=>⟨news,by rw [hL];exact i.sub (fun p m=>(pm.append_right _).mem_iff.mpr m) (((pm.append_right _).map (·.1)).nodup_iff.mp i.cnd)⟩⟩
noncomputable def Fx.comp (F:Fx S) (env':Env) (o:Obj) (names':List Str) (h1:env'.globals=mainGlobals) (h2:env'.builtins=builtinsNs) (h3:env'.scope.kind = .function) (h4:names'.Nodup) (h5:∀ vs,o.data ≠ .fields vs):Fx S :=
 { A:=F.A,env:=env',fr:=F.fr,hid:=(F.L,Spc o)::F.hid,L:=env'.locals,names:=names',d:=F.d,stack:=F.stack,loc:=rfl,glob:=h1,bi:=h2,kind:=h3,nodup:=h4,frs:=fun e he=>⟨(F.frs e he).1,.inr ((F.frs e he).2.elim (fun q=>⟨_,o,.head _,q,h5⟩) fun q=>q.imp fun a q=>q.imp fun b q=>⟨.tail _ q.1,q.2⟩)⟩,handled:=F.handled,guards:=F.guards,room:=F.room,units:=F.units }
end
end Mine
namespace Mine.C
noncomputable def frees (scope:Scope):List Str:=(scope.names.filter fun x=>x.2 == .free).map (·.1)
noncomputable def relabS (scope sc:Scope):Scope :=
 { scope with names:=scope.names.map fun p=>if (p.2 == .free&&sc.kind == .function&&sc.names.lookup p.1==some .cell) then (p.1,.cell) else p }
section
variable {env:Env} {cl:Str->Addr}
theorem clos_go {names:List (Str×NameKind)}:∀ {acc:List (Str×Addr)},(∀ x∈names,x.2 = .free->env.cells.lookup x.1=some (cl x.1)) ->
  (forIn names acc (fun x r=>if (x.2==NameKind.free)=true then do let a <- cellOf env x.1;pure (ForInStep.yield ((x.1,a)::r)) else pure (ForInStep.yield r)):Sem (List (Str×Addr)))=pure (((names.filter fun x=>x.2 == .free).map fun x=>(x.1,cl x.1)).reverse++acc):=by
 induction names with
 | nil=>exact fun h=>rfl
 | cons x r ih =>
  intro acc h
  have h1:=List.forall_mem_cons.mp h
  rw [List.forIn_cons]
  cases hk:x.2==NameKind.free with
  | false =>
   rw [if_neg Bool.false_ne_true,List.filter_cons_of_neg (p:=fun x:Str×NameKind=>x.2 == .free) (fun e=>Bool.false_ne_true (hk.symm.trans e))]
   exact (pure_bind ..).trans (ih h1.2)
  | true =>
   have e1:cellOf env x.1=pure (cl x.1):=by unfold cellOf;rw [h1.1 (beq_iff_eq.mp hk)]
   rw [if_pos rfl,e1,List.filter_cons_of_pos (p:=fun x:Str×NameKind=>x.2 == .free) hk,List.map_cons,List.reverse_cons,List.append_assoc]
   exact (pure_bind ..).trans (ih h1.2)
theorem clos_for {scope:Scope} (h:∀ y∈frees scope,env.cells.lookup y=some (cl y)):closureFor scope env=pure ((frees scope).map fun y=>(y,cl y)).reverse:=by
 have:=clos_go (acc:=[]) (names:=scope.names) fun x m e=>h x.1 (List.mem_map.mpr ⟨x,List.mem_filter.mpr ⟨m,beq_iff_eq.mpr e⟩,rfl⟩)
 rw [List.append_nil] at this
 unfold closureFor frees
 rw [List.map_map]
 exact (bind_pure _).trans this
theorem clos_at {y:Str} {l:List Str} (h:y∈l):(l.map fun y=>(y,cl y)).lookup y=some (cl y):=by
 induction l with
 | nil=>exact nomatch h
 | cons z r ih =>
  rw [List.map_cons,List.lookup_cons]
  cases q:y==z with
  | true=>cases beq_iff_eq.mp q;rfl
  | false=>exact ih ((List.mem_cons.mp h).resolve_left fun e=>Bool.false_ne_true (q.symm.trans (beq_iff_eq.mpr e)))
theorem relab_free {sc:Scope} {y:Str} (hk:sc.kind = .function) (hc:sc.names.lookup y=some .cell) {names:List (Str×NameKind)}:names.lookup y=some .free ->
  (names.map fun p=>if (p.2 == .free&&sc.kind == .function&&sc.names.lookup p.1==some .cell) then (p.1,NameKind.cell) else p).lookup y=some .cell:=by
 induction names with
 | nil=>exact fun h=>nomatch h
 | cons p r ih =>
  intro h
  rw [List.lookup_cons] at h
  rw [List.map_cons]
  cases q:y==p.1 with
  | false =>
   rw [q] at h
   refine iteP (P:=fun t=>List.lookup y (t::_)=some NameKind.cell) ?_ fun z=>?_
   ·rw [List.lookup_cons,q];exact ih h
   ·rw [List.lookup_cons,q];exact ih h
  | true =>
   rw [q] at h
   have e2:p.2 = .free:=Option.some.inj h
   have e1:=beq_iff_eq.mp q
   rw [if_pos (by rw [e2,hk,<- e1,hc];rfl),List.lookup_cons,q]
end
def CompOk (cx:Cx) (fs:List Nat) (x:Str) (scope:Scope):Prop:=scope.kind = .function/\(∀ y∈scope.names,y.2 ≠ .cell/\(y.2 = .local->scope.names.lookup y.1=some .local))/\scope.names.lookup x=some .local/\(frees scope).map some=(fs.map fun j=>cx.names[j]?)/\(∀ y∈frees scope,cx.sc.names.lookup y=some .cell/\scope.names.lookup y=some .free)/\(x::frees scope).Nodup
noncomputable instance {cx:Cx} {fs:List Nat} {x:Str} {scope:Scope}:Decidable (CompOk cx fs x scope):=inferInstanceAs (Decidable (_/\_/\_/\_/\_/\_))
noncomputable def outer (loc:Loc) (fs:List Nat):Loc:=fs.map fun j=>loc.getD j none
section
variable {S:Sx} {cx:Cx} {F:Fx S} {d:Nat} {loc:Loc} {mp:Mp} {hp:Hp} {w:Wd} {s:Shared}
theorem cell_at {fs:List Nat} {x:Str} {scope:Scope} (K:CompOk cx fs x scope) (R:Rd cx F d loc mp hp w s) (h:(fs.all fun j=>(loc.getD j none).isSome)=true) {k:Nat} {y:Str} (hy:(frees scope)[k]?=some y) :
  ∃ j v c,fs[k]?=some j/\loc.getD j none=some v/\F.env.cells.lookup y=some c/\Rel S w v (.ref c):=by
 have e1:((frees scope).map some)[k]?=some (some y):=by rw [List.getElem?_map,hy];rfl
 rw [K.2.2.2.1,List.getElem?_map] at e1
 obtain ⟨j,hj,e2⟩:=Option.map_eq_some_iff.mp e1
 obtain ⟨v,hv⟩:=Option.isSome_iff_exists.mp (List.all_eq_true.mp h j (List.mem_of_getElem? hj))
 have hv':=hv
 rw [List.getD_eq_getElem?_getD] at hv'
 have hl:loc[j]?=some (some v):=by
  cases q:loc[j]? with
  | none=>rw [q] at hv';exact nomatch hv'
  | some o=>rw [q] at hv';exact congrArg some hv'
 obtain ⟨z,hz,r⟩:=R.lr j v hl
 rw [R.names,e2] at hz
 cases hz
 have hk:=R.kind (K.2.2.2.2.1 y (List.mem_of_getElem? hy)).1
 rcases r with ⟨q,_⟩ | ⟨_,c,q1,q2⟩
 ·rw [hk] at q;exact nomatch q
 ·exact ⟨j,v,c,hj,hv,q1,q2⟩
end
end Mine.C
namespace Mine.C
noncomputable def testG (cond:Option Tx) (d:Nat) (C:CallP) (loc:Loc) (hp:Hp) (k:Bool->Hp->Prop):Prop:=cond.casesOn (k true hp) fun t=>t.W d C loc hp k fun b=>False
noncomputable def compG (cond:Option Tx) (elt:Ex) (out:Loc) (d:Nat) (C:CallP) (st:Hp->Prop) (Q:V->Hp->Prop) (xs:List D):List D->Hp->Prop :=
 xs.rec (fun acc hp=>Q (.ref hp.length) (hp++[.list acc])) fun x r ih acc hp=>testG cond d C (some (.d x)::out) hp fun b hp=>b.casesOn (st hp/\ih acc hp) (elt.W d C (some (.d x)::out) hp (fun v hp=>asD v fun y=>st hp/\ih (acc++[y]) hp) fun b=>False)
theorem compG_cons {cond:Option Tx} {elt:Ex} {out:Loc} {d:Nat} {C:CallP} {st:Hp->Prop} {Q:V->Hp->Prop} {x:D} {r acc:List D} {hp:Hp}:compG cond elt out d C st Q (x::r) acc hp =
 testG cond d C (some (.d x)::out) hp fun b hp=>b.casesOn (st hp/\compG cond elt out d C st Q r acc hp) (elt.W d C (some (.d x)::out) hp (fun v hp=>asD v fun y=>st hp/\compG cond elt out d C st Q r (acc++[y]) hp) fun b=>False):=rfl
theorem mapSeq_push {xs:List Value} {n:Nat} {x:Value}:∃ n',Obj.mapSeq (·.push x) (listOf xs.toArray n)=listOf (xs++[x]).toArray n':=by
 rw [<- List.push_toArray];exact ⟨_,rfl⟩
noncomputable def chkT (cx:Cx) (cond:Option Tx) (l:List PySem.Expr):Bool:=cond.casesOn l.isEmpty fun t=>l.casesOn false fun x r=>r.isEmpty&&t.chk cx x
section
variable {S:Sx} {cx:Cx} {F:Fx S} {d:Nat} {loc:Loc} {mp:Mp} {hp:Hp} {w w0 w1:Wd} {s:Shared}
theorem tests_ok {cond:Option Tx} {ifs:List PySem.Expr} {k:Bool->Hp->Prop} {P:Bool->Shared->Prop} {E:Value->Shared->Prop} (h:chkT cx cond ifs=true) (R:Rd cx F d loc mp hp w s) (hw:testG cond d (CallOk S) loc hp k) (f:∀ {w' b hp' s'},w.le w'->Rd cx F d loc mp hp' w' s'->k b hp'->P b s') :
  wpAny (model S.prog S.w) F.A (forIn ifs true fun c r=>if r=true then do let ok <- PySem.isTrue c F.env (eval c F.env);pure (ForInStep.yield ok) else pure (ForInStep.yield r)) P E s:=by
 cases cond with
 | none=>cases List.isEmpty_iff.mp h;exact wpAny_pure (f (.refl _) R hw)
 | some t =>
  cases ifs with
  | nil=>exact no h
  | cons x r =>
   have h1:=Bool.and_eq_true_iff.mp h
   cases List.isEmpty_iff.mp h1.1
   rw [List.forIn_cons,if_pos rfl]
   exact wpAny_bind (wpAny_bind (wpAny_E (t.on h1.2 R hw (.refl _) fun l1 l2 R1 q=>wpAny_pure (wpAny_pure (f l1 R1 q))) fun e s p=>p.rec fun a b c=>c.elim))
theorem append_exact {l:Addr} {xs:Array Value} {n:Nat} {x:Value} {Q:Value->Shared->Prop} {E:Value->Shared->Prop} {A:Around} (ho:s.heap.get? l=some (listOf xs n))
  (hQ:Q .none { s with heap:=s.heap.update l (Obj.mapSeq (·.push x)) }) (hz:xs.size+1<=sizeLine):PySem.wpAny (model S.prog S.w) A (call (.builtin "list.append") [.ref l,x]) Q E s :=
 wpAny_call_entry slot_list_append (Heap.IsList.typeIs ⟨_,ho,rfl,n,rfl⟩) entry_list_append (by
  show PySem.wpAny _ _ (updateSeq l (·.push x) >>= fun u=>ret .none) _ _ s
  exact PySem.wpAny_bind (wpAny_updateSeq ho rfl (PySem.wpAny_pure ⟨.none,rfl,hQ⟩) (Nat.le_of_succ_le hz))) (args_list_append _ _)
theorem comp_ok {x:Str} {px:Pos} {iter el:PySem.Expr} {ifs:List PySem.Expr} {scope:Scope} {pos:Pos} {cond:Option Tx} {elt:Ex} {I D:Addr} {P:Nat->Obj->Prop} {st:Hp->Prop} {xs:List Mine.D} {out:Loc} {Rs:Result->Shared->Prop} {Q:V->Hp->Prop}
  (hx:cx.names[0]?=some x) (hk:cx.sc.names.lookup x=some .local) (hc:chkT cx cond ifs=true) (he:elt.chk cx el=true) (nx:Nx (S:=S) w1 I P st xs)
  (fin:∀ w' mp acc cacc n hp s,w1.le w'->At (F.plus [(D,Is (listOf cacc.toArray n))]) mp hp w' s->All2 (RelD S w'.fz) acc cacc->Q (.ref hp.length) (hp++[.list acc])->Rs (.ok .next) s) (ys:List Mine.D) :
  ∀ (k:Nat) (v0:Option V) (acc:List Mine.D) (cacc:List Value) (n:Nat) (mp:Mp) (hp:Hp) (w':Wd) (s:Shared),xs.drop k=ys->acc.length+ys.length < 1000000->w1.le w'->st hp->Rd cx (F.plus [(I,P k),(D,Is (listOf cacc.toArray n))]) d (v0::out) mp hp w' s->All2 (RelD S w'.fz) acc cacc->compG cond elt out d (CallOk S) st Q ys acc hp ->
   codeAny (model S.prog S.w) F.A (.compLoop (.ListComp el [⟨.Name x px,iter,ifs,0⟩] scope pos) 0 (.ref I) (.ref D) F.env) Rs s:=by
 induction ys with
 | nil =>
  intro k v0 acc cacc n mp hp w' s e hl l hs R rs q
  have e':xs[k]?=none:=List.getElem?_eq_none_iff.mpr (List.drop_eq_nil_iff.mp e)
  refine codeAny_comp (wpAny_mono (lf (nx.next F k _ mp hp w' s _ l hs R.at_)) (fun r s1 hr=>?_) fun a b x=>x) fun v=>rfl
  rw [e'] at hr
  cases hr.1
  exact fin w' mp acc cacc n hp s1 l hr.2 rs q
 | cons y r ih =>
  intro k v0 acc cacc n mp hp w' s e hl l hs R rs q
  obtain ⟨e1,e2⟩:=drop_some e
  refine codeAny_comp (wpAny_mono (lf (nx.next F k _ mp hp w' s _ l hs R.at_)) (fun r s1 hr=>?_) fun a b x=>x) fun v=>rfl
  rw [e1] at hr
  obtain ⟨c,e3,rv,a⟩:=hr
  cases e3
  refine wpAny_assign_Name (lf (store_ok (F:=F.plus [(I,P (k+1)),(D,Is (listOf cacc.toArray n))]) (v := .d y) hx hk ⟨R.sc,R.names,R.dp,a,R.lr,R.glob⟩ rv fun mp1 s2 lr1 a1=>?_))
  have R1:Rd cx (F.plus [(I,P (k+1)),(D,Is (listOf cacc.toArray n))]) d (some (.d y)::out) mp1 hp w' s2:=⟨R.sc,R.names,R.dp,a1,lr1,R.glob⟩
  rw [compG_cons] at q
  refine tests_ok (F:=F.plus [(I,P (k+1)),(D,Is (listOf cacc.toArray n))]) hc R1 q fun {w2 b hp2 s3} l2 R2 q2=>?_
  cases b
  ·exact ih _ _ _ _ _ _ _ _ _ e2 (Nat.lt_of_succ_lt hl) (l.trans l2) q2.1 R2 (rs.imp fun a b=>RelD.mono l2.fz) q2.2
  ·refine wpAny_E (elt.on (F:=F.plus [(I,P (k+1)),(D,Is (listOf cacc.toArray n))]) he R2 q2 (.refl _) fun {w3 v cv hp3 s4} l3 l4 r3 R3 q3=>?_) fun e s p=>p.rec fun a b c=>c.elim
   refine asD_on (R:=fun v=>Rel S w3 v cv) q3 r3 fun z q3 r3=>?_
   have hD:=R3.at_.held (.tail _ (.head _))
   have hlen:=rs.length
   refine lf (append_exact hD ?_ (by rw [List.size_toArray,hlen];exact Nat.le_trans (Nat.succ_le_of_lt (Nat.lt_of_le_of_lt (Nat.le_add_right _ _) hl)) (by decide)))
   obtain ⟨n',hn'⟩:=mapSeq_push (xs:=cacc) (n:=n) (x:=cv)
   have a5:=((R3.at_.perm (.swap _ _ _)).turn (tk:=s4.toks) (P':=Is (listOf (cacc++[cv]).toArray n')) (Heap.SameBut.update _ _ _).extBut (Heap.get?_update_self _ hD rfl) hn').perm (.swap _ _ _)
   exact ih (k+1) (some (.d y)) (acc++[z]) (cacc++[cv]) n' mp1 hp3 w3 _ e2 (by rw [List.length_append,Nat.add_assoc,Nat.add_comm [z].length];exact hl) (l.trans (l2.trans l3)) q3.1 ⟨R3.sc,R3.names,R3.dp,a5,R3.lr,R3.glob⟩ (All2.app (l':=[z]) (r':=[cv]) (IsCons.mk (Rs:=All2 (RelD S w3.fz) []) r3 rfl) (rs.imp fun a b=>RelD.mono (l2.trans l3).fz)) q3.2
end
theorem relab_eq {env:Env} {scope:Scope}:relabel scope env=relabS scope env.scope:=rfl
theorem outer_get {loc:Loc} {fs:List Nat} {k:Nat} {v:V} (h:(outer loc fs)[k]?=some (some v)):k < fs.length:=by
 have:=(List.getElem?_eq_some_iff.mp h).1
 unfold outer at this
 rwa [List.length_map] at this
theorem outer_at {loc:Loc} {fs:List Nat} {k j:Nat} {v v':V} (h:(outer loc fs)[k]?=some (some v)) (hj:fs[k]?=some j) (hv:loc.getD j none=some v'):v=v':=by
 unfold outer at h
 rw [List.getElem?_map,hj] at h
 exact Option.some.inj ((Option.some.inj h).symm.trans hv)
noncomputable def compX (it:Ie) (fs:List Nat) (cond:Option Tx) (elt:Ex):Ex where
 chk cx e:=onComp e fun el gs scope p=>gs.casesOn false fun g r=>r.isEmpty&&decide (g.is_async=0)&&it.chk cx g.iter&&notComp g.iter&&onName g.target fun x q=>decide (CompOk cx fs x scope)&&chkT ⟨x::frees scope,relabS scope cx.sc⟩ cond g.ifs&&elt.chk ⟨x::frees scope,relabS scope cx.sc⟩ el
 W d C loc hp Q X:=(fs.all fun j=>(loc.getD j none).isSome)=true/\it.W d C loc hp (fun st xs hp=>xs.length < 1000000/\compG cond elt (outer loc fs) d C st Q xs [] hp) X
 ok S cx e h:=onComp_elim h fun el gs scope p h=>by
  intro F d loc mp hp w s Q X R hw
  cases gs with
  | nil=>exact no h
  | cons g r =>
  cases g with | mk tg iter ifs asy =>
  have h1:=Bool.and_eq_true_iff.mp h
  have h2:=Bool.and_eq_true_iff.mp h1.1
  have h3:=Bool.and_eq_true_iff.mp h2.1
  have h4:=Bool.and_eq_true_iff.mp h3.1
  cases List.isEmpty_iff.mp h4.1
  cases (show asy=0 from of_decide_eq_true h4.2)
  obtain ⟨x,q0,e1,h5⟩:=onName_elim (P:=fun t=>∃ x q,t = .Name x q/\(decide (CompOk cx fs x scope)&&chkT ⟨x::frees scope,relabS scope cx.sc⟩ cond ifs&&elt.chk ⟨x::frees scope,relabS scope cx.sc⟩ el)=true) h1.2 fun x q h=>⟨x,q,rfl,h⟩
  cases (show tg = .Name x q0 from e1)
  have h6:=Bool.and_eq_true_iff.mp h5
  have h7:=Bool.and_eq_true_iff.mp h6.1
  have K:=of_decide_eq_true h7.1
  obtain ⟨hf,hw⟩:=hw
  rw [eval_ListComp]
  have hcl:∀ y∈frees scope,F.env.cells.lookup y=some ((F.env.cells.lookup y).getD 0):=fun y m=>by
   obtain ⟨k,hk⟩:=List.mem_iff_getElem?.mp m
   obtain ⟨j,v,c,x1,x2,x3,x4⟩:=cell_at K R hf hk
   rw [x3];rfl
  refine wpAny_comprehension_free rfl (noFold h2.2) (clos_for hcl) K.1 (fun y m e=>(K.2.1 y m).2 e) (wpAny_mono (it.ok h3.2 R hw (.refl _) fun {st xs hp1 w1 s1 I P o0} l1 _ nx hP hI hz hs R1 q=>?_) (fun v s h=>lf h) fun a b x=>x)
  refine lf (wpAny_newObj_type (lf (wpAny_newFunctionEnv (fun y m=>(K.2.1 y m).1) (fun y m=>absurd m List.not_mem_nil) (fun h1 hns hsb=>?_) K.1)))
  subst hI
  have a1:=(R1.at_.hid rfl hz).turn (tk:=s1.toks) (P':=P 0) (fun b o q e=>e) (Heap.get?_push_size _ hz) hP
  have a2:=At.hid (F:=F.plus _) a1 (o:={ cls := .type "list", data := .seq ([] : List Value).toArray }) rfl
  obtain ⟨ob,ho,hod⟩ : ∃ o,s1.heap.get? F.L=some o/\∀ vs,o.data ≠ .fields vs:=by
   obtain ⟨news,i⟩:=R1.at_.inv
   obtain ⟨o,es,ep,ho,hd,_⟩:=i.fr.ns
   exact ⟨o,ho,fun vs e=>by rw [hd] at e;cases e⟩
  let cl:=((frees scope).map fun y=>(y,(F.env.cells.lookup y).getD 0)).reverse
  let env':Env:=compEnvC scope cl ((s1.heap.push o0).push { cls := .type "list", data := .seq ([] : List Value).toArray }).objs.size F.env
  let F0:Fx S:=F.comp env' ob (x::frees scope) F.glob F.bi K.1 K.2.2.2.2.2 hod
  have a3:=At.enter (s':={ s1 with heap:=h1,toks:=s1.toks+([] : List (Str×Value)).length }) (F':=Fx.comp (F.plus [((s1.heap.push o0).objs.size,Is { cls := .type "list", data := .seq ([] : List Value).toArray }),(s1.heap.objs.size,P 0)]) env' ob (x::frees scope) F.glob F.bi K.1 K.2.2.2.2.2 hod) a2 rfl (Heap.get?_push_of_some _ (Heap.get?_push_of_some _ ho)) hns (fun b o e=>hsb.extBut b o (Nat.ne_of_lt (Heap.lt_size e)) (Heap.get?_push_of_some _ e)) (Nat.le_refl _) rfl rfl
  have a4:At (F0.plus [(s1.heap.objs.size,P 0),((s1.heap.push o0).objs.size,Is (listOf ([] : List Value).toArray 0))]) _ hp1 w1 _:=a3.frame rfl ((List.reverse_perm [(s1.heap.objs.size,P 0),((s1.heap.push o0).objs.size,Is (listOf ([] : List Value).toArray 0)),(F.L,Spc ob)]).append_right F.hid)
  have er:relabel scope F.env=relabS scope cx.sc:=(relab_eq (env:=F.env) (scope:=scope)).trans (congrArg (relabS scope) R.sc)
  have loop:=comp_ok (F:=F0) (cx:=⟨x::frees scope,relabS scope cx.sc⟩) (d:=d) (px:=q0) (iter:=iter) (scope:=scope) (pos:=p) (out:=outer loc fs) (Q:=Q) (Rs:=compPost (model S.prog S.w) F.A (PostX F w X) none (PostE F mp w Q) (.ref (s1.heap.push o0).objs.size) env'.locals) rfl (show (relabS scope cx.sc).names.lookup x=some .local by rw [<- er];exact lookup_relabel_local K.2.2.1) h7.2 h6.2 nx (fun w' mp' acc cacc n hp' s' l' a rs qq=>?_) xs 0 none [] [] 0 _ hp1 w1 _ rfl (by rw [List.length_nil,Nat.zero_add];exact q.1) (.refl _) hs ⟨?_,rfl,R1.dp,a4,?_,R1.glob⟩ rfl q.2
  ·obtain ⟨oi,g1,g2⟩:=a4.heldP (.head _)
   exact codeAny_compStart_list loop (lf (nx.self F.A 0 oi _ _ _ g1 g2 loop))
  ·obtain ⟨m,hm⟩ : ∃ m,s'.heap.Ns env'.locals m:=by obtain ⟨news,i⟩:=a.inv;exact ⟨_,i.fr.ns⟩
   refine ⟨m,hm,fun h' hs'=>?_⟩
   have b1:=a.leave (F:=F) (h':=h') (tk:=s'.toks) rfl R1.at_ ho hs'.extBut
   exact PRef (l1.trans l') a.len (b1.adopt (x := .list acc) fun o e=>by cases (show o=_ from e);exact IsList.mk rs).drop qq
  ·exact er
  ·intro i v e
   cases i with
   | zero=>exact nomatch (Option.some.inj e)
   | succ k =>
    have e1:(outer loc fs)[k]?=some (some v):=e
    have hk:=outer_get e1
    have hl:fs.length=(frees scope).length:=by have:=congrArg List.length K.2.2.2.1;rwa [List.length_map,List.length_map,eq_comm] at this
    have hy:=List.getElem?_eq_getElem (hl▸hk)
    obtain ⟨j,v',c,x1,x2,x3,x4⟩:=cell_at K R1 hf hy
    cases outer_at e1 x1 x2
    have hm:=List.mem_of_getElem? hy
    refine ⟨_,hy,.inr ⟨.inl ?_,c,?_,x4⟩⟩
    ·show (relabel scope F.env).names.lookup _=_
     rw [er]
     exact relab_free (by rw [<- R.sc];exact F.kind) (K.2.2.2.2.1 _ hm).1 (K.2.2.2.2.1 _ hm).2
    ·show (((frees scope).map fun y=>(y,(F.env.cells.lookup y).getD 0)).reverse).lookup _=_
     rw [<- List.map_reverse,clos_at (cl:=fun y=>(F.env.cells.lookup y).getD 0) (List.mem_reverse.mpr hm),x3];rfl
end Mine.C
namespace Mine
noncomputable def renV (f:Nat->Nat) (v:V):V:=v.rec (fun x => .d x) (fun a b i j => .pair i j) (fun i => .ref (f i)) (fun c i => .inst c (f i)) (fun k => .fn k) (fun c => .cls c) (fun b => .bi b)
noncomputable def renO (f:Nat->Nat) (x:O):O:=x.casesOn (fun xs => .list xs) (fun is => .refs (is.map f)) (fun b => .barr b) (fun c vs => .ns c (vs.map (renV f))) (fun fs => .sdict (fs.map fun q=>(q.1,renV f q.2))) (fun fs => .idict fs) (fun v => .cell (v.map (renV f))) .dead
noncomputable def belV (p:Nat->Bool) (v:V):Bool:=v.rec (fun x=>true) (fun a b i j=>i&&j) (fun i=>p i) (fun c i=>p i) (fun k=>true) (fun c=>true) (fun b=>true)
noncomputable def belO (p:Nat->Bool) (x:O):Bool:=x.casesOn (fun xs=>true) (fun is=>is.all p) (fun b=>true) (fun c vs=>vs.all (belV p)) (fun fs=>fs.all fun q=>belV p q.2) (fun fs=>true) (fun v=>v.casesOn true (belV p)) true
theorem All2.ren {α β γ γ':Type} {R:β->γ->Prop} {R':β->γ->Prop} {g g':α->β} {p:α->Bool} (h:∀ a b,p a=true->R (g a) b->R' (g' a) b) {l:List α}:∀ {r:List γ},l.all p=true->All2 R (l.map g) r->All2 R' (l.map g') r:=by
 induction l with
 | nil=>exact fun _ e=>e
 | cons a l ih =>
  intro r hp h'
  have h1:=Bool.and_eq_true_iff.mp (List.all_cons▸hp)
  exact IsCons.imp (fun c=>h a c h1.1) (fun c=>ih h1.2) h'
section
variable {S:Sx} {w w':Wd} {f g:Nat->Nat} {p:Nat->Bool}
theorem ren_rel (hz:∀ a o,w.fz a=some o->w'.fz a=some o) (hm:∀ i a,p i=true->w.m[f i]?=some a->w'.m[g i]?=some a) (v:V):∀ {c:Value},belV p v=true->Rel S w (renV f v) c->Rel S w' (renV g v) c :=
 V.rec (motive:=fun v=>∀ {c:Value},belV p v=true->Rel S w (renV f v) c->Rel S w' (renV g v) c) (fun x c _ r=>RelD.mono hz r)
  (fun a b i j c h r=>IsTup.imp hz (fun _ (r:IsCons ..)=>r.imp (fun _=>i (Bool.and_eq_true_iff.mp h).1) fun _ (r:IsCons ..)=>r.imp (fun _=>j (Bool.and_eq_true_iff.mp h).2) fun _ e=>e) r)
  (fun i c h (r:IsRef ..)=>r.rec fun e => .mk (hm i _ h e)) (fun k i c h (r:IsIn ..)=>r.rec fun e e2 => .mk (hz _ _ e) (hm i _ h e2)) (fun k c _ e=>e) (fun k c _ e=>e) (fun k c _ e=>e) v
theorem ren_orel (hz:∀ a o,w.fz a=some o->w'.fz a=some o) (hm:∀ i a,p i=true->w.m[f i]?=some a->w'.m[g i]?=some a) (x:O) {o:Obj} (h:belO p x=true) (r:ORel S w (renO f x) o):ORel S w' (renO g x) o:=by
 cases x with
 | list xs=>exact IsList.imp (fun _ q=>All2.imp (fun _ _=>RelD.mono hz) q) r
 | refs is=>exact IsList.imp (fun l q=>All2.ren (γ':=Value) (p:=p) (fun i c h (r:IsRef ..)=>r.rec fun e=>IsRef.mk (hm i _ h e)) h q) r
 | barr b=>exact r
 | ns c vs=>exact IsNs.rec (fun e q=>IsNs.mk e (All2.ren (γ':=Value) (fun v c=>ren_rel hz hm v) h q)) r
 | sdict fs=>exact IsDi.imp (fun l q=>All2.ren (γ':=Value) (R:=PairR nm (Rel S w)) (R':=PairR nm (Rel S w')) (g:=fun q:Nat×V=>(q.1,renV f q.2)) (g':=fun q:Nat×V=>(q.1,renV g q.2)) (p:=fun q=>belV p q.2) (fun v c h r=>⟨r.1,ren_rel hz hm v.2 h r.2⟩) h q) r
 | idict fs=>exact IsDi.imp (fun _ q=>All2.imp (fun _ _ p=>⟨p.1,RelD.mono hz p.2⟩) q) r
 | cell v =>
  cases v with
  | none=>exact r
  | some v=>exact Exists.imp (fun c q=>⟨q.1,ren_rel hz hm v h q.2⟩) r
 | dead=>exact r
end
theorem renV_id (v:V):renV id v=v:=V.rec (motive:=fun v=>renV id v=v) (fun _=>rfl) (fun a b i j=>(congrArg (fun x=>V.pair x (renV id b)) i).trans (congrArg (V.pair a) j)) (fun _=>rfl) (fun _ _=>rfl) (fun _=>rfl) (fun _=>rfl) (fun _=>rfl) v
theorem renV_idf:renV id=id:=funext renV_id
theorem renO_id (x:O):renO id x=x:=by
 cases x with
 | refs is=>exact congrArg O.refs (List.map_id _)
 | ns c vs=>show O.ns c (vs.map (renV id))=_;rw [renV_idf,List.map_id]
 | sdict fs=>show O.sdict (fs.map fun q=>(q.1,renV id q.2))=_;rw [renV_idf];exact congrArg O.sdict (List.map_id _)
 | cell v=>show O.cell (v.map (renV id))=_;rw [renV_idf];exact congrArg O.cell (congrFun Option.map_id v)
 | _=>rfl
theorem belV_all (v:V):belV (fun _=>true) v=true:=V.rec (motive:=fun v=>belV (fun _=>true) v=true) (fun _=>rfl) (fun _ _ i j=>Bool.and_eq_true_iff.mpr ⟨i,j⟩) (fun _=>rfl) (fun _ _=>rfl) (fun _=>rfl) (fun _=>rfl) (fun _=>rfl) v
theorem belO_all (x:O):belO (fun _=>true) x=true:=by
 cases x with
 | refs is=>exact List.all_eq_true.mpr fun _ _=>rfl
 | ns c vs=>exact List.all_eq_true.mpr fun v _=>belV_all v
 | sdict fs=>exact List.all_eq_true.mpr fun q _=>belV_all q.2
 | cell v=>cases v with
  | none=>rfl
  | some v=>exact belV_all v
 | _=>rfl
end Mine
namespace Mine
noncomputable def rho (js:List Nat) (n i:Nat):Nat:=js.getD i (n+(i - js.length))
noncomputable def pick (js:List Nat) (m:List Addr):List Addr:=js.map fun j=>m.getD j 0
noncomputable def putAll (q:List (Nat×O)) (hp:Hp):Hp:=q.rec hp fun p r ih=>ih.set p.1 p.2
noncomputable def place (js:List Nat) (hp hp':Hp):Hp:=putAll (js.zip (hp'.map (renO (rho js hp.length)))) hp++(hp'.map (renO (rho js hp.length))).drop js.length
section
variable {js:List Nat} {m:List Addr} {n:Nat}
theorem rho_lt {i j:Nat} (h:js[i]?=some j):rho js n i=j:=by unfold rho;rw [List.getD_eq_getElem?_getD,h];rfl
theorem rho_ge {i:Nat} (h:js.length<=i):rho js n i=n+(i - js.length):=by unfold rho;rw [List.getD_eq_getElem?_getD,List.getElem?_eq_none h];rfl
theorem getD_lt {j:Nat} (h:j < m.length):m[j]?=some (m.getD j 0):=by rw [List.getD_eq_getElem?_getD,List.getElem?_eq_getElem h];rfl
theorem pick_at (hb:∀ j∈js,j < m.length) {k:Nat} {a:Addr}:(pick js m)[k]?=some a↔∃ j,js[k]?=some j/\m[j]?=some a:=by
 unfold pick
 rw [List.getElem?_map]
 constructor
 ·intro h
  obtain ⟨j,h1,h2⟩:=Option.map_eq_some_iff.mp h
  exact ⟨j,h1,h2▸getD_lt (hb j (List.mem_of_getElem? h1))⟩
 ·rintro ⟨j,h1,h2⟩
  rw [h1]
  exact ((getD_lt (hb j (List.mem_of_getElem? h1))).symm.trans h2)
theorem pick_mem (hb:∀ j∈js,j < m.length) {a:Addr}:a∈pick js m↔∃ j∈js,m[j]?=some a:=by
 rw [List.mem_iff_getElem?]
 constructor
 ·rintro ⟨k,h⟩
  obtain ⟨j,h1,h2⟩:=(pick_at hb).mp h
  exact ⟨j,List.mem_of_getElem? h1,h2⟩
 ·rintro ⟨j,h1,h2⟩
  obtain ⟨k,h3⟩:=List.mem_iff_getElem?.mp h1
  exact ⟨k,(pick_at hb).mpr ⟨j,h3,h2⟩⟩
theorem inj_at (mn:m.Nodup) {i j:Nat} {a:Addr} (h:m[i]?=some a) (k:m[j]?=some a):i=j:=(List.getElem?_inj (List.getElem?_eq_some_iff.mp h).1 mn).mp (h.trans k.symm)
theorem pick_nodup (hb:∀ j∈js,j < m.length) (hn:js.Nodup) (mn:m.Nodup):(pick js m).Nodup:=by
 refine List.pairwise_map.mpr (List.Pairwise.imp_of_mem (fun {a b} ha hb' h e=>h ?_) hn)
 exact inj_at mn (getD_lt (hb a ha)) (e▸getD_lt (hb b hb'))
theorem pick_perm (hb:∀ j∈js,j < m.length) (hn:js.Nodup) (mn:m.Nodup):((m.filter fun a=>decide (a∉pick js m))++pick js m).Perm m:=by
 refine (List.perm_ext_iff_of_nodup (List.nodup_append.mpr ⟨mn.sublist List.filter_sublist,pick_nodup hb hn mn,fun a h b k e=>of_decide_eq_true (p:=a∉pick js m) (List.mem_filter.mp h).2 (e▸k)⟩) mn).mpr fun a=>?_
 rw [List.mem_append,List.mem_filter,decide_eq_true_iff]
 constructor
 ·rintro (h | h)
  ·exact h.1
  ·obtain ⟨j,h1,h2⟩:=(pick_mem hb).mp h;exact List.mem_of_getElem? h2
 ·intro h
  by_cases k:a∈pick js m
  ·exact .inr k
  ·exact .inl ⟨h,k⟩
end
theorem putAll_len {q:List (Nat×O)} {hp:Hp}:(putAll q hp).length=hp.length:=by
 induction q with
 | nil=>rfl
 | cons p r ih=>exact List.length_set.trans ih
theorem putAll_at {js:List Nat} {hp:Hp} {i:Nat} (hi:i < hp.length):∀ {l:Hp},js.Nodup->js.length<=l.length->(i∉js/\(putAll (js.zip l) hp)[i]?=hp[i]?)\/∃ k:Nat,js[k]?=some i/\(putAll (js.zip l) hp)[i]?=l[k]?:=by
 induction js with
 | nil=>exact fun _ _ => .inl ⟨List.not_mem_nil,rfl⟩
 | cons j r ih =>
  intro l hn hl
  cases l with
  | nil=>exact absurd hl (Nat.not_succ_le_zero _)
  | cons x l =>
   have h1:=List.nodup_cons.mp hn
   show (i∉j::r/\((putAll (r.zip l) hp).set j x)[i]?=hp[i]?)\/∃ k:Nat,(j::r)[k]?=some i/\((putAll (r.zip l) hp).set j x)[i]?=(x::l)[k]?
   by_cases e:j=i
   ·subst e
    exact .inr ⟨0,rfl,List.getElem?_set_self (by rw [putAll_len];exact hi)⟩
   ·rw [List.getElem?_set_ne e]
    exact (ih h1.2 (Nat.le_of_succ_le_succ hl)).imp (fun q=>⟨fun h=>(List.mem_cons.mp h).elim (fun z=>e z.symm) q.1,q.2⟩) fun q=>q.elim fun k q=>⟨k+1,q.1,q.2⟩
end Mine
namespace Mine
section
variable {S:Sx} {F:Fx S} {mp:Mp} {hp hp0 hp':Hp} {w w':Wd} {s s':Shared} {js:List Nat}
def Sees (js:List Nat) (hp hp0:Hp):Prop:=(js.map fun j=>hp[j]?)=hp0.map fun x=>some (renO (rho js hp.length) x)
theorem Sees.at (h:Sees js hp hp0) {k j:Nat} (e:js[k]?=some j):∃ x,hp0[k]?=some x/\hp[j]?=some (renO (rho js hp.length) x):=by
 have e1:(js.map fun j=>hp[j]?)[k]?=some hp[j]?:=by rw [List.getElem?_map,e];rfl
 rw [show (js.map fun j=>hp[j]?)=_ from h,List.getElem?_map] at e1
 obtain ⟨x,h1,h2⟩:=Option.map_eq_some_iff.mp e1
 exact ⟨x,h1,h2.symm⟩
theorem Sees.len (h:Sees js hp hp0):js.length=hp0.length:=by have:=congrArg List.length h;rwa [List.length_map,List.length_map] at this
theorem Sees.lt (h:Sees js hp hp0) (hl:w.m.length=hp.length):∀ j∈js,j < w.m.length:=fun j m=>by
 obtain ⟨k,e⟩:=List.mem_iff_getElem?.mp m
 obtain ⟨x,_,h2⟩:=h.at e
 exact hl▸(List.getElem?_eq_some_iff.mp h2).1
noncomputable def rest (S:Sx) (js:List Nat) (w:Wd) (hp:Hp):Cl:=(cells S w hp).filter fun p=>decide (p.1∉pick js w.m)
theorem rest_sub (hl:w.m.length=hp.length):((rest S js w hp).map (·.1)).Sublist (w.m.filter fun a=>decide (a∉pick js w.m)):=by
 have:=(cells_sub (S:=S) hl).filter fun a=>decide (a∉pick js w.m)
 rwa [List.filter_map] at this
theorem live_ren {f:Nat->Nat} {x:O}:live (renO f x)=live x:=by cases x<;>rfl
theorem ren_dead {f:Nat->Nat} {x:O} (h:renO f x = .dead):x = .dead:=dead_of (by rw [<- live_ren (f:=f),h];rfl)
theorem rho_pick (hl:w.m.length=hp.length) (hb:∀ j∈js,j < w.m.length) {i:Nat} {a:Addr} (e:w.m[rho js hp.length i]?=some a):(pick js w.m)[i]?=some a:=by
 cases q:js[i]? with
 | some j=>rw [rho_lt q] at e;exact (pick_at hb).mpr ⟨j,q,e⟩
 | none =>
  rw [rho_ge (List.getElem?_eq_none_iff.mp q),List.getElem?_eq_none (hl▸Nat.le_add_right _ _)] at e
  exact nomatch e
theorem At.pick (ha:At F mp hp w s) (hn:js.Nodup) (he:Sees js hp hp0):At (F.plus (rest S js w hp)) mp hp0 ⟨Mine.pick js w.m,w.fz⟩ s:=by
 have hb:=he.lt ha.len.len
 have mn:=(List.nodup_append.mp ha.nd).2.1
 obtain ⟨news,i⟩:=ha.inv
 refine i.reach (F:=F.plus (rest S js w hp)) (w':=⟨Mine.pick js w.m,w.fz⟩) (hp':=hp0) ⟨by unfold Mine.pick;rw [List.length_map];exact he.len,?_,fun k a e1 e2=>?_⟩ rfl (fun p m=>(List.mem_append.mp m).elim (fun m=>⟨p.2,List.mem_append_right _ (List.mem_filter.mp m).1,fun _ r=>r⟩) fun m=>⟨p.2,List.mem_append_left _ m,fun _ r=>r⟩) (fun k a x l e1 e2=>?_)
 ·show (((rest S js w hp++F.hid).map (·.1))++Mine.pick js w.m).Nodup
  rw [List.map_append]
  have pm:=(pick_perm hb hn mn).symm
  exact (((pm.append_left (F.hid.map (·.1))).trans (by rw [<- List.append_assoc];exact List.perm_append_comm.append_right _)).nodup_iff.mp ha.nd).sublist (((rest_sub ha.len.len).append_right _).append_right _)
 ·obtain ⟨j,h1,h2⟩:=(pick_at hb).mp e1
  obtain ⟨y,h3,h4⟩:=he.at h1
  cases e2.symm.trans h3
  exact ha.len.dd j a h2 h4
 ·obtain ⟨j,h1,h2⟩:=(pick_at hb).mp e1
  obtain ⟨y,h3,h4⟩:=he.at h1
  cases e2.symm.trans h3
  exact ⟨_,List.mem_append_right _ (cells_at h2 h4 (live_ren.trans l)),fun o r=>by
   have:=ren_orel (w:=w) (f:=rho js hp.length) (g:=id) (p:=fun _=>true) (w':=⟨Mine.pick js w.m,w.fz⟩) (fun a o e=>e) (fun i a _ e=>rho_pick ha.len.len hb e) x (belO_all x) r
   rwa [renO_id] at this⟩
theorem At.unpick (ha:At F mp hp w s) (hn:js.Nodup) (he:Sees js hp hp0) (ho:∀ i,i∉js->hp[i]?≠some .dead) (l:Wd.le ⟨Mine.pick js w.m,w.fz⟩ w') (h:At (F.plus (rest S js w hp)) mp hp' w' s') :
  w.le ⟨w.m++w'.m.drop js.length,w'.fz⟩/\At F mp (place js hp hp') ⟨w.m++w'.m.drop js.length,w'.fz⟩ s'/\∀ v c,Rel S w' v c->Rel S ⟨w.m++w'.m.drop js.length,w'.fz⟩ (renV (rho js hp.length) v) c:=by
 have hb:=he.lt ha.len.len
 have mn:=(List.nodup_append.mp ha.nd).2.1
 have l1:w.le ⟨w.m++w'.m.drop js.length,w'.fz⟩:=⟨fun i a e=>(List.getElem?_append_left (List.getElem?_eq_some_iff.mp e).1).trans e,l.fz⟩
 have hm:∀ i a,true=true->w'.m[id i]?=some a->(w.m++w'.m.drop js.length)[rho js hp.length i]?=some a:=fun i a z e=>by
  cases q:js[i]? with
  | some j =>
   have hj:=getD_lt (hb j (List.mem_of_getElem? q))
   have:=l.m i _ ((pick_at hb).mpr ⟨j,q,hj⟩)
   rw [rho_lt q]
   exact (l1.m j _ hj).trans (this.symm.trans e)
  | none =>
   have hi:=List.getElem?_eq_none_iff.mp q
   rw [rho_ge hi,List.getElem?_append_right (ha.len.len▸Nat.le_add_right _ _),ha.len.len,Nat.add_sub_cancel_left,List.getElem?_drop,Nat.add_sub_cancel' hi]
   exact e
 have rl:∀ v c,Rel S w' v c->Rel S ⟨w.m++w'.m.drop js.length,w'.fz⟩ (renV (rho js hp.length) v) c:=fun v c r=>ren_rel (w:=w') (w':=⟨w.m++w'.m.drop js.length,w'.fz⟩) (f:=id) (g:=rho js hp.length) (p:=fun _=>true) (fun a o e=>e) hm v (belV_all v) (by rw [renV_id];exact r)
 have ro:∀ x o,ORel S w' x o->ORel S ⟨w.m++w'.m.drop js.length,w'.fz⟩ (renO (rho js hp.length) x) o:=fun x o r=>ren_orel (w:=w') (w':=⟨w.m++w'.m.drop js.length,w'.fz⟩) (f:=id) (g:=rho js hp.length) (p:=fun _=>true) (fun a o e=>e) hm x (belO_all x) (by rw [renO_id];exact r)
 refine ⟨l1,?_,rl⟩
 have hle:js.length<=hp'.length:=Nat.not_lt.mp fun z=>by
  have q:=List.getElem?_eq_getElem z
  have:=l.m _ _ ((pick_at hb).mpr ⟨_,q,getD_lt (hb _ (List.mem_of_getElem? q))⟩)
  exact absurd (List.getElem?_eq_some_iff.mp this).1 (h.len.len▸Nat.lt_irrefl _)
 have key:∀ (k:Nat) (a:Addr) (x:O),(w.m++w'.m.drop js.length)[k]?=some a->(place js hp hp')[k]?=some x->(hp[k]?=some x/\w.m[k]?=some a/\k∉js)\/∃ (k':Nat) (y:O),w'.m[k']?=some a/\hp'[k']?=some y/\renO (rho js hp.length) y=x:=fun k a x e1 e2=>by
  by_cases hk:k < hp.length
  ·have e1:w.m[k]?=some a:=(List.getElem?_append_left (ha.len.len▸hk)).symm.trans e1
   have e2:(putAll (js.zip (hp'.map (renO (rho js hp.length)))) hp)[k]?=some x:=(List.getElem?_append_left (by rw [putAll_len];exact hk)).symm.trans e2
   rcases putAll_at hk (l:=hp'.map (renO (rho js hp.length))) hn (by rw [List.length_map];exact hle) with ⟨q,e3⟩ | ⟨k',e3,e4⟩
   ·exact .inl ⟨e3.symm.trans e2,e1,q⟩
   ·have e5:=e4.symm.trans e2
    rw [List.getElem?_map] at e5
    obtain ⟨y,h1,h2⟩:=Option.map_eq_some_iff.mp e5
    exact .inr ⟨k',y,l.m _ _ ((pick_at hb).mpr ⟨k,e3,e1⟩),h1,h2⟩
  ·have hk:=Nat.not_lt.mp hk
   have e1:(w'.m.drop js.length)[k - w.m.length]?=some a:=(List.getElem?_append_right (ha.len.len▸hk)).symm.trans e1
   have e2:((hp'.map (renO (rho js hp.length))).drop js.length)[k - (putAll (js.zip (hp'.map (renO (rho js hp.length)))) hp).length]?=some x:=(List.getElem?_append_right (by rw [putAll_len];exact hk)).symm.trans e2
   rw [List.getElem?_drop,ha.len.len] at e1
   rw [List.getElem?_drop,putAll_len,List.getElem?_map] at e2
   obtain ⟨y,h1,h2⟩:=Option.map_eq_some_iff.mp e2
   exact .inr ⟨_,y,e1,h1,h2⟩
 obtain ⟨news,i⟩:=h.inv
 refine i.reach (F:=F) (w':=⟨w.m++w'.m.drop js.length,w'.fz⟩) (hp':=place js hp hp') ⟨?_,?_,fun k a e1 e2=>?_⟩ rfl (fun p m=>⟨p.2,List.mem_append_left _ (List.mem_append_right _ m),fun _ r=>r⟩) (fun k a x lx e1 e2=>?_)
 ·unfold place
  show (w.m++w'.m.drop js.length).length=_
  rw [List.length_append,List.length_append,putAll_len,List.length_drop,List.length_drop,List.length_map,ha.len.len,h.len.len]
 ·have tk:w'.m.take js.length=Mine.pick js w.m:=List.ext_getElem? fun k=>by
   by_cases z:k < js.length
   ·have q:=List.getElem?_eq_getElem z
    have hj:=(pick_at hb).mpr ⟨_,q,getD_lt (hb _ (List.mem_of_getElem? q))⟩
    rw [List.getElem?_take_of_lt z,hj]
    exact l.m _ _ hj
   ·rw [List.getElem?_eq_none (Nat.le_trans (List.length_take_le _ _) (Nat.not_lt.mp z)),List.getElem?_eq_none (by unfold Mine.pick;rw [List.length_map];exact Nat.not_lt.mp z)]
  have nd:=List.nodup_append.mp h.nd
  have na:=List.nodup_append.mp ha.nd
  have nm:=nd.2.1
  rw [<- List.take_append_drop js.length w'.m] at nm
  have nm:=List.nodup_append.mp nm
  show (F.hid.map (·.1)++(w.m++w'.m.drop js.length)).Nodup
  rw [<- List.append_assoc]
  refine List.nodup_append.mpr ⟨ha.nd,nm.2.1,fun a m b k e=>?_⟩
  subst e
  have k':a∈w'.m:=List.mem_of_mem_drop k
  rcases List.mem_append.mp m with m | m
  ·exact nd.2.2 a (by show a∈(rest S js w hp++F.hid).map (·.1);rw [List.map_append];exact List.mem_append_right _ m) a k' rfl
  ·by_cases z:a∈Mine.pick js w.m
   ·exact nm.2.2 a (tk▸z) a k rfl
   ·obtain ⟨i,e⟩:=List.mem_iff_getElem?.mp m
    obtain ⟨y,e2⟩ : ∃ y,hp[i]?=some y:=⟨_,List.getElem?_eq_getElem (ha.len.len▸(List.getElem?_eq_some_iff.mp e).1)⟩
    have ly:live y=true:=by
     cases q:live y with
     | true=>rfl
     | false=>exact absurd (dead_of q▸e2) (ho i fun q=>z ((pick_mem hb).mpr ⟨i,q,e⟩))
    exact nd.2.2 a (by show a∈(rest S js w hp++F.hid).map (·.1);rw [List.map_append];exact List.mem_append_left _ (List.mem_map_of_mem (f:=(·.1)) (List.mem_filter.mpr ⟨cells_at e e2 ly,decide_eq_true z⟩))) a k' rfl
 ·rcases key k a _ e1 e2 with ⟨h1,h2,h3⟩ | ⟨k',y,h1,h2,h3⟩
  ·exact (ha.len.dd k a h2 h1).imp fun o q=>l.fz a o q
  ·exact h.len.dd k' a h1 (h2.trans (congrArg some (ren_dead h3)))
 ·rcases key k a x e1 e2 with ⟨h1,h2,h3⟩ | ⟨k',y,h1,h2,h3⟩
  ·refine ⟨_,List.mem_append_left _ (List.mem_append_left _ (List.mem_filter.mpr ⟨cells_at h2 h1 lx,decide_eq_true fun m=>?_⟩)),fun o=>ORel.mono l1⟩
   obtain ⟨j,q1,q2⟩:=(pick_mem hb).mp m
   exact h3 (inj_at mn q2 h2▸q1)
  ·subst h3
   exact ⟨_,List.mem_append_right _ (cells_at h1 h2 (live_ren.symm.trans lx)),ro y⟩
end
end Mine
namespace Mine
theorem At.take {S:Sx} {F:Fx S} {mp:Mp} {hp:Hp} {w:Wd} {s:Shared} (h:At F mp hp w s) (n:Nat) (hb:(hp.take n).all (belO fun i=>Nat.blt i n)=true) :
  At F mp (hp.take n) ⟨w.m.take n,w.fz⟩ s/\∀ v c,belV (fun i=>Nat.blt i n) v=true->Rel S w v c->Rel S ⟨w.m.take n,w.fz⟩ v c:=by
 have hm:∀ i a,Nat.blt i n=true->w.m[id i]?=some a->(w.m.take n)[id i]?=some a:=fun i a h e=>(List.getElem?_take_of_lt (Nat.blt_eq.mp h)).trans e
 obtain ⟨news,i⟩:=h.inv
 refine ⟨i.reach (F:=F) (w':=⟨w.m.take n,w.fz⟩) (hp':=hp.take n) ⟨by show (w.m.take n).length=_;rw [List.length_take,List.length_take,h.len.len],h.nd.sublist (List.Sublist.append_left (List.take_sublist n w.m) _),fun k a e1 e2=>?_⟩ rfl (fun p m=>⟨p.2,List.mem_append_left _ m,fun _ r=>r⟩) (fun k a x lx e1 e2=>?_),fun v c hv r=>?_⟩
 ·have hk:k < n:=Nat.lt_of_lt_of_le (List.getElem?_eq_some_iff.mp e1).1 (List.length_take_le _ _)
  exact h.len.dd k a ((List.getElem?_take_of_lt hk).symm.trans e1) ((List.getElem?_take_of_lt hk).symm.trans e2)
 ·have hk:k < n:=Nat.lt_of_lt_of_le (List.getElem?_eq_some_iff.mp e1).1 (List.length_take_le _ _)
  refine ⟨_,List.mem_append_right _ (cells_at ((List.getElem?_take_of_lt hk).symm.trans e1) ((List.getElem?_take_of_lt hk).symm.trans e2) lx),fun o r=>?_⟩
  have:=ren_orel (w:=w) (w':=⟨w.m.take n,w.fz⟩) (f:=id) (g:=id) (fun a o e=>e) hm x (List.all_eq_true.mp hb x (List.mem_of_getElem? e2)) (by rw [renO_id];exact r)
  rwa [renO_id] at this
 ·have:=ren_rel (w:=w) (w':=⟨w.m.take n,w.fz⟩) (f:=id) (g:=id) (fun a o e=>e) hm v hv (by rw [renV_id];exact r)
  rwa [renV_id] at this
end Mine
namespace Mine.C
section
variable {S:Sx} {d:Nat} {f0 f:V} {vs0 vs:List V} {hp0 hp:Hp} {Q0 Q:V->Hp->Prop} {X:Bs->Prop}
theorem CallOk_place (js:List Nat) (hn:js.Nodup) (he:Sees js hp hp0) (ho:∀ i,i∉js->hp[i]?≠some .dead) (hf:renV (rho js hp.length) f0=f) (hv:vs0.map (renV (rho js hp.length))=vs) (h:CallOk S d f0 vs0 hp0 Q0 X)
  (hq:∀ v hp',Q0 v hp'->Q (renV (rho js hp.length) v) (place js hp hp')):CallOk S d f vs hp Q X:=by
 subst hf hv
 refine ⟨@fun F mp w s cf cvs hd ha rf rs=>?_⟩
 have hb:=he.lt ha.len.len
 have hm:∀ i a,true=true->w.m[rho js hp.length i]?=some a->(Mine.pick js w.m)[id i]?=some a:=fun i a z e=>rho_pick ha.len.len hb e
 have rr:∀ v c,Rel S w (renV (rho js hp.length) v) c->Rel S ⟨Mine.pick js w.m,w.fz⟩ (renV id v) c:=fun v c r=>ren_rel (w:=w) (w':=⟨Mine.pick js w.m,w.fz⟩) (g:=id) (p:=fun _=>true) (fun a o e=>e) hm v (belV_all v) r
 have rs0:=All2.ren (γ':=Value) (R':=Rel S ⟨Mine.pick js w.m,w.fz⟩) (g':=renV id) (p:=fun _=>true) (fun v c _ r=>rr v c r) (List.all_eq_true.mpr fun _ _=>rfl) rs
 rw [renV_idf,List.map_id] at rs0
 refine wpAny_mono (h.run (F:=F.plus (rest S js w hp)) hd (ha.pick hn he) (by have:=rr f0 cf rf;rwa [renV_id] at this) rs0) (fun cv s' p=>?_) fun e s' p=>?_
 ·cases p with | mk l r a q =>
  obtain ⟨l1,a1,r1⟩:=ha.unpick hn he ho l a
  exact .mk l1 (r1 _ _ r) a1 (hq _ _ q)
 ·exact p.skip.rec fun a r x => .mk a r x
theorem CallOk_drop (n:Nat) (hn:hp.length<=n) (h:CallOk S d f vs hp (fun v hp'=>(belV (fun i=>Nat.blt i n) v=true/\(hp'.take n).all (belO fun i=>Nat.blt i n)=true)/\Q v (hp'.take n)) X):CallOk S d f vs hp Q X:=by
 refine ⟨@fun F mp w s cf cvs hd ha rf rs=>?_⟩
 refine wpAny_mono (h.run hd ha rf rs) (fun cv s' p=>?_) fun e s' p=>p
 cases p with | @mk w' v hp' l r a q =>
 obtain ⟨a1,r1⟩:=a.take n q.1.2
 exact .mk (w':=⟨w'.m.take n,w'.fz⟩) ⟨fun i b e=>(List.getElem?_take_of_lt (Nat.lt_of_lt_of_le (ha.len.len▸(List.getElem?_eq_some_iff.mp e).1) hn)).trans (l.m i b e),l.fz⟩ (r1 v cv q.1.1 r) a1 q.2
theorem CallOk_mono (h:CallOk S d f vs hp Q0 X) (hq:∀ v hp,Q0 v hp->Q v hp) {X':Bs->Prop} (hx:∀ b,X b->X' b):CallOk S d f vs hp Q X':=by
 refine ⟨@fun F mp w s cf cvs hd ha rf rs=>?_⟩
 exact wpAny_mono (h.run hd ha rf rs) (fun cv s' p=>p.rec fun l r a q => .mk l r a (hq _ _ q)) fun e s' p=>p.rec fun a r x => .mk a r (hx _ x)
end
end Mine.C
namespace Mine
noncomputable def Fx.callee {S:Sx} (F:Fx S) (env':Env) (o:Obj) (names':List Str) (hloc:env'.frame=some env'.locals) (h1:env'.globals=mainGlobals) (h2:env'.builtins=builtinsNs) (h3:env'.scope.kind = .function) (h4:names'.Nodup) (h5:∀ vs,o.data ≠ .fields vs) {d:Nat} (hd:d+1<=F.d):Fx S :=
 { A:=F.A.deeper env',env:=env',fr:=env'::F.fr,hid:=(F.L,Spc o)::F.hid,L:=env'.locals,names:=names',d:=d,stack:=(by show Option.map _ F.A.frames=_;rw [F.stack];rfl),loc:=rfl,glob:=h1,bi:=h2,kind:=h3,nodup:=h4,frs:=fun e he=>(List.mem_cons.mp he).elim (fun q=>by subst q;exact ⟨(by rw [h3];exact fun e=>nomatch e),.inl hloc⟩) fun he=>⟨(F.frs e he).1,.inr ((F.frs e he).2.elim (fun q=>⟨_,o,.head _,q,h5⟩) fun q=>q.imp fun a q=>q.imp fun b q=>⟨.tail _ q.1,q.2⟩)⟩,handled:=F.handled,guards:=F.guards,room:=Nat.le_trans (by show F.A.depth+1+1+2*d<=F.A.depth+1+2*(d+1);omega) (Nat.le_trans (Nat.add_le_add_left (Nat.mul_le_mul_left 2 hd) _) F.room),units:=Nat.le_trans (by show F.A.units+3+5+8*d<=F.A.units+5+8*(d+1);omega) (Nat.le_trans (Nat.add_le_add_left (Nat.mul_le_mul_left 8 hd) _) F.units) }
end Mine
namespace Mine.C
section
variable {S:Sx} {F F':Fx S} {mp:Mp} {hp:Hp} {w w':Wd} {s0 s:Shared} {o:Obj} {X:Bs->Prop} {e:Value}
theorem leave_ok (hd:Hd F') (en:F'.hid=(F.L,Spc o)::F.hid) (h0:At F mp hp w s0) (ho:s0.heap.get? F.L=some o) (p:PostX F' w' X e s):wpAny (model S.prog S.w) F'.A (leaving F'.env e) (fun u s'=>PostX F w' X e s') (fun a b=>False) s:=by
 cases p with | mk l r x =>
 obtain ⟨ea,head,rfl,h⟩:=r
 unfold leaving
 refine lf (PySem.wpAny_bind (h.note hd fun T s' h'=>h'.setFlight (P':=fun x=>x = .none) rfl fun s2 h2=>?_))
 obtain ⟨mp',l',ht,ha⟩:=h2.weaken (P':=Loose F) fun x e => .inl e
 exact .mk l ⟨ea,_,rfl,mp,l',ht,ha.leave (h':=s2.heap) (tk:=s2.toks) en h0 ho fun a b c e=>e⟩ x
end
structure ScOk (cx:Cx):Prop where
 co:cx.sc.isCoroutine=false
 gen:cx.sc.isGenerator=false
 kind:cx.sc.kind = .function
 cell:∀ x∈cx.sc.names,x.2 ≠ .cell
 nodup:cx.names.Nodup
section
variable {S:Sx} {F:Fx S} {mp:Mp} {hp:Hp} {w:Wd} {s:Shared} {cx:Cx} {k d:Nat} {f:Fi} {fd:FuncData} {loc0:Loc}
theorem code_at {cvs:List Value} {binds:List (Str×Value)} {R:Result->Shared->Prop} (D:FnAt S k f fd) (SC:ScOk cx) (hsc:f.scope=cx.sc) (hG:GlobOk S) (hd:d+1<=F.d) (ha:At F mp hp w s)
  (b1:BindsTo s fd ⟨cvs,[]⟩ binds) (b2:∀ y∈binds,cx.sc.names.lookup y.1=some .local)
  (b3:∀ (i:Nat) (v:V),loc0[i]?=some (some v)->∃ x cv,cx.names[i]?=some x/\binds.reverse.lookup x=some cv/\cx.sc.names.lookup x=some .local/\Rel S w v cv)
  (hbody:∀ (F':Fx S) (s1:Shared),(∀ p∈F.hid,p∈F'.hid)/\(∀ b o,s.heap.get? b=some o->s1.heap.get? b=some o)->Hd F'->Rd cx F' d loc0 (fun x=>binds.reverse.lookup x) hp w s1->(∀ {X:Bs->Prop} {w':Wd} {e:Value} {s:Shared},PostX F' w' X e s->wpAny (model S.prog S.w) F'.A (leaving F'.env e) (fun u s'=>PostX F w' X e s') (fun a b=>False) s) ->
   wpAny (model S.prog S.w) F'.A (execs f.body F'.env) (fun g s2=>∃ w' mp' hp',At F' mp' hp' w' s2/\(At F mp hp' w' s2->Flow.casesOn (motive:=fun _=>Prop) g (R (.ok (.ret .none)) s2) False False fun v=>R (.ok (.ret v)) s2))
    (fun e s2=>wpAny (model S.prog S.w) F'.A (leaving F'.env e) (fun u s'=>R (.error e) s') (fun a b=>False) s2) s1) :
  codeAny (model S.prog S.w) F.A (.call (.ref (S.fA k)) ⟨cvs,[]⟩) R s:=by
 obtain ⟨news,i⟩:=ha.inv
 obtain ⟨oc,od,osl,hl⟩:=D.look
 have hlook:=i.fr.keep _ _ (S.kin _ _ hl)
 obtain ⟨o,ho,hod⟩ : ∃ o,s.heap.get? F.L=some o/\∀ vs,o.data ≠ .fields vs:=by
  obtain ⟨o,es,ep,ho,hd,_⟩:=i.fr.ns
  exact ⟨o,ho,fun vs e=>by rw [hd] at e;cases e⟩
 have es:fd.scope=cx.sc:=D.scope.trans hsc
 refine codeAny_call_def (fd:=fd) (body:=f.body) (binds:=binds) (Nat.lt_of_lt_of_le (Nat.lt_succ_self _) (Nat.le_trans (Nat.le_add_right _ _) F.room)) hlook rfl (S.top.nolimit.keeps i.fr.keep) (codeRec_of (S.kin.keeps i.fr.keep) (D.qual▸D.code)) D.body b1 (es▸SC.cell) (es▸b2) (fun h₁ hns hk₁=>?_) (es▸SC.co) (es▸SC.gen) (es▸SC.kind)
 let env':=callEnv fd s.heap.objs.size (S.fA k)
 let F':Fx S:=F.callee env' o cx.names rfl D.globals D.builtins (by show fd.scope.kind=_;rw [es];exact SC.kind) SC.nodup hod hd
 have a0:At F' (fun x=>binds.reverse.lookup x) hp w { s with heap:=h₁,toks:=s.toks+binds.length }:=At.enter (F':=F') ha rfl ho hns hk₁ (Nat.le_refl _) rfl rfl
 have R0:Rd cx F' d loc0 (fun x=>binds.reverse.lookup x) hp w { s with heap:=h₁,toks:=s.toks+binds.length }:=⟨es,rfl,Nat.le_refl _,a0,fun j v e=>by
  obtain ⟨x,cv,c1,c2,c3,c4⟩:=b3 j v e
  exact ⟨x,c1,.inl ⟨by show fd.scope.names.lookup x=_;rw [es];exact c3,cv,c2,c4⟩⟩,hG⟩
 have hd':Hd F':=⟨F.fr,rfl,rfl⟩
 refine wpAny_mono (hbody F' _ ⟨fun p m => .tail _ m,hk₁⟩ hd' R0 fun p=>leave_ok hd' rfl ha ho p) (fun g s1 q=>?_) fun e s1 hx=>?_
 ·obtain ⟨w',mp',hp',a1,q⟩:=q
  have a2:=q (At.leave (F':=F') (l:=[]) (h':=s1.heap) (tk:=s1.toks) a1 rfl ha ho fun a b c e=>e)
  cases g with
  | next=>exact a2
  | brk=>exact a2.elim
  | cont=>exact a2.elim
  | ret cv=>exact a2
 ·exact wpAny_mono hx (fun a b x=>x) fun a b x=>x.elim
end
end Mine.C
namespace Mine.C
section
variable {β:Type}
theorem zip_none {ns:List Str} {x:Str} (h:x∉ns):∀ {vs:List β},(ns.zip vs).lookup x=none:=by
 induction ns with
 | nil=>exact fun {vs}=>rfl
 | cons n r ih =>
  intro vs
  cases vs with
  | nil=>rfl
  | cons v vs =>
   have h1:=not_or.mp fun z=>h (List.mem_cons.mpr z)
   rw [List.zip_cons_cons,List.lookup_cons,beq_eq_false_iff_ne.mpr h1.1]
   exact ih h1.2
theorem zip_at {x:Str} {c:β} {ns:List Str}:∀ {cs:List β} {i:Nat},ns.Nodup->ns[i]?=some x->cs[i]?=some c->(ns.zip cs).lookup x=some c:=by
 induction ns with
 | nil=>exact fun _ h=>nomatch h
 | cons n r ih =>
  intro cs i hn h k
  cases cs with
  | nil=>exact nomatch k
  | cons v cs =>
   rw [List.zip_cons_cons,List.lookup_cons]
   cases i with
   | zero=>cases h;cases k;rw [beq_self_eq_true]
   | succ i =>
    have h1:=List.nodup_cons.mp hn
    have hm:x∈r:=List.mem_of_getElem? (show r[i]?=some x from h)
    rw [beq_eq_false_iff_ne.mpr fun (e:x=n)=>h1.1 (e▸hm)]
    exact ih h1.2 h k
theorem zip_some {ns:List Str} {x:Str} (h:x∈ns) {vs:List β} (hn:ns.Nodup) (hl:ns.length=vs.length):∃ v,(ns.zip vs).lookup x=some v:=by
 obtain ⟨i,e⟩:=List.mem_iff_getElem?.mp h
 have hi:=(List.getElem?_eq_some_iff.mp e).1
 exact ⟨_,zip_at hn e (List.getElem?_eq_getElem (hl▸hi))⟩
end
abbrev addF (x:Str×Value) (r:List (Str×Value)):Sem (ForInStep (List (Str×Value))):=if (r.lookup x.1).isNone=true then pure (ForInStep.yield (r++[(x.1,x.2)])) else pure (ForInStep.yield r)
theorem add_in {l l' slots:List (Str×Value)} {t:List (Str×Value)} (h:∀ p∈l,∃ v,slots.lookup p.1=some v) (k:forIn l' slots addF=pure t):forIn (l++l') slots addF=pure t:=by
 induction l with
 | nil=>exact k
 | cons p r ih =>
  have h1:=List.forall_mem_cons.mp h
  obtain ⟨v,e⟩:=h1.1
  rw [List.cons_append,List.forIn_cons]
  unfold addF
  rw [e,if_neg (by exact fun h=>nomatch h)]
  exact (pure_bind ..).trans (ih h1.2)
theorem add_out {l:List (Str×Value)}:∀ {slots:List (Str×Value)},(l.map (·.1)).Nodup->(∀ p∈l,slots.lookup p.1=none)->forIn l slots addF=pure (slots++l):=by
 induction l with
 | nil=>intro slots hn h;rw [List.append_nil];rfl
 | cons p r ih =>
  intro slots hn h
  have h1:=List.forall_mem_cons.mp h
  have h2:=List.nodup_cons.mp hn
  rw [List.forIn_cons]
  unfold addF
  rw [h1.1,if_pos (show (none:Option Value).isNone=true from rfl)]
  refine (pure_bind ..).trans ((ih h2.2 fun q m=>?_).trans (by rw [List.append_assoc];rfl))
  rw [List.lookup_append,h1.2 q m,List.lookup_cons,beq_eq_false_iff_ne.mpr fun (e:q.1=p.1)=>h2.1 (by show p.1∈List.map (·.1) r;rw [<- e];exact List.mem_map_of_mem m)];rfl
noncomputable def look (ns:List Str) (cs:List Value) (n:Str):Value:=((ns.zip cs).lookup n).getD .none
noncomputable def bound (ns:List Str) (cs:List Value):List (Str×Value):=ns.map fun n=>(n,look ns cs n)
set_option maxHeartbeats 4000000 in
theorem binds_ok {s:Shared} {fd:FuncData} {as:List Arg} {kd:List (Option PySem.Expr)} {ds:List PySem.Expr} {ns1 ns2 ns3:List Str} {vs d2 d3:List Value} {r:Option (Array Value)} (hp:fd.params=⟨[],as,none,[],kd,none,ds⟩) (hns:as.map (·.arg)=ns1++ns2++ns3) (hn:(ns1++ns2++ns3).Nodup)
  (h1:(ns1++ns2).length=vs.length) (h2:ns2.length=d2.length) (h3:ns3.length=d3.length) (hr:(r.getD #[]).toList=d2++d3) (hd:∀ (M:Model) (A:Around) (E:Value->Shared->Prop) (Q:Option (Array Value)->Shared->Prop),Q r s->PySem.wpAny M A (seqItems? fd.defaults) Q E s) :
  BindsTo s fd ⟨vs,[]⟩ (bound (ns1++ns2++ns3) (vs++d3)):=by
 intro M A E Q hq
 have e0:ns1.length+(d2++d3).length=(ns1++ns2++ns3).length:=by rw [List.length_append,List.length_append,List.length_append,h2,h3,Nat.add_assoc]
 have e1:¬ (vs.length > (ns1++ns2++ns3).length):=by rw [<- h1,List.length_append (as:=ns1++ns2)];exact Nat.not_lt.mpr (Nat.le_add_right _ _)
 have e2:(d2++d3).length - (ns1++ns2++ns3).length=0:=Nat.sub_eq_zero_of_le (e0▸Nat.le_add_left _ _)
 have e3:(ns1++ns2++ns3).length - (d2++d3).length=ns1.length:=by rw [<- e0,Nat.add_sub_cancel]
 have hn1:=(List.nodup_append.mp hn).1
 have z0:(ns1++ns2++ns3).zip vs=(ns1++ns2).zip vs:=by
  have:=List.zip_append (r₁:=ns3) (r₂:=([] : List Value)) h1
  rwa [List.append_nil,List.zip_nil_right,List.append_nil] at this
 have z1:(ns1++ns2++ns3).zip (vs++d3)=(ns1++ns2).zip vs++ns3.zip d3:=List.zip_append h1
 obtain ⟨_,_,params,_,_,_,_,defaults,_,_,_,_,_,_,_⟩:=fd
 cases (show params=_ from hp)
 unfold bindArgs
 refine PySem.wpAny_bind (PySem.wpAny_pure (PySem.wpAny_bind (hd _ _ _ _ ?_)))
 rw [hr]
 have m1:∀ {x},x∈ns1++ns2->∃ v,((ns1++ns2++ns3).zip vs).lookup x=some v:=fun h=>by rw [z0];exact zip_some h hn1 h1
 have hns':List.map (fun x=>x.arg) ([] : List Arg)++List.map (fun x=>x.arg) as=ns1++ns2++ns3:=hns
 rw [hns']
 refine PySem.wpAny_ite_split (fun h=>absurd (of_decide_eq_true (Bool.and_eq_true_iff.mp h).1) e1) fun _=>?_
 rw [e2,List.drop_zero]
 refine PySem.wpAny_ite_split (fun h=>?_) fun _=>PySem.wpAny_bind (PySem.wpAny_of_eq (a:=(ns1++ns2++ns3).zip (vs++d3)) ?_ (PySem.wpAny_bind (PySem.wpAny_pure ?_)))
 ·have h:=Bool.not_eq_true' _ |>.mp h
  rw [e3,List.append_assoc,List.take_left,List.filter_eq_nil_iff.mpr fun x hx hz=>by
   obtain ⟨v,e⟩:=m1 (x:=x) (List.mem_append_left _ hx)
   rw [<- List.append_assoc,e] at hz
   exact no hz] at h
  exact no h.symm
 ·rw [e3,List.append_assoc,List.drop_left,List.zip_append h2,<- List.append_assoc,z0,z1]
  refine add_in (fun p m=>z0▸m1 (List.mem_append_right _ (List.of_mem_zip (show (p.1,p.2)∈_ from m)).1)) (add_out ?_ fun p m=>?_)
  ·rw [List.map_fst_zip (Nat.le_of_eq h3)]
   exact (List.nodup_append.mp hn).2.1
  ·exact zip_none fun z=>(List.nodup_append.mp hn).2.2 _ z _ (List.of_mem_zip (show (p.1,p.2)∈_ from m)).1 rfl
 ·refine PySem.wpAny_ite_split (fun h=>?_) fun _=>?_
  ·have h':(!(([] : List Str).isEmpty))=true:=h
   exact no h'
  refine PySem.wpAny_pure ?_
  show Q (List.filterMap _ ((ns1++ns2++ns3)++[])) s
  rw [List.append_nil,fm_eq (g:=fun n=>(n,look (ns1++ns2++ns3) (vs++d3) n)) fun n m=>?_]
  ·exact hq
  ·obtain ⟨v,e⟩:=zip_some m (vs:=vs++d3) hn (by rw [List.length_append,List.length_append (as:=vs),h1,h3])
   unfold look
   rw [e];rfl
end Mine.C
namespace Mine.C
noncomputable def Fi.cx (f:Fi):Cx:=⟨f.names,f.scope⟩
noncomputable def dfT:List (Nat×List D):=[(1,[.none]),(23,[.bool false,.int 3]),(29,[.bool false]),(31,[.bool false,.int 3]),(32,[.bool false,.int 3]),(33,[.bool false]),(41,[.int 0]),(67,[.bool false,.none]),(68,[.bool false,.none]),(69,[.bool false,.none]),(70,[.bool false,.none]),(80,[.int 72,.int 20]),(81,[.int 500,.int 20,.int 250,.int 15,.int 31,.int 65535,.int 65535,.int 65535,.int 127,.int 1500,.int 11,.int 15,.int 600,.int 16777216]),(102,[.none]),(112,[.bool false])]
noncomputable def dfl (k:Nat):List D:=(dfT.lookup k).getD []
structure Fns (S:Sx) (fis:List Fi):Prop where
 fn:∀ k f,fis[k]?=some f->∃ fd dl,FnAt S k f fd/\DefsAt S fd.defaults dl/\All2 (RelD S S.fz0) (dfl k) dl
 glob:GlobOk S
noncomputable def startLoc (k:Nat) (f:Fi) (vs:List V):Loc:=(vs++((dfl k).drop (f.p2 (dfl k).length vs.length).length).map V.d).map some++List.replicate (f.names.length - f.par.length) none
theorem defs_rule {S:Sx} {s:Shared} {dV:Value} {dl:List Value} (h:DefsAt S dV dl) (hk:S.K.In s.heap):∃ r:Option (Array Value),(r.getD #[]).toList=dl/\∀ (M:Model) (A:Around) (E:Value->Shared->Prop) (Q:Option (Array Value)->Shared->Prop),Q r s->PySem.wpAny M A (seqItems? dV) Q E s:=by
 rcases h with ⟨rfl,rfl⟩ | ⟨a,o,n,rfl,h1,h2⟩
 ·exact ⟨none,rfl,fun M A E Q hq=>PySem.wpAny_pure hq⟩
 ·exact ⟨some dl.toArray,rfl,fun M A E Q hq=>wpAny_seqItems (hk _ _ h1) h2 hq⟩
theorem map_look {β:Type} {g:Str->β} {y:Str} {l:List Str} (h:y∈l):(l.map fun y=>(y,g y)).lookup y=some (g y):=by
 induction l with
 | nil=>exact nomatch h
 | cons z r ih =>
  rw [List.map_cons,List.lookup_cons]
  cases q:y==z with
  | true=>cases beq_iff_eq.mp q;rfl
  | false=>exact ih ((List.mem_cons.mp h).resolve_left fun e=>Bool.false_ne_true (q.symm.trans (beq_iff_eq.mpr e)))
theorem All2.drop {α β:Type} {R:α->β->Prop} {l:List α}:∀ {r:List β} (j:Nat),All2 R l r->All2 R (l.drop j) (r.drop j):=by
 induction l with
 | nil=>intro r j e;cases (show r=[] from e);rw [List.drop_nil,List.drop_nil];rfl
 | cons a l ih =>
  intro r j h
  cases j with
  | zero=>exact h
  | succ j=>cases (show IsCons .. from h) with | mk x y=>exact ih j y
theorem params_eq {p q:Arguments} (c1:p.posonlyargs.isEmpty=true) (c2:p.vararg.isNone=true) (c3:p.kwonlyargs.isEmpty=true) (c4:p.kwarg.isNone=true) (e:q=p):q=⟨[],p.args,none,[],p.kw_defaults,none,p.defaults⟩:=by
 subst e
 cases q with | mk a1 a2 a3 a4 a5 a6 a7 =>
 cases List.isEmpty_iff.mp c1
 cases Option.isNone_iff_eq_none.mp c2
 cases List.isEmpty_iff.mp c3
 cases Option.isNone_iff_eq_none.mp c4
 rfl
theorem fn_pre {S:Sx} {n m:Nat} {f:Fi} {s:Shared} {cvs dl:List Value} {fd:FuncData} (D:fd.params=f.params) (hdf:DefsAt S fd.defaults dl) (ld:dl.length=m) (hc:FnOk f m n) (lv:cvs.length=n) (hk:S.K.In s.heap) :
  BindsTo s fd ⟨cvs,[]⟩ (bound f.par (cvs++dl.drop (f.p2 m n).length))/\(cvs++dl.drop (f.p2 m n).length).length=f.par.length/\f.par.Nodup/\ScOk f.cx/\∀ x∈f.par,f.scope.names.lookup x=some .local:=by
 obtain ⟨c1,c2,c3,c4,c5,c6,c7,c8,c9,c10,c11,c12,c13⟩:=hc
 obtain ⟨r,hr,hs⟩:=defs_rule (s:=s) hdf hk
 have hn:f.par.Nodup:=(List.nodup_append.mp c12).1
 have lv':(f.p1 m++f.p2 m n).length=cvs.length:=c6.trans lv.symm
 have l2:(f.p2 m n).length=(dl.take (f.p2 m n).length).length:=by
  rw [List.length_take,ld];exact (Nat.min_eq_left (Nat.le_trans (Nat.le_add_right _ _) (Nat.le_of_eq c7.symm))).symm
 have l3:(f.par.drop n).length=(dl.drop (f.p2 m n).length).length:=by
  rw [List.length_drop (l:=dl),ld]
  exact (Nat.sub_eq_of_eq_add (by rw [Nat.add_comm];exact c7)).symm
 have hb:=binds_ok (s:=s) (ns1:=f.p1 m) (params_eq c1 c2 c3 c4 D) c5 (c5▸hn) lv' l2 l3 (hr.trans (List.take_append_drop _ _).symm) hs
 rw [<- c5] at hb
 refine ⟨hb,?_,hn,⟨c8,c9,c10,c11,c12⟩,c13⟩
 rw [List.length_append,<- l3,lv,c5,List.length_append,c6,<- c5]
theorem bound_at {f:Fi} {x:Str} {i:Nat} {cvs:List Value} {c:Value} (hn:f.par.Nodup) (hx:f.par[i]?=some x) (e:cvs[i]?=some c):(bound f.par cvs).reverse.lookup x=some c:=by
 unfold bound
 rw [<- List.map_reverse,map_look (g:=look f.par _) (List.mem_reverse.mpr (List.mem_of_getElem? hx))]
 unfold look
 rw [zip_at hn hx e];rfl
theorem fn_ok {S:Sx} {fis:List Fi} {d k:Nat} {f:Fi} {b:List Stx} {vs:List V} {hp:Hp} {Q:V->Hp->Prop} {X:Bs->Prop} (Y:Fns S fis) (hf:fis[k]?=some f) (hc:decide (FnOk f (dfl k).length vs.length)=true) (hb':chkS f.cx b f.body=true)
  (hw:Wss b d (CallOk S) (startLoc k f vs) hp ⟨fun loc hp=>Q (.d .none) hp,fun loc hp=>False,fun loc hp=>False,Q⟩ X):CallOk S (d+1) (.fn k) vs hp Q X:=by
 refine ⟨@fun F mp w s cf cvs hd ha rf rs=>?_⟩
 cases (show cf=_ from rf)
 obtain ⟨fd,dl,D,hdf,rd⟩:=Y.fn k f hf
 obtain ⟨hb,lc,hn,sc,c13⟩:=fn_pre (s:=s) D.params hdf rd.length (of_decide_eq_true hc) rs.length ha.kIn
 have rall:All2 (Rel S w) (vs++((dfl k).drop (f.p2 (dfl k).length vs.length).length).map V.d) (cvs++dl.drop (f.p2 (dfl k).length vs.length).length) :=
  All2.app (All2.map (R:=Rel S w) (g:=V.d) ((All2.drop _ rd).imp fun a b=>RelD.mono ha.zero)) rs
 refine wpAny_call (code_at (cx:=f.cx) (loc0:=startLoc k f vs) D sc rfl Y.glob hd ha hb (fun y m=>?_) (fun i v e=>?_) fun F' s1 hm hd' R0 lv=>?_)
 ·obtain ⟨n,m,e⟩:=List.mem_map.mp m
  rw [<- e];exact c13 n m
 ·unfold startLoc at e
  by_cases hi:i < (vs++((dfl k).drop (f.p2 (dfl k).length vs.length).length).map V.d).length
  ·rw [List.getElem?_append_left (by rw [List.length_map];exact hi),List.getElem?_map,List.getElem?_eq_getElem hi] at e
   obtain ⟨cv,e1,r1⟩:=rall.get (List.getElem?_eq_getElem hi)
   have hx:=List.getElem?_eq_getElem (l:=f.par) (lc▸(List.getElem?_eq_some_iff.mp e1).1)
   exact ⟨_,cv,(List.getElem?_append_left (lc▸(List.getElem?_eq_some_iff.mp e1).1)).trans hx,bound_at hn hx e1,c13 _ (List.mem_of_getElem? hx),Option.some.inj (Option.some.inj e)▸r1⟩
  ·rw [List.getElem?_append_right (by rw [List.length_map];exact Nat.not_lt.mp hi)] at e
   exact nomatch List.eq_of_mem_replicate (List.mem_of_getElem? e)
 ·refine wpAny_mono (Wss_ok b hb' R0 hd' hw) (fun g s2 p=>?_) fun e s2 p=>?_
  ·cases p with
   | next l a b q=>exact ⟨_,_,_,b,fun a2 => .mk (v := .d .none) l rfl a2 q⟩
   | brk l a b q=>exact q.elim
   | cont l a b q=>exact q.elim
   | ret l r a q=>exact ⟨_,_,_,a,fun a2 => .mk l r a2 q⟩
  ·exact lv p
end Mine.C
namespace Mine.C
section
variable {S:Sx} {d b p:Nat} {hp:Hp} {Q:V->Hp->Prop} {X:Bs->Prop} {v v1 v2 v3:V}
theorem bi1 (h:∀ {F:Fx S} {mp:Mp} {w:Wd} {s:Shared} {c:Value},At F mp hp w s->Rel S w v c->PySem.wpAny (model S.prog S.w) F.A (call (biV b) [c]) (PostE F mp w Q) (PostX F w X) s):CallOk S d (.bi b) [v] hp Q X:=by
 refine ⟨@fun F mp w s cf cvs hd ha rf rs=>?_⟩
 cases (show cf=biV b from rf)
 cases (show IsCons .. from rs) with | mk r rs1 =>
 cases (show _=[] from rs1)
 exact lf (h ha r)
theorem bi2 (h:∀ {F:Fx S} {mp:Mp} {w:Wd} {s:Shared} {c c1:Value},At F mp hp w s->Rel S w v c->Rel S w v1 c1->PySem.wpAny (model S.prog S.w) F.A (call (biV b) [c,c1]) (PostE F mp w Q) (PostX F w X) s):CallOk S d (.bi b) [v,v1] hp Q X:=by
 refine ⟨@fun F mp w s cf cvs hd ha rf rs=>?_⟩
 cases (show cf=biV b from rf)
 cases (show IsCons .. from rs) with | mk r rs1 =>
 cases (show IsCons .. from rs1) with | mk r1 rs2 =>
 cases (show _=[] from rs2)
 exact lf (h ha r r1)
theorem lenB {x:Bs} (hz:x.length<=1000000000) (hq:Q (.d (.int x.length)) hp):CallOk S d (.bi 0) [.d (.bytes x)] hp Q X:=bi1 fun {F mp w s c} ha r=>by
 obtain ⟨t,rfl⟩:=r
 show PySem.wpAny _ _ (call (.builtin "len") _) _ _ _
 exact len_bytes (Nat.le_trans hz (by decide)) (PI (.refl _) (ha.toks _) hq)
theorem lenO {x:O} {n:Nat} (e:hp[p]?=some x) (hx:∀ w o,ORel S w x o->∃ cvs k,o=listOf (cvs:List Value).toArray k/\cvs.length=n) (hz:n<=1000000) (hq:Q (.d (.int n)) hp) (lx:live x=true:=by rfl):CallOk S d (.bi 0) [.ref p] hp Q X:=bi1 fun {F mp w s c} ha r=>by
 cases At.ref ha e r lx with | mk g1 g2 g3 =>
 obtain ⟨cvs,k,rfl,hl⟩:=hx _ _ g3
 show PySem.wpAny _ _ (call (.builtin "len") _) _ _ _
 refine call_len_list (l:=_) (items:=cvs.toArray) ⟨_,g2,rfl,k,rfl⟩ (by rw [List.size_toArray,hl];exact Int.lt_of_le_of_lt (Int.ofNat_le.mpr hz) (by decide)) ?_
 rw [List.size_toArray,hl]
 exact PI (.refl _) (ha.toks _) hq
theorem lenL {xs:List D} (e:hp[p]?=some (.list xs)) (hz:xs.length<=1000000) (hq:Q (.d (.int xs.length)) hp):CallOk S d (.bi 0) [.ref p] hp Q X:=lenO e (fun w o r=>IsList.rec (fun {cvs n} q=>⟨cvs,n,rfl,All2.length q⟩) r) hz hq
theorem absI {n:Int} (hq:Q (.d (.int (if n < 0 then -n else n))) hp):CallOk S d (.bi 3) [.d (.int n)] hp Q X:=bi1 fun {F mp w s c} ha r=>by
 obtain ⟨t,rfl⟩:=r
 show PySem.wpAny _ _ (call (.builtin "abs") _) _ _ _
 exact call_abs_int fun u tk=>PI (.refl _) (ha.toks _) hq
theorem intI {n:Int} (hq:Q (.d (.int n)) hp):CallOk S d (.bi 7) [.d (.int n)] hp Q X:=bi1 fun {F mp w s c} ha r=>by
 obtain ⟨t,rfl⟩:=r
 show PySem.wpAny _ _ (call (.type "int") _) _ _ _
 exact call_int_int (PI (.refl _) ha hq)
theorem minI {x y:Int} (hq:Q (.d (.int (if y < x then y else x))) hp):CallOk S d (.bi 9) [.d (.int x),.d (.int y)] hp Q X:=bi2 fun {F mp w s c c1} ha r r1=>by
 obtain ⟨t,rfl⟩:=r
 obtain ⟨u,rfl⟩:=r1
 show PySem.wpAny _ _ (call (.builtin "min") _) _ _ _
 refine min_two_ints F.handled fun h' tk hk=>?_
 have a1:=ha.ext (h':=h') (tk:=tk) hk
 by_cases h:y < x
 ·rw [if_pos h] at hq ⊢;exact PI (.refl _) a1 hq
 ·rw [if_neg h] at hq ⊢;exact PI (.refl _) a1 hq
theorem appO {x y:O} (e:hp[p]?=some x) (hx:∀ w o,ORel S w x o->∃ cvs k,o=listOf (cvs:List Value).toArray k/\cvs.length<=1000000/\∀ cv n,Rel S w v cv->ORel S w y (listOf (cvs++[cv]).toArray n)) (hq:Q (.d .none) (hp.set p y)) (lx:live x=true:=by rfl) (ly:live y=true:=by rfl):CallOk S d (.bi 10) [.ref p,v] hp Q X:=bi2 fun {F mp w s c c1} ha r r1=>by
 cases At.ref ha e r lx with | mk g1 g2 g3 =>
 obtain ⟨cvs,k,rfl,hl,hy⟩:=hx _ _ g3
 show PySem.wpAny _ _ (call (.builtin "list.append") _) _ _ _
 refine append_exact g2 ?_ (by rw [List.size_toArray];exact Nat.le_trans (Nat.succ_le_succ hl) (by decide))
 obtain ⟨n',hn'⟩:=mapSeq_push (xs:=cvs) (n:=k) (x:=c1)
 exact PN (.refl _) (ha.put (tk:=s.toks) e g1 (Heap.SameBut.update _ _ _).extBut ((Heap.get?_update_self _ g2 rfl).trans (congrArg some hn')) (hy c1 n' r1) lx ly) hq
theorem appD {xs:List D} {z:D} (e:hp[p]?=some (.list xs)) (hz:xs.length<=1000000) (hq:Q (.d .none) (hp.set p (.list (xs++[z])))):CallOk S d (.bi 10) [.ref p,.d z] hp Q X :=
 appO e (fun w o r=>IsList.rec (fun {cvs n} q=>⟨cvs,n,rfl,(All2.length q).symm▸hz,fun cv n r=>IsList.mk (All2.app (l':=[z]) (r':=[cv]) (IsCons.mk (Rs:=All2 (RelD S w.fz) []) r rfl) q)⟩) r) hq
theorem appR {xs:List Nat} {i:Nat} (e:hp[p]?=some (.refs xs)) (hz:xs.length<=1000000) (hq:Q (.d .none) (hp.set p (.refs (xs++[i])))):CallOk S d (.bi 10) [.ref p,.ref i] hp Q X :=
 appO e (fun w o r=>IsList.rec (fun {cvs n} q=>⟨cvs,n,rfl,(All2.length q).symm▸hz,fun cv n r=>IsList.mk (All2.app (l':=[i]) (r':=[cv]) (IsCons.mk (Rs:=All2 (IsRef w.m) []) r rfl) q)⟩) r) hq
end
end Mine.C
namespace Mine.C
section
variable {S:Sx} {d p:Nat} {hp:Hp} {Q:V->Hp->Prop} {X:Bs->Prop} {v:V}
theorem pop0 {x y:O} (e:hp[p]?=some x) (hx:∀ w o,ORel S w x o->∃ cv cvs n,o=listOf (cv::cvs:List Value).toArray n/\cvs.length < 1000000/\Rel S w v cv/\∀ n,ORel S w y (listOf cvs.toArray n)) (hq:Q v (hp.set p y)) (lx:live x=true:=by rfl) (ly:live y=true:=by rfl):CallOk S d (.bi 11) [.ref p,.d (.int 0)] hp Q X:=bi2 fun {F mp w s c c1} ha r r1=>by
 obtain ⟨t,rfl⟩:=r1
 cases At.ref ha e r lx with | mk g1 g2 g3 =>
 obtain ⟨news,iv⟩:=ha.inv
 obtain ⟨o,hm,ho⟩:=iv.own _ (List.mem_append_right _ (cells_at g1 e lx))
 obtain ⟨cv,cvs,n,rfl,hl,hv,hy⟩:=hx _ _ ho
 show PySem.wpAny _ _ (call (.builtin "list.pop") _) _ _ _
 exact kl_popAt (k:=0) (p:=[]) (q:=cvs) (y:=cv) iv.fr iv.nw (by decide) (seqIx (Int.le_refl 0) (by rw [List.size_toArray];exact Nat.zero_lt_succ _)) rfl (upd_put hm iv.nd) (Nat.le_trans (Nat.succ_le_of_lt hl) (by decide)) fun h' F' N' => .mk (v:=v) (.refl _) hv (iv.putN ha e g1 F' N' (hy _) rfl rfl lx ly) hq
theorem kl_snoc (l:List Value) (x:Value):kl_last (l++[x])=some (l,x):=by
 induction l with
 | nil=>rfl
 | cons a l ih =>
  show (match kl_last (l++[x]) with
   | some (p,y)=>some (a::p,y)
   | none=>some ([],a))=_
  rw [ih]
theorem popE {x y:O} (e:hp[p]?=some x) (hx:∀ w o,ORel S w x o->∃ cvs cv n,o=listOf (cvs++[cv] : List Value).toArray n/\cvs.length < 1000000/\Rel S w v cv/\∀ n,ORel S w y (listOf cvs.toArray n)) (hq:Q v (hp.set p y)) (lx:live x=true:=by rfl) (ly:live y=true:=by rfl):CallOk S d (.bi 11) [.ref p] hp Q X:=bi1 fun {F mp w s c} ha r=>by
 cases At.ref ha e r lx with | mk g1 g2 g3 =>
 obtain ⟨news,iv⟩:=ha.inv
 obtain ⟨o,hm,ho⟩:=iv.own _ (List.mem_append_right _ (cells_at g1 e lx))
 obtain ⟨cvs,cv,n,rfl,hl,hv,hy⟩:=hx _ _ ho
 show PySem.wpAny _ _ (call (.builtin "list.pop") _) _ _ _
 exact kl_pop (p:=cvs) (y:=cv) iv.fr iv.nw (kl_snoc cvs cv) (upd_put hm iv.nd) (by rw [List.length_append];exact Nat.le_trans (Nat.succ_le_of_lt hl) (by decide)) fun h' F' N' => .mk (v:=v) (.refl _) hv (iv.putN ha e g1 F' N' (hy _) rfl rfl lx ly) hq
theorem pop0D {z:D} {xs:List D} (e:hp[p]?=some (.list (z::xs))) (hz:xs.length < 1000000) (hq:Q (.d z) (hp.set p (.list xs))):CallOk S d (.bi 11) [.ref p,.d (.int 0)] hp Q X :=
 pop0 e (fun w o r=>IsList.rec (fun {cvs n} q=>by cases (show IsCons .. from q) with | mk a b=>exact ⟨_,_,n,rfl,(All2.length b).symm▸hz,a,fun n=>IsList.mk b⟩) r) hq
theorem popER {i:Nat} {xs:List Nat} (e:hp[p]?=some (.refs (xs++[i]))) (hz:xs.length < 1000000) (hq:Q (.ref i) (hp.set p (.refs xs))):CallOk S d (.bi 11) [.ref p] hp Q X :=
 popE e (fun w o r=>IsList.rec (fun {cvs n} q=>by
  obtain ⟨a,b,rfl,q1,q2⟩:=All2.split q
  cases (show IsCons .. from q2) with | mk x y =>
  cases (show _=[] from y)
  exact ⟨a,_,n,rfl,(All2.length q1).symm▸hz,x,fun n=>IsList.mk q1⟩) r) hq
end
end Mine.C
namespace Mine
noncomputable def joinB (sep:Bs):List Bs->Bs
 | []=>[]
 | [b]=>b
 | b::r=>b++sep++joinB sep r
theorem owner_barr:Manifest.owners.lookup (String.ofList ['y','a','r','r','a','e','t','y','b'].reverse)=some Manifest.sig_bytearray:=by kernel_rfl
theorem entry_bytes_join:entryFor table "bytes.join" = some Builtin.«bytes.join»:=entryFor_of_tree (by kernel_rfl)
theorem args_bytes_join (a b:Value):argsOk "bytes.join" ⟨[a,b],[]⟩:=by
 unfold argsOk;rw [signature?_of (id := "bytes.join") (n:=['n','i','o','j']) (o:=['s','e','t','y','b']) (by kernel_rfl) FB.owner_bytes];kernel_rfl
theorem entry_bytes_partition:entryFor table "bytes.partition" = some Builtin.«bytes.partition»:=entryFor_of_tree (by kernel_rfl)
theorem args_bytes_partition (a b:Value):argsOk "bytes.partition" ⟨[a,b],[]⟩:=by
 unfold argsOk;rw [signature?_of (id := "bytes.partition") (n:=['n','o','i','t','i','t','r','a','p']) (o:=['s','e','t','y','b']) (by kernel_rfl) FB.owner_bytes];kernel_rfl
theorem entry_bytes_index:entryFor table "bytes.index" = some Builtin.«bytes.index»:=entryFor_of_tree (by kernel_rfl)
theorem args_bytes_index (a b:Value):argsOk "bytes.index" ⟨[a,b],[]⟩:=by
 unfold argsOk;rw [signature?_of (id := "bytes.index") (n:=['x','e','d','n','i']) (o:=['s','e','t','y','b']) (by kernel_rfl) FB.owner_bytes];kernel_rfl
theorem entry_bytes_split:entryFor table "bytes.split" = some Builtin.«bytes.split»:=entryFor_of_tree (by kernel_rfl)
theorem args_bytes_split (a b:Value):argsOk "bytes.split" ⟨[a,b],[]⟩:=by
 unfold argsOk;rw [signature?_of (id := "bytes.split") (n:=['t','i','l','p','s']) (o:=['s','e','t','y','b']) (by kernel_rfl) FB.owner_bytes];kernel_rfl
theorem slot_bytearray_append:Slot "bytearray" "append" "bytearray.append" :=
 .of (owner := "bytearray") (n := "append") (by rw [typeLookup_type,builtinLookup_eq_fast];kernel_rfl) (by decide +kernel) (by decide +kernel) (by decide +kernel)
  (by first | exact .inl (by decide +kernel) | exact .inr (by decide +kernel)) (by rw [isSubtype_type];kernel_rfl)
theorem entry_bytearray_append:entryFor table "bytearray.append" = some Builtin.«bytearray.append»:=entryFor_of_tree (by kernel_rfl)
theorem args_bytearray_append (a b:Value):argsOk "bytearray.append" ⟨[a,b],[]⟩:=by
 unfold argsOk;rw [signature?_of (id := "bytearray.append") (n:=['d','n','e','p','p','a']) (o:=['y','a','r','r','a','e','t','y','b']) (by kernel_rfl) owner_barr];kernel_rfl
open Builtin Builtin.Bytes
section
variable {M:Model} {A:Around} {E:Value->Shared->Prop}
theorem forIn_list_wp {β:Type} {f:Nat->β->Sem (ForInStep β)} {s:Shared} (st:Nat->β):∀ (k i:Nat),(∀ j,i<=j->j < i+k->wpAny M A (f j (st j)) (fun r s'=>r = .yield (st (j+1))/\s'=s) E s)->wpAny M A (forIn (List.range' i k) (st i) f) (fun r s'=>r=st (i+k)/\s'=s) E s
 | 0,i,_=>wpAny_pure ⟨rfl,rfl⟩
 | k+1,i,h=>by
  rw [List.range'_succ,List.forIn_cons]
  refine wpAny_bind (wpAny_mono (h i (Nat.le_refl _) (by omega)) (fun r s' ⟨e1,e2⟩=>?_) fun _ _ x=>x)
  subst e1;subst e2
  have:=forIn_list_wp (s:=s') st k (i+1) fun j h1 h2=>h j (by omega) (by omega)
  rw [show i+1+k=i+(k+1) by omega] at this
  exact this
theorem forIn_range_wp {β:Type} {f:Nat->β->Sem (ForInStep β)} {s:Shared} (st:Nat->β) (n:Nat) (h:∀ j,j < n->wpAny M A (f j (st j)) (fun r s'=>r = .yield (st (j+1))/\s'=s) E s):wpAny M A (forIn [:n] (st 0) f) (fun r s'=>r=st n/\s'=s) E s:=by
 rw [Std.Legacy.Range.forIn_eq_forIn_range']
 have:=forIn_list_wp (s:=s) (f:=f) (M:=M) (A:=A) (E:=E) st n 0 fun j _ h2=>h j (by omega)
 simpa [Std.Legacy.Range.size] using this
theorem take_eq {id:String} {b:Array UInt8} {t:Tok}:takeBufferQuiet? id (.bytes b t) 0=pure (some (b,none)):=by
 unfold takeBufferQuiet? takeBuffer?
 rw [KBy.special_eq KBy.look_buffer,KBy.own_buffer]
 have e:buffer? id (.bytes b t) (full:=(0:Int)==fullReadOnly)=pure (some b):=by
  unfold Bytes.buffer?
  rw [KBy.special_eq KBy.look_buffer,KBy.own_buffer,KBy.own_release]
  kernel_rfl
 simp (config:={ iota:=false }) only [pure_bind]
 rw [e]
 rfl
theorem wp_joinLetGo {keep:List Value} {s:Shared} {Q:Unit->Shared->Prop} (hq:Q () s):∀ {taken:List (Value×Option Value)},(∀ p∈taken,p.2=none)->wpAny M A (joinLetGo taken keep) Q E s
 | [],_=>wpAny_pure hq
 | (x,w)::rest,h=>by
  have hw:w=none:=h (x,w) (.head _)
  subst hw
  unfold joinLetGo
  refine wpAny_bind (wpAny_letGo ?_)
  exact wp_joinLetGo hq fun p hp=>h p (.tail _ hp)
end
open Builtin Builtin.Bytes
inductive BytesAre:List Value->List Bs->Prop
 | nil:BytesAre [] []
 | cons {b:Bs} {t:Tok} {vs:List Value} {bs:List Bs}:BytesAre vs bs->BytesAre (.bytes b.toArray t::vs) (b::bs)
theorem BytesAre.len:∀ {vs:List Value} {bs:List Bs},BytesAre vs bs->vs.length=bs.length
 | _,_,.nil=>rfl
 | _,_,.cons r=>by simp [r.len]
theorem BytesAre.at_:∀ {vs:List Value} {bs:List Bs},BytesAre vs bs->∀ {i:Nat},i < vs.length->∃ b t,vs[i]?=some (.bytes (b:Bs).toArray t)/\bs[i]?=some b
 | _,_,.cons (b:=b) (t:=t) r,0,_=>⟨b,t,rfl,rfl⟩
 | _,_,.cons r,i+1,h=>r.at_ (i:=i) (by simpa using h)
noncomputable def joinAll (sep:Bs) (bs:List Bs):Bs:=(joined sep.toArray (bs.map List.toArray)).toList
theorem joined_fold (sep:Array UInt8):∀ (l:List (Array UInt8)) (k:Nat) (acc:Array UInt8),0 < k->((l.zipIdx k).foldl (fun out (p,i)=>(if i > 0 then out++sep else out)++p) acc)=acc++(l.flatMap fun p=>(sep++p).toList).toArray
 | [],_,acc,_=>by simp
 | p::l,k,acc,h=>by
  rw [List.zipIdx_cons,List.foldl_cons,joined_fold sep l (k+1) _ (by omega)]
  apply Array.toList_inj.mp
  simp [h]
theorem joinB_eq (sep:Bs):∀ (b:Bs) (bs:List Bs),joinB sep (b::bs)=b++bs.flatMap fun p=>sep++p
 | b,[]=>by simp [joinB]
 | b,c::bs=>by rw [joinB,joinB_eq sep c bs];simp;simp
theorem joinAll_eq (sep:Bs) (bs:List Bs):joinAll sep bs=joinB sep bs:=by
 cases bs with
 | nil=>rfl
 | cons b bs =>
  unfold joinAll joined
  rw [joinB_eq,List.map_cons,List.zipIdx_cons,List.foldl_cons,joined_fold _ _ _ _ (by omega)]
  simp [List.flatMap_map]
theorem joinB_len (sep:Bs) (bs:List Bs):bs.foldl (fun n b=>n+b.length) (sep.length*(bs.length - 1))=(joinB sep bs).length:=by
 have g:∀ (bs:List Bs) (n:Nat),bs.foldl (fun n b=>n+b.length) n=n+bs.foldl (fun n b=>n+b.length) 0:=by
  intro bs
  induction bs with
  | nil=>simp
  | cons b bs ih=>intro n;rw [List.foldl_cons,List.foldl_cons,ih (n+b.length),ih (0+b.length)];omega
 have h:∀ bs:List Bs,(bs.flatMap fun p=>sep++p).length=sep.length*bs.length+bs.foldl (fun n b=>n+b.length) 0:=by
  intro bs
  induction bs with
  | nil=>simp
  | cons b bs ih=>rw [List.flatMap_cons,List.length_append,ih,List.foldl_cons,g bs (0+b.length),List.length_append,List.length_cons,Nat.mul_add];omega
 cases bs with
 | nil=>simp [joinB]
 | cons b bs=>rw [joinB_eq,List.length_append,h,List.foldl_cons,g];simp;omega
theorem jm1 {γ:Type} {vs:List Value} (h:∀ x,vs≠[x]) (a:Value->γ) (b:Array Value->γ):joinM.match_1 (fun z=>γ) vs.toArray a b=b vs.toArray:=by
 cases vs with
 | nil=>rfl
 | cons x r =>
  cases r with
  | nil=>exact absurd rfl (h x)
  | cons y r=>rfl
theorem wp_join {M:Model} {A:Around} {E:Value->Shared->Prop} {sep:Bs} {tk:Tok} {l:Addr} {vs:List Value} {bs:List Bs} {n:Nat} {h:Heap} {g:Array GenState} {dr:Drawn} {t:Nat} {os:OsState} {Q:Value->Shared->Prop} (ho:h.get? l=some (listOf vs.toArray n)) (hb:BytesAre vs bs) (hz:(joinB sep bs).length<=1000000)
  (hq:∀ u k,Q (.bytes (joinB sep bs).toArray u) ⟨h,g,dr,k,os⟩) :
  wpAny M A (Builtin.«bytes.join» ⟨[.bytes sep.toArray tk,.ref l],[]⟩) (fun fin s'=>∃ v,fin = .done (.ret v)/\Q v s') E ⟨h,g,dr,t,os⟩:=by
 have big:∀ {vs:List Value} {bs:List Bs} {n:Nat},h.get? l=some (listOf vs.toArray n)->BytesAre vs bs->(joinB sep bs).length<=1000000->(∀ u k,Q (.bytes (joinB sep bs).toArray u) ⟨h,g,dr,k,os⟩)->(∀ x,vs≠[x]) ->
   wpAny M A (Builtin.«bytes.join» ⟨[.bytes sep.toArray tk,.ref l],[]⟩) (fun fin s'=>∃ v,fin = .done (.ret v)/\Q v s') E ⟨h,g,dr,t,os⟩:=by
  intro vs bs n ho hb hz hq hne
  unfold Builtin.«bytes.join» joinM
  repeat (first | with_reducible refine wpAny_loadPart_at ho ?_ | wp_step)
  have hlen:=hb.len
  have tail:∀ {taken:List (Value×Option Value)},(∀ p∈taken,p.2=none)->wpAny M A (do
    let result <- Kind.bytes.new (joined sep.toArray (bs.map List.toArray))
    holding (result::List.flatMap (fun x=>match x with
       | (y,u)=>y::u.toList) taken) point
    joinLetGo taken [result]
    ret result) (fun fin s'=>∃ v,fin = .done (.ret v)/\Q v s') E ⟨h,g,dr,t,os⟩:=by
   intro taken ht
   have e:joined sep.toArray (bs.map List.toArray)=(joinB sep bs).toArray:=by rw [<- joinAll_eq];unfold joinAll;simp
   rw [e]
   refine wpAny_bind (wpAny_mkBytes (b:=(joinB sep bs).toArray) ?_ (by simp;unfold sizeLine;omega))
   refine wpAny_bind (wpAny_holding (wpAny_point (Q:=fun _ s=>wpAny M A _ _ E s) ?_))
   refine wpAny_bind (wp_joinLetGo ?_ ht)
   exact wpAny_pure ⟨_,rfl,hq _ _⟩
  rw [jm1 hne]
  refine wpAny_bind (m:=forIn _ _ _) ?_
  refine wpAny_mono (forIn_range_wp (s:=⟨h,g,dr,t,os⟩) (fun i=>(((bs.take i).map List.toArray).toArray,(vs.take i).map fun v=>(v,(none:Option Value)))) vs.toArray.size fun j hj=>?_) (fun r s' ⟨e1,e2⟩=>?_) fun _ _ x=>x
  ·obtain ⟨b,u,e1,e2⟩:=hb.at_ (i:=j) (by simpa using hj)
   have eg:vs.toArray.getD j Value.none = .bytes b.toArray u:=by
    rw [Array.getD_eq_getD_getElem?];simp [e1]
   have ea:((vs.take j).map fun v=>(v,(none:Option Value))).any (fun x=>x.1.onHeap)=false:=by
    rw [List.any_eq_false]
    intro p hp
    obtain ⟨v,hv,rfl⟩:=List.mem_map.mp hp
    obtain ⟨i,hi,e⟩:=List.getElem_of_mem (List.mem_of_mem_take hv)
    obtain ⟨b',u',e3,_⟩:=hb.at_ hi
    rw [List.getElem?_eq_getElem hi,e] at e3
    cases e3
    simp [Value.onHeap]
   dsimp only
   refine wpAny_bind (wpAny_seqItems ho rfl ?_)
   dsimp only
   rw [eg,ea]
   rw [if_neg (by decide)]
   refine wpAny_bind (wpAny_holding (wpAny_of_eq take_eq ?_))
   dsimp only
   refine wpAny_bind (wpAny_seqItems ho rfl ?_)
   dsimp only
   rw [if_neg (by simp)]
   refine wpAny_pure ⟨?_,rfl⟩
   rw [List.take_add_one,List.take_add_one,e1,e2]
   simp
  ·subst e1;subst e2
   refine wpAny_bind (wpAny_of_eq (a:=sep.toArray) rfl ?_)
   have e1:bs.take vs.toArray.size=bs:=by rw [List.size_toArray,hlen];exact List.take_length
   have hz':tooLong (Array.foldl (fun (x1:Nat) (x2:Array UInt8)=>x1+x2.size) (sep.toArray.size*((bs.map List.toArray).toArray.size - 1)) (bs.map List.toArray).toArray)=false:=by
    have:Array.foldl (fun (x1:Nat) (x2:Array UInt8)=>x1+x2.size) (sep.toArray.size*((bs.map List.toArray).toArray.size - 1)) (bs.map List.toArray).toArray=(joinB sep bs).length:=by
     rw [<- joinB_len]
     simp [List.foldl_map]
    rw [this]
    unfold tooLong
    exact decide_eq_false (by rw [sizeLine_eq];omega)
   dsimp only
   rw [e1,hz']
   exact tail fun p hp=>by obtain ⟨v,_,rfl⟩:=List.mem_map.mp hp;rfl
 cases hb with
 | nil=>exact big ho .nil hz hq (by simp)
 | cons r =>
  cases r with
  | cons r=>exact big ho (.cons (.cons r)) hz hq (by simp)
  | nil =>
   rename_i b u
   unfold Builtin.«bytes.join» joinM
   repeat (first | with_reducible refine wpAny_loadPart_at ho ?_ | wp_step)
   exact ⟨_,rfl,hq u t⟩
end Mine
namespace Mine.C
section
variable {S:Sx} {d p:Nat} {hp:Hp} {Q:V->Hp->Prop} {X:Bs->Prop}
theorem bytesAre_of {fz:Fz} {bs:List Bs}:∀ {cvs:List Value},All2 (RelD S fz) (bs.map D.bytes) cvs->BytesAre cvs bs:=by
 induction bs with
 | nil=>intro cvs e;cases (show cvs=[] from e);exact .nil
 | cons b bs ih =>
  intro cvs h
  cases (show IsCons .. from h) with | mk r rs =>
  obtain ⟨t,rfl⟩:=(show ∃ t,_=Value.bytes b.toArray t from r)
  exact .cons (ih rs)
theorem joinOk {sep:Bs} {bs:List Bs} (e:hp[p]?=some (.list (bs.map D.bytes))) (hz:(joinB sep bs).length<=1000000) (hq:Q (.d (.bytes (joinB sep bs))) hp):CallOk S d (.bi 14) [.d (.bytes sep),.ref p] hp Q X:=bi2 fun {F mp w s c c1} ha r r1=>by
 obtain ⟨t,rfl⟩:=r
 cases At.ref ha e r1 with | mk g1 g2 g3 =>
 cases (show IsList .. from g3) with | mk g4 =>
 obtain ⟨hh,g,dr,tt,os⟩:=s
 show PySem.wpAny _ _ (call (.builtin "bytes.join") _) _ _ _
 exact wpAny_call_entry slot_bytes_join (typeIs_bytes _ _ _) entry_bytes_join (wp_join g2 (bytesAre_of g4) hz fun u k=>PB (.refl _) (ha.keep rfl rfl rfl) hq) (args_bytes_join _ _)
end
end Mine.C
namespace Mine.C
section
variable {S:Sx} {d b p:Nat} {hp:Hp} {Q:V->Hp->Prop} {X:Bs->Prop} {v v1 v2:V}
theorem bi3 (h:∀ {F:Fx S} {mp:Mp} {w:Wd} {s:Shared} {c c1 c2:Value},At F mp hp w s->Rel S w v c->Rel S w v1 c1->Rel S w v2 c2->PySem.wpAny (model S.prog S.w) F.A (call (biV b) [c,c1,c2]) (PostE F mp w Q) (PostX F w X) s):CallOk S d (.bi b) [v,v1,v2] hp Q X:=by
 refine ⟨@fun F mp w s cf cvs hd ha rf rs=>?_⟩
 cases (show cf=biV b from rf)
 cases (show IsCons .. from rs) with | mk r rs1 =>
 cases (show IsCons .. from rs1) with | mk r1 rs2 =>
 cases (show IsCons .. from rs2) with | mk r2 rs3 =>
 cases (show _=[] from rs3)
 exact lf (h ha r r1 r2)
theorem bi0 (h:∀ {F:Fx S} {mp:Mp} {w:Wd} {s:Shared},At F mp hp w s->wpAny (model S.prog S.w) F.A (call (biV b) []) (PostE F mp w Q) (PostX F w X) s):CallOk S d (.bi b) [] hp Q X:=by
 refine ⟨@fun F mp w s cf cvs hd ha rf rs=>?_⟩
 cases (show cf=biV b from rf)
 cases (show cvs=[] from rs)
 exact h ha
theorem got {w:Wd} {fs:List (Int×D)} {kvs:List (Int×Value)} {k:Int} {z:D} {cz:Value} {P:Value->Prop} (g5:All2 (PairR id (RelD S w.fz)) fs kvs) (rz:RelD S w.fz z cz) (h:∀ cv,RelD S w.fz ((fs.lookup k).getD z) cv->P cv):P ((kvs.lookup k).getD cz):=by
 have hl:=lookup_rel (g:=id) (k:=k) idInj g5
 cases e:fs.lookup k with
 | some x =>
  obtain ⟨cv,e1,r1⟩:=hl.1 x e
  rw [show kvs.lookup k=some cv from e1]
  rw [e] at h
  exact h cv r1
 | none =>
  have h2:=hl.2
  rw [e] at h2 h
  rw [show kvs.lookup k=none from Option.not_isSome_iff_eq_none.mp (by rw [show List.lookup k kvs=List.lookup (id k) kvs from rfl,<- h2];exact Bool.false_ne_true)]
  exact h cz rz
theorem getD2 {k:Int} {z:D} {fs:List (Int×D)} (e:hp[p]?=some (.idict fs)) (hq:Q (.d ((fs.lookup k).getD z)) hp):CallOk S d (.bi 13) [.ref p,.d (.int k),.d z] hp Q X:=bi3 fun {F mp w s c c1 c2} ha r r1 r2=>by
 obtain ⟨t,rfl⟩:=r1
 cases At.ref ha e r with | mk g1 g2 g3 =>
 cases (show IsDi .. from g3) with | @mk kvs o g4 g5 =>
 have hD:=Heap.dictOf_iff.mpr ⟨_,g2,g4⟩
 show PySem.wpAny _ _ (call (.builtin "dict.get") _) _ _ _
 refine call_meetsIn PySem.F.slot_dict_get hD.mapOf.typeIs PySem.F.entry_dict_get (PySem.F.args_dict_get_3 _ _ _) (meets_dict_get_default (intKind S.prog S.w) _ (k:=k) (intKind_is _ _ _ _) (isSys ha g1 e) _) ⟨_,hD.mapOf,?_⟩
 rw [valueAt_eq]
 exact got (P:=fun x=>PostE F mp w Q x { s with toks:=s.toks+1 }) g5 r2 fun cv r => .mk (v := .d _) (.refl _) r (ha.toks _) hq
theorem intsAre_of {fz:Fz} {ns:List Int}:∀ {cvs:List Value},All2 (RelD S fz) (ns.map D.int) cvs->IntsAre cvs ns:=by
 induction ns with
 | nil=>intro cvs e;cases (show cvs=[] from e);exact .nil
 | cons b bs ih =>
  intro cvs h
  cases (show IsCons .. from h) with | mk r rs =>
  obtain ⟨t,rfl⟩:=(show ∃ t,_=Value.int b t from r)
  exact .cons b t (ih rs)
theorem bytesI {ns:List Int} (e:hp[p]?=some (.list (ns.map D.int))) (hl:ns.length<=1000000) (hb:∀ n∈ns,0<=n/\n < 256) (hq:Q (.d (.bytes (ns.map fun n=>n.toNat.toUInt8))) hp):CallOk S d (.bi 1) [.ref p] hp Q X:=bi1 fun {F mp w s c} ha r=>by
 cases At.ref ha e r with | mk g1 g2 g3 =>
 cases (show IsList .. from g3) with | @mk cvs n g4 =>
 show PySem.wpAny _ _ (call (.type "bytes") _) _ _ _
 exact call_bytes_ints (l:=_) (vs:=cvs) (ns:=ns) ⟨_,g2,rfl,n,rfl⟩ (intsAre_of g4) hb (by rw [All2.length g4,List.length_map];exact Nat.le_trans hl (by decide)) F.handled fun h' t k hk=>PB (b:=ns.map fun n=>n.toNat.toUInt8) (.refl _) (ha.ext hk) hq
end
end Mine.C
namespace Mine.C
theorem tcallT_eq (T:String) (rest:List Value):∃ (a0 a1:Sem PySem.Fin) (k0:Unit->Sem PySem.Fin) (k1:List Value->Sem PySem.Fin) (k2:Option String->Sem PySem.Fin) (k3:Value->Sem PySem.Fin) (k4:Value->Bool->Sem PySem.Fin) (k5:Value->Option Value->Sem PySem.Fin),
  Builtin.«type.__call__» ⟨.type T::rest,[]⟩=(if (Value.type T==Value.type "type")=true then a0 else if ((Manifest.find? T).bind (·.mro.findSome? fun t=>(Manifest.find? t).bind fun b=>if b.noNew then some true else if b.attrs.any (·.1 == "__new__") then some false else none)).getD false=true then a1 else checkTypeCall T ⟨rest,[]⟩ >>= k0) /\
  (∀ u,k0 u=mroOf (.type T) >>= k1)/\(∀ x l,k1 (x::l)=Bind.madeBy (.type T) >>= k2)/\(∀ id,k2 (some id)=holding [.builtin id] (call (.builtin id) (.type T::rest) []) >>= k3) /\
  (∀ o,k3 o=isInstance o (.type T) >>= k4 o)/\(∀ o,k4 o true=holding [o] (callSpecial? o "__init__" rest []) >>= k5 o)/\(∀ o,k5 o (some .none)=ret o) :=
 ⟨_,_,_,_,_,_,_,_,rfl,fun _=>rfl,fun _ _=>rfl,fun _=>rfl,fun _=>rfl,fun _=>rfl,fun _=>rfl⟩
end Mine.C
namespace Mine.C
open Builtin Builtin.Bytes
section
variable {M:Model} {A:Around} {E:Value->Shared->Prop} {s:Shared}
theorem guardFalse {id:String} {args:Args} (h1:(Code.builtin id args).isGuard=false) (h:guardIds.contains id=true) {P:Prop}:P:=by
 have:guardIds.contains id=false:=h1
 rw [h] at this;cases this
theorem any_clean {f:Code×Pos->Bool} (hf:∀ c p,c.isGuard=false->decOk c=true->f (c,p)=false):∀ {l:List (Code×Pos)},CleanB l->guardsOf l=[]->l.any f=false
 | [],_,_=>rfl
 | (c,p)::l,hc,hg=>by
  rw [guardsOf_cons] at hg
  obtain ⟨g1,g2⟩:=List.append_eq_nil_iff.mp hg
  have hng:c.isGuard=false:=by
   cases h:c.isGuard with
   | false=>rfl
   | true=>simp [Code.guards,h] at g1
  rw [List.any_cons,hf c p hng (hc (c,p) (.head _)),any_clean hf (fun q hq=>hc q (.tail _ hq)) g2];rfl
theorem wpAny_stackClean {f:Code×Pos->Bool} {Q:Bool->Shared->Prop} (hg:A.guards=some []) (hf:∀ c p,c.isGuard=false->decOk c=true->f (c,p)=false) (h:Q false s):wpAny M A (do return (<- stack).any f) Q E s:=fun Γ p hΓ c1 c2=>by
 show Q (((Γ.code,p)::Γ.below).any f) s
 rw [any_clean hf (cleanIn c1 c2) (by rw [guardsOf_cons];exact hΓ.2.2.2.1 [] hg)];exact h
theorem wp_exported {self:Value} {Q:Bool->Shared->Prop} (hg:A.guards=some []) (h:Q false s):wpAny M A (exported self) Q E s:=by
 unfold exported
 refine wpAny_stackClean hg (fun c p h1 h2=>?_) h
 cases c with
 | builtin id args =>
  have hn:∀ {t:String},guardIds.contains t=true->¬ (id=t):=fun ht e=>by subst e;exact guardFalse h1 ht
  cases args with | mk pos kw =>
  delta exported.match_1
  refine (dif_neg (hn (t := "bytearray.__contains__") (by decide +kernel))).trans ((dif_neg (hn (t := "bytearray.__mod__") (by decide +kernel))).trans ((dif_neg (hn (t := "bytearray.__rmod__") (by decide +kernel))).trans ((dif_neg (hn (t := "_struct.pack_into.held") (by decide +kernel))).trans ((dif_neg (hn (t := "bytearray.find.held") (by decide +kernel))).trans ?_))))
  cases pos with
  | nil=>rfl
  | cons v r =>
   have h2:(!decodersThatHold.contains id)=true:=h2
   show (Bytes.sameRef v self&&decodersThatHold.contains id)=false
   rw [Bool.not_eq_true' _ |>.mp h2,Bool.and_false]
 | _=>rfl
end
end Mine.C
namespace Mine.C
open Builtin Builtin.Bytes
abbrev barrO (b:Bs):Obj:={ cls := .type "bytearray", data := .bytearray b.toArray 0 }
section
variable {M:Model} {A:Around} {E:Value->Shared->Prop} {h:Heap} {g:Array GenState} {dr:Drawn} {t:Nat} {os:OsState}
theorem wp_checkResize {a:Addr} {b:Bs} {Q:Unit->Shared->Prop} (hg:A.guards=some []) (ho:h.get? a=some (barrO b)) (hq:Q () ⟨h,g,dr,t,os⟩):wpAny M A (checkResize (.ref a)) Q E ⟨h,g,dr,t,os⟩:=by
 unfold checkResize
 refine wpAny_bind (wpAny_bind (wp_exported hg ?_))
 show wpAny M A (exportsOf (.ref a) >>= fun n=>pure (decide (n > 0))) _ E _
 refine wpAny_bind ?_
 unfold exportsOf
 refine wpAny_bind (lf (wpAny_load ho (wpAny_pure ?_)))
 refine wpAny_pure ?_
 rw [if_neg (by decide)]
 exact wpAny_pure hq
theorem wp_writeP {a:Addr} {b:Bs} {f:Array UInt8->Array UInt8} {Q:Unit->Shared->Prop} (ho:h.get? a=some (barrO b)) (hz:(f b.toArray).size<=1000000)
  (hq:∀ h',Heap.SameBut a h h'->h'.get? a=some (barrO (f b.toArray).toList)->Q () ⟨h',g,dr,t,os⟩):PySem.wpAny M A (write (.ref a) f) Q E ⟨h,g,dr,t,os⟩:=by
 show PySem.wpAny M A (updateBytearray a f) _ _ _
 unfold updateBytearray
 refine PySem.wpAny_bind (wpAny_load ho ?_)
 show PySem.wpAny M A (update a (Obj.mapBytearray f) >>= fun _=>lookBehind a) _ _ _
 refine PySem.wpAny_bind (wpAny_update ho ?_)
 have h2:(h.update a (Obj.mapBytearray f)).get? a=some (barrO (f b.toArray).toList):=by
  have:=Heap.get?_update_self (Obj.mapBytearray f) ho rfl
  rw [this]
  rfl
 refine wpAny_lookBehind h2 ?_ (hq _ (Heap.SameBut.update ..) h2)
 show (if ((f b.toArray).toList.toArray).size > sizeLine then some "bytearray:memory" else none)=none
 rw [if_neg]
 rw [sizeLine_eq];simp;omega
theorem wp_write {a:Addr} {b:Bs} {f:Array UInt8->Array UInt8} {Q:Unit->Shared->Prop} (ho:h.get? a=some (barrO b)) (hz:(f b.toArray).size<=1000000)
  (hq:∀ h',Heap.SameBut a h h'->h'.get? a=some (barrO (f b.toArray).toList)->Q () ⟨h',g,dr,t,os⟩):wpAny M A (write (.ref a) f) Q E ⟨h,g,dr,t,os⟩:=lf (wp_writeP ho hz hq)
theorem wp_barrAppend {a:Addr} {b:Bs} {i:Int} {u:Tok} {Q:Value->Shared->Prop} (hg:A.guards=some []) (ho:h.get? a=some (barrO b)) (h0:0<=i) (h1:i < 256) (hz:b.length < 1000000)
  (hq:∀ h',Heap.SameBut a h h'->h'.get? a=some (barrO (b++[i.toNat.toUInt8]))->Q .none ⟨h',g,dr,t,os⟩) :
  wpAny M A (Builtin.«bytearray.append» ⟨[.ref a,.int i u],[]⟩) (fun fin s'=>∃ v,fin = .done (.ret v)/\Q v s') E ⟨h,g,dr,t,os⟩:=by
 unfold Builtin.«bytearray.append»
 refine wpAny_bind (wpAny_of_eq (a:=(.ref a,.int i u)) rfl ?_)
 dsimp only
 refine wpAny_bind ?_
 unfold byteValue
 refine wpAny_bind (wpAny_of_eq (a:=i) rfl ?_)
 rw [if_neg (by simp only [Bool.or_eq_true,decide_eq_true_eq];omega)]
 refine wpAny_pure ?_
 refine wpAny_bind (wp_checkResize hg ho ?_)
 refine wpAny_bind (wp_write ho (by simp;omega) fun h' hs h2=>?_)
 refine wpAny_pure ⟨_,rfl,hq h' hs ?_⟩
 simpa using h2
end
theorem callEntry {prog:Program} {w:World} {A:Around} {E:Value->Shared->Prop} {s:Shared} {T:String} {name:Str} {id:String} {b:Builtin} {self:Value} {rest:List Value} {Q:Value->Shared->Prop} (h:Slot T name id) (hT:s.TypeIs self T) (hd:decodersThatHold.contains id=false)
  (hb:entryFor table id=some b) (hc:wpAny (model prog w) A.in1 (b ⟨self::rest,[]⟩) (fun fin s'=>∃ v,fin = .done (.ret v)/\Q v s') E s) (ha:argsOk id ⟨self::rest,[]⟩):wpAny (model prog w) A (call (.builtin id) (self::rest)) Q E s:=by
 refine wpAny_call (codeAny_call_builtin_code (plainId_quiet h.plain _) (lf (h.check _ _ _ _ _ _ _ _ hT ha (codeAny_builtin hd hb ?_))))
 rw [Around.under_plainId h.plain _]
 refine wpAny_mono hc (fun fin s' h'=>?_) fun _ _ h'=>h'
 obtain ⟨v,rfl,hv⟩:=h';exact hv
end Mine.C
namespace Mine
theorem mro_barr:mroOf (.type "bytearray")=pure [.type "bytearray", .type "object"]:=by rw [mroOf_type];kernel_rfl
theorem look_barr_new:typeLookup (.type "bytearray") "__new__" = pure (some (.builtin "bytearray.__new__")):=by rw [typeLookup_type,builtinLookup_eq_fast];kernel_rfl
theorem look_barr_rel:typeLookup (.type "bytearray") "__release_buffer__" = pure (some (.builtin "bytearray.__release_buffer__")):=by rw [typeLookup_type,builtinLookup_eq_fast];kernel_rfl
theorem sub_barr:isSubtype (.type "bytearray") (.type "bytearray")=pure true:=by rw [isSubtype_type];kernel_rfl
theorem slot_barr_init:Slot "bytearray" "__init__" "bytearray.__init__" :=
 .of (owner := "bytearray") (n := "__init__") (by rw [typeLookup_type,builtinLookup_eq_fast];kernel_rfl) (by decide +kernel) (by decide +kernel) (by decide +kernel)
  (by first | exact .inl (by decide +kernel) | exact .inr (by decide +kernel)) (by rw [isSubtype_type];kernel_rfl)
theorem called_barr:TypeCalled "bytearray" "bytearray.__new__" "bytearray.__init__" :=
 ⟨by decide +kernel,by decide +kernel,⟨_,_,mro_barr⟩,madeBy_type mro_barr look_barr_new (by decide +kernel),by decide +kernel,sub_barr,slot_barr_init⟩
theorem typeCall_barr0:checkTypeCall "bytearray" ⟨[],[]⟩=pure ():=by kernel_rfl
theorem typeCall_barr1 (a:Value):checkTypeCall "bytearray" ⟨[a],[]⟩=pure ():=by kernel_rfl
theorem newCall_barr0:checkBuiltinCall "bytearray.__new__" ⟨[.type "bytearray"],[]⟩=pure ():=by kernel_rfl
theorem newCall_barr1 (a:Value):checkBuiltinCall "bytearray.__new__" ⟨[.type "bytearray", a],[]⟩=pure ():=by kernel_rfl
theorem args_barr_init0 (o:Value):argsOk "bytearray.__init__" ⟨[o],[]⟩:=by unfold argsOk;kernel_rfl
theorem args_barr_init1 (o a:Value):argsOk "bytearray.__init__" ⟨[o,a],[]⟩:=by unfold argsOk;kernel_rfl
theorem entry_barr_init:entryFor table "bytearray.__init__" = some Builtin.«bytearray.__init__»:=entryFor_of_tree (by kernel_rfl)
theorem entry_barr_new:entryFor table "bytearray.__new__" = some Builtin.«list.__new__»:=entryFor_alias (id' := "list.__new__") (by kernel_rfl) rfl (by decide +kernel) (by kernel_rfl)
theorem plain_barr_new:plainId "bytearray.__new__" = true:=by decide +kernel
set_option maxRecDepth 1000000 in
set_option maxHeartbeats 4000000 in
theorem owner_barr_new:("bytearray.__new__".splitOn ".__new__").headD "" = "bytearray" := by simp +decide [String.splitOn,String.splitOnAux]
theorem bind_barr0:Builtin.Bytes.bindOptional "bytearray.__init__" "bytearray" ["source","encoding","errors"] [] []=pure [none,none,none]:=by kernel_rfl
theorem bind_barr1 (v:Value):Builtin.Bytes.bindOptional "bytearray.__init__" "bytearray" ["source","encoding","errors"] [v] []=pure [some v,none,none]:=by kernel_rfl
theorem no_index_bytes:typeLookup (.type "bytes") "__index__" = pure none:=by rw [typeLookup_type,builtinLookup_eq_fast];kernel_rfl
end Mine
namespace Mine
theorem code_barr_new (l:List Value) (hl:checkBuiltinCall "bytearray.__new__" ⟨.type "bytearray" :: l,[]⟩=pure ()) {prog:Program} {w:World} {A:Around} {E:Value->Shared->Prop} {s:Shared} {Q₁:Value->Shared->Prop}
  (h:Q₁ (.ref s.heap.objs.size) { s with heap:=s.heap.push { cls := .type "bytearray", data := .bytearray #[] } }) :
  codeAny (model prog w) A (.call (.builtin "bytearray.__new__") ⟨.type "bytearray" :: l,[]⟩) (wants Q₁ E) s:=by
 refine codeAny_of_tree ?_
 show wpAny _ A.in1 (do checkBuiltinCall "bytearray.__new__" ⟨.type "bytearray" :: l,[]⟩;again (.builtin "bytearray.__new__" ⟨.type "bytearray" :: l,[]⟩)) _ _ s
 refine wpAny_bind (wpAny_of_eq hl (wpAny_pure ⟨plainId_quiet plain_barr_new _,codeAny_builtin_stack entry_barr_new rfl fun p st=>?_⟩))
 rw [Around.under_plainId plain_barr_new _]
 have hsub:=sub_barr
 have hown:=owner_barr_new
 obtain ⟨hp,g,d,tk,os⟩:=s
 simp only [hown]
 wp_walk
 exact h
end Mine
namespace Mine.C
open Builtin Builtin.Bytes
section
variable {prog:Program} {w:World} {A:Around} {E:Value->Shared->Prop} {s:Shared}
theorem callTypeC {T newId initId:String} {args:List Value} {Q Q₁:Value->Shared->Prop} (ft:TypeCalled T newId initId) (hct:checkTypeCall T ⟨args,[]⟩=pure ())
  (hnew:codeAny (model prog w) A.in1 (.call (.builtin newId) ⟨.type T::args,[]⟩) (wants Q₁ E) s)
  (hnext:∀ obj s₁,Q₁ obj s₁->s₁.TypeIs obj T/\codeAny (model prog w) A.in1 (.call (.builtin initId) ⟨obj::args,[]⟩) (wants (fun r s₂=>r = .none/\Q obj s₂) E) s₁) :
  wpAny (model prog w) A (call (.type T) args) Q E s:=by
 obtain ⟨c,tl,hmro⟩:=ft.mro
 refine wpAny_call (codeAny_of_tree rfl ?_)
 show wpAny _ _ (callAny (.type T) _) _ _ _
 refine wpAny_pure (a:=PySem.Fin.again _) ⟨Code.quiet_builtin _ (by decide +kernel),codeAny_builtin (by decide +kernel) F.entry_type_call ?_⟩
 rw [Around.under_plain (weight_type_call_type T args []) rfl]
 obtain ⟨a0,a1,k0,k1,k2,k3,k4,k5,e0,e1,e2,e3,e4,e5,e6⟩:=tcallT_eq T args
 rw [e0,if_neg (by rw [ft.notType];exact Bool.false_ne_true),if_neg (by have:=ft.canCreate;rw [this];exact Bool.false_ne_true)]
 refine wpAny_bind (wpAny_of_eq hct ?_)
 rw [e1]
 refine wpAny_bind (wpAny_of_eq hmro ?_)
 rw [e2]
 refine wpAny_bind (wpAny_of_eq ft.made ?_)
 rw [e3]
 refine wpAny_bind (wpAny_holding (wpAny_call (codeAny_mono hnew fun r s1 hr=>?_)))
 cases r with
 | error e=>exact hr
 | ok fl =>
 cases fl with
 | next=>exact hr.elim
 | brk=>exact hr.elim
 | cont=>exact hr.elim
 | ret o =>
 obtain ⟨hT,hi⟩:=hnext _ _ hr
 show wpAny _ _ (k3 o) _ _ _
 rw [e4]
 refine wpAny_bind (lf (wpAny_isInstance hT ft.sub ?_))
 rw [e5]
 refine wpAny_bind (wpAny_holding ?_)
 show wpAny _ _ (specialOf o "__init__" >>= _) _ _ _
 refine wpAny_bind (lf (wpAny_specialOf hT ft.init.lookup ?_))
 refine wpAny_holding (wpAny_bind (wpAny_of_eq (ft.init.bind o) (wpAny_bind (wpAny_call (codeAny_mono hi fun r s2 hr=>?_)))))
 rcases r with e | (v | _ | _ | _)<;>first | exact hr | exact hr.elim | skip
 obtain ⟨rfl,hq⟩:=hr
 refine wpAny_pure ?_
 show wpAny _ _ (k5 o (some .none)) _ _ _
 rw [e6]
 exact wpAny_pure hq
theorem wp_ownRel {a:Addr} {M:Model} {Q:Bool->Shared->Prop} (hT:s.TypeIs (.ref a) "bytearray") (hq:Q false s):wpAny M A (ownRelease (.ref a)) Q E s:=by
 unfold ownRelease slotIsOwn
 refine lf (PySem.wpAny_bind (PySem.wpAny_bind (wpAny_specialOf hT look_barr_rel ?_)))
 dsimp only
 split
 ·rename_i h;exact absurd h (by decide +kernel)
 ·have e:(("bytearray.__release_buffer__" : String).dropRight (("__release_buffer__" : String).length+1)) = "bytearray" := by decide +kernel
  rw [e]
  exact wpAny_isInstance hT sub_barr (PySem.wpAny_pure hq)
end
section
variable {prog:Program} {w:World} {A:Around} {E:Value->Shared->Prop} {h:Heap} {g:Array GenState} {dr:Drawn} {t:Nat} {os:OsState}
theorem wp_free {M:Model} {a:Addr} {b:Bs} {Q:Bool->Shared->Prop} (hg:A.guards=some []) (ho:h.get? a=some (barrO b)) (hq:Q false ⟨h,g,dr,t,os⟩):wpAny M A (exported (.ref a) <||> (do return (<- exportsOf (.ref a)) > 0)) Q E ⟨h,g,dr,t,os⟩:=by
 refine wpAny_bind (wp_exported hg ?_)
 show wpAny M A (exportsOf (.ref a) >>= fun n=>pure (decide (n > 0))) _ E _
 refine wpAny_bind ?_
 unfold exportsOf
 refine lf (PySem.wpAny_bind (wpAny_load ho ?_))
 exact PySem.wpAny_pure (wpAny_pure hq)
theorem init_barr0 {a:Addr} {R:Result->Shared->Prop} (hg:A.guards=some []) (ho:h.get? a=some (barrO []))
  (hq:∀ h',Heap.SameBut a h h'->h'.get? a=some (barrO [])->R (.ok (.ret .none)) ⟨h',g,dr,t,os⟩) :
  codeAny (model prog w) A (.call (.builtin "bytearray.__init__") ⟨[.ref a],[]⟩) R ⟨h,g,dr,t,os⟩:=by
 have hT:(⟨h,g,dr,t,os⟩ : Shared).TypeIs (.ref a) "bytearray" := ⟨_,ho,rfl⟩
 refine codeAny_call_builtin_code (plainId_quiet slot_barr_init.plain _) (lf (slot_barr_init.check _ _ _ _ _ _ _ _ hT (args_barr_init0 _) (codeAny_builtin (by decide +kernel) entry_barr_init ?_)))
 rw [Around.under_plainId slot_barr_init.plain _]
 unfold Builtin.«bytearray.__init__»
 refine wpAny_bind (wp_ownRel hT ?_)
 rw [if_neg (by decide)]
 refine wpAny_bind (wpAny_of_eq bind_barr0 ?_)
 refine wpAny_bind (wpAny_pure (wpAny_bind (wpAny_pure (wpAny_bind (wp_free hg ho ?_)))))
 rw [if_neg (by decide)]
 refine wpAny_bind (wp_write (f:=fun _=>#[]) ho (by simp) fun h' hs h2=>?_)
 dsimp only
 exact wpAny_bind (wpAny_pure (wpAny_pure (hq h' hs (by simpa using h2))))
theorem init_barr1 {a:Addr} {b:Bs} {u:Tok} {R:Result->Shared->Prop} (hg:A.guards=some []) (hz:b.length<=1000000) (ho:h.get? a=some (barrO []))
  (hq:∀ h',Heap.SameBut a h h'->h'.get? a=some (barrO b)->R (.ok (.ret .none)) ⟨h',g,dr,t,os⟩) :
  codeAny (model prog w) A (.call (.builtin "bytearray.__init__") ⟨[.ref a,.bytes b.toArray u],[]⟩) R ⟨h,g,dr,t,os⟩:=by
 have hT:(⟨h,g,dr,t,os⟩ : Shared).TypeIs (.ref a) "bytearray" := ⟨_,ho,rfl⟩
 refine codeAny_call_builtin_code (plainId_quiet slot_barr_init.plain _) (lf (slot_barr_init.check _ _ _ _ _ _ _ _ hT (args_barr_init1 _ _) (codeAny_builtin (by decide +kernel) entry_barr_init ?_)))
 rw [Around.under_plainId slot_barr_init.plain _]
 unfold Builtin.«bytearray.__init__»
 refine wpAny_bind (wp_ownRel hT ?_)
 rw [if_neg (by decide)]
 refine wpAny_bind (wpAny_of_eq (bind_barr1 _) ?_)
 refine wpAny_bind (wpAny_pure (wpAny_bind (wpAny_pure (wpAny_bind (wp_free hg ho ?_)))))
 rw [if_neg (by decide)]
 refine wpAny_bind (wp_write (f:=fun _=>#[]) ho (by simp) fun h1 hs1 h2=>?_)
 dsimp only
 have e1:buffer? "bytearray.__init__" (.bytes b.toArray u) (full:=true)=pure (some b.toArray):=by
  unfold Bytes.buffer?
  rw [KBy.special_eq KBy.look_buffer,KBy.own_buffer,KBy.own_release]
  kernel_rfl
 have e2:specialOf (.bytes b.toArray u) (Str.ofString "__index__")=pure none:=KBy.special_eq no_index_bytes
 refine lf ?_
 refine PySem.wpAny_bind (PySem.wpAny_of_eq (a:=(none:Option Str)) rfl ?_)
 rw [if_neg (by decide),if_neg (by decide),e2]
 refine PySem.wpAny_bind (PySem.wpAny_pure ?_)
 refine PySem.wpAny_bind (PySem.wpAny_pure ?_)
 rw [if_neg (by decide),e1]
 refine PySem.wpAny_bind (PySem.wpAny_pure ?_)
 refine PySem.wpAny_bind (PySem.wpAny_rule ?_)
 refine PySem.wpAny_bind (wp_writeP (b:=[]) (f:=fun _=>b.toArray) h2 (by simpa using hz) fun h' hs h3=>?_)
 exact PySem.wpAny_pure (hq h' (hs1.trans hs) (by simpa using h3))
end
end Mine.C
namespace Mine
open Builtin Builtin.Bytes
theorem bb_no_bytes:typeLookup (.type "bytearray") "__bytes__" = pure none:=by rw [typeLookup_type,builtinLookup_eq_fast];kernel_rfl
theorem bb_no_index:typeLookup (.type "bytearray") "__index__" = pure none:=by rw [typeLookup_type,builtinLookup_eq_fast];kernel_rfl
theorem bb_buffer:typeLookup (.type "bytearray") "__buffer__" = pure (some (.builtin "bytearray.__buffer__")):=by rw [typeLookup_type,builtinLookup_eq_fast];kernel_rfl
section
variable {prog:Program} {w:World} {A:Around} {E:Value->Shared->Prop}
theorem bb_own {M:Model} {s:Shared} {a:Addr} {Q:Bool->Shared->Prop} (hT:s.TypeIs (.ref a) "bytearray") (hq:Q true s):wpAny M A (slotIsOwn (.ref a) "__buffer__") Q E s:=by
 unfold slotIsOwn
 refine wpAny_bind (wpAny_specialOf hT bb_buffer ?_)
 dsimp only
 split
 ·rename_i h;exact absurd h (by decide +kernel)
 ·have e:(("bytearray.__buffer__" : String).dropRight (("__buffer__" : String).length+1)) = "bytearray" := by decide +kernel
  rw [e]
  exact wpAny_isInstance hT sub_barr hq
theorem bb_rel {M:Model} {s:Shared} {a:Addr} {Q:Bool->Shared->Prop} (hT:s.TypeIs (.ref a) "bytearray") (hq:Q false s):wpAny M A (ownRelease (.ref a)) Q E s:=by
 unfold ownRelease slotIsOwn
 refine wpAny_bind (wpAny_bind (wpAny_specialOf hT look_barr_rel ?_))
 dsimp only
 split
 ·rename_i h;exact absurd h (by decide +kernel)
 ·have e:(("bytearray.__release_buffer__" : String).dropRight (("__release_buffer__" : String).length+1)) = "bytearray" := by decide +kernel
  rw [e]
  exact wpAny_isInstance hT sub_barr (wpAny_pure hq)
theorem bb_buf {M:Model} {s:Shared} {a:Addr} {id:String} {full:Bool} {b:Bs} {Q:Option (Array UInt8)->Shared->Prop} (ho:s.heap.get? a=some (C.barrO b)) (hq:Q (some b.toArray) s):wpAny M A (buffer? id (.ref a) full) Q E s:=by
 have hT:s.TypeIs (.ref a) "bytearray" := ⟨_,ho,rfl⟩
 unfold Bytes.buffer?
 refine wpAny_bind (wpAny_specialOf hT bb_buffer ?_)
 dsimp only
 refine wpAny_bind (bb_own hT ?_)
 rw [if_neg (by decide)]
 refine wpAny_bind (wpAny_specialOf hT bb_buffer ?_)
 refine wpAny_bind (bb_rel hT ?_)
 rw [if_neg (by decide)]
 refine wpAny_bind ?_
 unfold payload payload?
 refine wpAny_bind (wpAny_bind (wpAny_load ho ?_))
 exact wpAny_pure (wpAny_pure (wpAny_pure hq))
theorem bb_new {s:Shared} {l:Addr} {b:Bs} {Q:Value->Shared->Prop} (ho:s.heap.get? l=some (C.barrO b)) (hz:b.length<=1000000)
  (hQ:∀ t k,Q (.bytes b.toArray t) { s with toks:=k }) :
  codeAny (model prog w) A (.call (.builtin "bytes.__new__") ⟨[.type "bytes", .ref l],[]⟩) (wants Q E) s:=by
 refine codeAny_of_tree ?_
 show wpAny _ A.in1 (do checkBuiltinCall "bytes.__new__" ⟨[.type "bytes", .ref l],[]⟩;again (.builtin "bytes.__new__" ⟨[.type "bytes", .ref l],[]⟩)) _ _ s
 refine wpAny_bind (wpAny_of_eq (F.bm_newCall _) (wpAny_pure ⟨plainId_quiet F.bm_plain _,codeAny_builtin F.bm_entry ?_⟩))
 rw [Around.under_plainId F.bm_plain _]
 have hT:s.TypeIs (.ref l) "bytearray" := ⟨_,ho,rfl⟩
 unfold Builtin.«bytes.__new__»
 refine wpAny_bind (wpAny_of_eq (a:=true) rfl ?_)
 refine bm_if_false rfl ?_
 refine wpAny_bind (wpAny_of_eq F.bm_sub ?_)
 refine bm_if_false rfl ?_
 refine wpAny_bind (wpAny_of_eq (F.bm_bind _) ?_)
 refine wpAny_bind (wpAny_of_eq (a:=()) rfl ?_)
 refine wpAny_bind (wpAny_of_eq (a:=()) rfl ?_)
 refine bm_if_false rfl ?_
 refine wpAny_bind (wpAny_specialOf hT bb_no_bytes ?_)
 refine wpAny_bind (wpAny_bind ?_)
 show wpAny _ _ (load l >>= _) _ _ _
 refine wpAny_bind (wpAny_load ho ?_)
 refine wpAny_pure (wpAny_pure ?_)
 refine bm_if_false rfl ?_
 refine wpAny_bind (wpAny_specialOf hT bb_no_index ?_)
 refine bm_if_true rfl ?_
 show wpAny _ _ (buffer? "bytes.__new__" (.ref l) true >>= _) _ _ _
 refine wpAny_bind (bb_buf ho ?_)
 refine wpAny_bind (wpAny_rule ?_)
 refine wpAny_bind (wpAny_mkBytes ?_ (by simp;unfold sizeLine;omega))
 show wpAny _ _ (if (Value.type "bytes" == Value.type "bytes")=true then _ else _) _ _ _
 refine bm_if_true (by decide) ?_
 exact wpAny_pure (hQ _ _)
theorem call_bytes_barr {s:Shared} {l:Addr} {b:Bs} {Q:Value->Shared->Prop} (ho:s.heap.get? l=some (C.barrO b)) (hz:b.length<=1000000)
  (hQ:∀ t k,Q (.bytes b.toArray t) { s with toks:=k }):wpAny (model prog w) A (call (.type "bytes") [.ref l]) Q E s:=by
 refine callType_codes (Q₁:=fun obj s₁=>s₁.TypeIs obj "bytes" /\ Q obj s₁) F.bm_called (F.bm_typeCall _) F.entry_object_init
  (bb_new ho hz fun t k=>⟨PySem.W.typeIs_bytes _ _ _,hQ t k⟩) fun obj s₁ h₁=>?_
 exact ⟨h₁.1,F.args_object_init_2 obj _,object_init_meets F.bm_called.init.lookup F.bm_called.made (by decide) prog w A.in1 _ s₁ ⟨h₁.1,rfl,h₁.2⟩⟩
end
end Mine
namespace Mine.C
section
variable {S:Sx} {d p:Nat} {hp:Hp} {Q:V->Hp->Prop} {X:Bs->Prop}
theorem appB {b:Bs} {i:Int} (e:hp[p]?=some (.barr b)) (h0:0<=i) (h1:i < 256) (hz:b.length < 1000000) (hq:Q (.d .none) (hp.set p (.barr (b++[i.toNat.toUInt8])))):CallOk S d (.bi 12) [.ref p,.d (.int i)] hp Q X:=by
 refine ⟨@fun F mp w s cf cvs hd ha rf rs=>?_⟩
 cases (show cf=_ from rf)
 cases (show IsCons .. from rs) with | mk r rs1 =>
 cases (show IsCons .. from rs1) with | mk r1 rs2 =>
 cases (show _=[] from rs2)
 obtain ⟨t,rfl⟩:=r1
 cases At.ref ha e r with | mk g1 g2 g3 =>
 cases (show _=_ from g3)
 obtain ⟨hh,g,dr,t',os⟩:=s
 show wpAny _ _ (call (.builtin "bytearray.append") _) _ _ _
 exact callEntry slot_bytearray_append ⟨_,g2,rfl⟩ (by decide +kernel) entry_bytearray_append (wp_barrAppend (A:=F.A.in1) F.guards g2 h0 h1 hz fun h' hs h2=>PN (.refl _) (ha.put (y := .barr (b++[i.toNat.toUInt8])) (tk:=t') e g1 hs.extBut h2 rfl) hq) (args_bytearray_append _ _)
theorem barr0 (hq:Q (.ref hp.length) (hp++[.barr []])):CallOk S d (.bi 2) [] hp Q X:=bi0 fun {F mp w s} ha=>by
 obtain ⟨hh,g,dr,t,os⟩:=s
 show wpAny _ _ (call (.type "bytearray") _) _ _ _
 refine callTypeC (Q₁:=fun o s1=>o = .ref hh.objs.size/\s1=⟨hh.push (barrO []),g,dr,t,os⟩) called_barr typeCall_barr0 (lfc (code_barr_new [] newCall_barr0 ⟨rfl,rfl⟩)) fun o s1 q=>?_
 obtain ⟨rfl,rfl⟩:=q
 have ho:(hh.push (barrO [])).get? hh.objs.size=some (barrO []):=Heap.get?_push_size _ rfl
 refine ⟨⟨_,ho,rfl⟩,init_barr0 (A:=F.A.in1) F.guards ho fun h' hs h2=>⟨rfl,?_⟩⟩
 have a1:=(ha.hid (o:=barrO []) rfl).turn (tk:=t) (P':=Is (barrO [])) hs.extBut h2 rfl
 exact PRef (.refl _) ha.len (a1.adopt (x := .barr []) fun o e=>e).drop hq
theorem barr1 {b:Bs} (hz:b.length<=1000000) (hq:Q (.ref hp.length) (hp++[.barr b])):CallOk S d (.bi 2) [.d (.bytes b)] hp Q X:=by
 refine ⟨@fun F mp w s cf cvs hd ha rf rs=>?_⟩
 cases (show cf=_ from rf)
 cases (show IsCons .. from rs) with | mk r rs1 =>
 cases (show _=[] from rs1)
 obtain ⟨u,rfl⟩:=r
 obtain ⟨hh,g,dr,t,os⟩:=s
 show wpAny _ _ (call (.type "bytearray") _) _ _ _
 refine callTypeC (Q₁:=fun o s1=>o = .ref hh.objs.size/\s1=⟨hh.push (barrO []),g,dr,t,os⟩) called_barr (typeCall_barr1 _) (lfc (code_barr_new _ (newCall_barr1 _) ⟨rfl,rfl⟩)) fun o s1 q=>?_
 obtain ⟨rfl,rfl⟩:=q
 have ho:(hh.push (barrO [])).get? hh.objs.size=some (barrO []):=Heap.get?_push_size _ rfl
 refine ⟨⟨_,ho,rfl⟩,init_barr1 (A:=F.A.in1) F.guards hz ho fun h' hs h2=>⟨rfl,?_⟩⟩
 have a1:=(ha.hid (o:=barrO []) rfl).turn (tk:=t) (P':=Is (barrO b)) hs.extBut h2 rfl
 exact PRef (.refl _) ha.len (a1.adopt (x := .barr b) fun o e=>e).drop hq
theorem bytesB {b:Bs} (e:hp[p]?=some (.barr b)) (hz:b.length<=1000000) (hq:Q (.d (.bytes b)) hp):CallOk S d (.bi 1) [.ref p] hp Q X:=bi1 fun {F mp w s c} ha r=>by
 cases At.ref ha e r with | mk g1 g2 g3 =>
 cases (show _=_ from g3)
 show PySem.wpAny _ _ (call (.type "bytes") _) _ _ _
 exact call_bytes_barr g2 hz fun t k=>PB (.refl _) (ha.toks k) hq
end
end Mine.C
namespace Mine
noncomputable def partB (b:Bs) (c:UInt8):List D:=match b.findIdx? (·==c) with
 | some i=>[.bytes (b.take i),.bytes [c],.bytes (b.drop (i+1))]
 | none=>[.bytes b,.bytes [],.bytes []]
open Builtin Builtin.Bytes
theorem find_congr {α:Type} {p q:α->Bool}:∀ {l:List α},(∀ x∈l,p x=q x)->l.find? p=l.find? q
 | [],_=>rfl
 | x::l,h=>by
  rw [List.find?_cons,List.find?_cons,h x (.head _),find_congr fun y hy=>h y (.tail _ hy)]
theorem find_eq (b:Bs) (c:UInt8):find? b.toArray #[c] 0 b.toArray.size=b.findIdx? (·==c):=by
 unfold find?
 have e:∀ i,i < b.length->(b.toArray.extract i (i+(#[c] : Array UInt8).size)==#[c])=(b[i]?==some c):=by
  intro i hi
  have h1:b.toArray.extract i (i+(#[c] : Array UInt8).size)=#[b[i]]:=by
   apply Array.toList_inj.mp
   have h2:(b.toArray.extract i (i+1)).toList=(b.drop i).take (i+1 - i):=by simp
   show (b.toArray.extract i (i+1)).toList=[b[i]]
   rw [h2,List.drop_eq_getElem_cons hi,show i+1 - i=1 by omega]
   rfl
  rw [h1,List.getElem?_eq_getElem hi]
  by_cases q:b[i]=c
  ·subst q;simp
  ·have:(#[b[i]] : Array UInt8)≠#[c]:=fun h=>q (by simpa using h)
   rw [beq_eq_false_iff_ne.mpr this,beq_eq_false_iff_ne.mpr (fun h=>q (by simpa using h))]
 have hs:b.toArray.size+1 - (0+(#[c] : Array UInt8).size)=b.length:=by simp
 rw [hs]
 have hm:(List.range b.length).map (·+0)=List.range b.length:=by simp
 rw [hm]
 have e2:(List.range b.length).find? (fun i=>b.toArray.extract i (i+(#[c] : Array UInt8).size)==#[c])=(List.range b.length).find? (fun i=>b[i]?==some c):=by
  exact find_congr fun i hi=>e i (List.mem_range.mp hi)
 rw [e2]
 clear e e2 hs hm
 induction b with
 | nil=>rfl
 | cons x b ih =>
  rw [List.length_cons,List.range_succ_eq_map,List.find?_cons,List.findIdx?_cons]
  by_cases q:x=c
  ·subst q;simp
  ·have h1:((x::b)[0]?==some c)=false:=by simpa using q
   have h2:(x==c)=false:=beq_eq_false_iff_ne.mpr q
   rw [h1,h2,List.find?_map]
   have:((fun i=>(x::b)[i]?==some c)∘Nat.succ)=fun i=>b[i]?==some c:=by funext i;simp
   rw [this,ih]
   simp
section
variable {M:Model} {A:Around} {E:Value->Shared->Prop} {h:Heap} {g:Array GenState} {dr:Drawn} {t:Nat} {os:OsState}
theorem wp_partition {b:Bs} {c:UInt8} {u u2:Tok} {Q:Value->Shared->Prop} (hz:b.length<=1000000)
  (hq:∀ (cvs:List Value) k,(∀ S:Sx,∀ fz,All2 (RelD S fz) (partB b c) cvs)->Q (.ref h.objs.size) ⟨h.push { cls := .type "tuple", data := .seq cvs.toArray },g,dr,k,os⟩) :
  wpAny M A (Builtin.«bytes.partition» ⟨[.bytes b.toArray u,.bytes [c].toArray u2],[]⟩) (fun fin s'=>∃ v,fin = .done (.ret v)/\Q v s') E ⟨h,g,dr,t,os⟩:=by
 unfold Builtin.«bytes.partition» partitionM
 refine wpAny_bind (wpAny_of_eq (a:=(.bytes b.toArray u,.bytes [c].toArray u2)) rfl ?_)
 have e1:buffer? (toString Kind.bytes.name++toString "." ++ toString "partition") (.bytes [c].toArray u2) (full:=Kind.bytes==Kind.bytearray)=pure (some [c].toArray):=KBy.buffer_eq
 dsimp only
 refine wpAny_bind (wpAny_of_eq e1 ?_)
 dsimp only
 rw [if_neg (by simp)]
 refine wpAny_bind (wpAny_of_eq (a:=b.toArray) rfl ?_)
 have hf:find? b.toArray [c].toArray 0 b.toArray.size=b.findIdx? (·==c):=find_eq b c
 rw [if_neg (by decide),hf]
 unfold partB at hq
 cases hi:b.findIdx? (·==c) with
 | none =>
  rw [hi] at hq
  dsimp only
  refine wpAny_bind (wpAny_rule ?_)
  rw [if_pos (by decide)]
  refine wpAny_bind (wpAny_pure (wpAny_bind ?_))
  refine wpAny_mkBytes (b:=#[]) ?_ (by simp)
  rw [if_pos (by decide)]
  refine wpAny_bind (wpAny_pure (wpAny_bind ?_))
  rw [if_neg (by decide)]
  unfold newTuple
  refine wpAny_newObj_type ?_
  exact wpAny_pure ⟨_,rfl,hq [_,_,_] _ fun S fz=>IsCons.mk ⟨_,rfl⟩ (IsCons.mk ⟨_,rfl⟩ (IsCons.mk ⟨_,rfl⟩ rfl))⟩
 | some i =>
  rw [hi] at hq
  dsimp only
  rw [if_pos (by decide)]
  refine wpAny_bind (wpAny_pure (wpAny_bind ?_))
  have e1:b.toArray.extract 0 i=(b.take i).toArray:=by apply Array.toList_inj.mp;simp
  have e2:b.toArray.extract (i+([c].toArray).size) b.toArray.size=(b.drop (i+1)).toArray:=by
   apply Array.toList_inj.mp
   simp
   rw [List.take_of_length_le (by simp)]
  rw [e1,e2]
  refine wpAny_mkBytes ?_ (by simp;unfold sizeLine;omega)
  refine wpAny_bind ?_
  refine wpAny_mkBytes ?_ (by simp;unfold sizeLine;omega)
  refine wpAny_bind ?_
  unfold newTuple
  refine wpAny_newObj_type ?_
  exact wpAny_pure ⟨_,rfl,hq [_,_,_] _ fun S fz=>IsCons.mk ⟨_,rfl⟩ (IsCons.mk ⟨_,rfl⟩ (IsCons.mk ⟨_,rfl⟩ rfl))⟩
theorem no_buffer_int:typeLookup (.type "int") "__buffer__" = pure none:=by rw [typeLookup_type,builtinLookup_eq_fast];kernel_rfl
theorem index_int_slot:typeLookup (.type "int") "__index__" = pure (some (.builtin "int.__index__")):=by rw [typeLookup_type,builtinLookup_eq_fast];kernel_rfl
theorem wp_index {b:Bs} {i:Int} {u u2:Tok} {k:Nat} {Q:Value->Shared->Prop} (hz:b.length<=1000000) (h0:0<=i) (h1:i < 256) (hk:b.findIdx? (·==UInt8.ofNat i.toNat)=some k)
  (hq:∀ u k',Q (.int k u) ⟨h,g,dr,k',os⟩) :
  wpAny M A (Builtin.«bytes.index» ⟨[.bytes b.toArray u,.int i u2],[]⟩) (fun fin s'=>∃ v,fin = .done (.ret v)/\Q v s') E ⟨h,g,dr,t,os⟩:=by
 have sp:∀ {name:Str} {r:Option Value},typeLookup (.type "int") name=pure r->specialOf (.int i u2) name=pure r:=fun {name r} hh=>by
  have e:specialOf (.int i u2) name=typeLookup (.type "int") name:=rfl
  rw [e,hh]
 have e1:buffer? (toString Kind.bytes.name++toString "." ++ toString "index") (.int i u2)=pure none:=by
  unfold Bytes.buffer?
  rw [sp no_buffer_int]
  rfl
 unfold Builtin.«bytes.index» searchM
 refine wpAny_bind ?_
 unfold searchArgs
 refine wpAny_bind (wpAny_of_eq (a:=(.bytes b.toArray u,[.int i u2])) rfl ?_)
 refine wpAny_bind (wpAny_of_eq (a:=none) rfl ?_)
 refine wpAny_bind (wpAny_of_eq (a:=none) rfl ?_)
 dsimp only [List.headD]
 refine wpAny_bind (wpAny_of_eq e1 ?_)
 dsimp only
 refine wpAny_bind (wpAny_of_eq (sp index_int_slot) ?_)
 rw [if_neg (by decide)]
 refine wpAny_bind ?_
 unfold indexHeld
 refine wpAny_bind (wpAny_of_eq (a:=some i) rfl ?_)
 rw [if_pos (by simp)]
 refine wpAny_of_eq (a:=i) rfl ?_
 rw [if_neg (by simp only [Bool.or_eq_true,decide_eq_true_eq];omega)]
 refine wpAny_bind (wpAny_pure ?_)
 refine wpAny_bind (wpAny_of_eq (a:=b.toArray) rfl ?_)
 have hb:0 < b.length:=by
  have:=(List.findIdx?_eq_some_iff_getElem.mp hk).1
  omega
 have hw:window b.toArray.size none none=(0,(b.length:Int)):=by
  unfold window
  simp
  omega
 rw [hw,if_neg (by simp;omega)]
 refine wpAny_pure ?_
 have e2:find? b.toArray #[i.toNat.toUInt8] (0:Int).toNat (b.length:Int).toNat=some k:=by
  have:=find_eq b i.toNat.toUInt8
  rw [List.size_toArray] at this
  show find? b.toArray #[i.toNat.toUInt8] 0 b.length=some k
  rw [this];exact hk
 dsimp only [Option.bind]
 rw [if_neg (by decide),e2]
 unfold retInt
 refine wpAny_bind (wpAny_mkInt ?_)
 exact wpAny_pure ⟨_,rfl,hq _ _⟩
end
noncomputable def splitB (c:UInt8):Bs->List Bs
 | []=>[[]]
 | x::r=>if x=c then []::splitB c r else (match splitB c r with
   | h::t=>(x::h)::t
   | []=>[[x]])
noncomputable def posF (c:UInt8):Nat->Bs->List Nat
 | _,[]=>[]
 | k,x::r=>if x=c then k::posF c (k+1) r else posF c (k+1) r
def glue (p:Bs):List Bs->List Bs
 | h::t=>(p++h)::t
 | []=>[p]
theorem splitB_ne (c:UInt8):∀ b,∃ h t,splitB c b=h::t
 | []=>⟨_,_,rfl⟩
 | x::r=>by
  obtain ⟨h,t,e⟩:=splitB_ne c r
  unfold splitB
  rw [e]
  split
  ·exact ⟨_,_,rfl⟩
  ·exact ⟨_,_,rfl⟩
theorem one_eq (b:Bs) (c:UInt8) (i:Nat) (hi:i < b.length):(b.toArray.extract i (i+(#[c] : Array UInt8).size)==#[c])=decide (b[i]=c):=by
 have h1:b.toArray.extract i (i+(#[c] : Array UInt8).size)=#[b[i]]:=by
  apply Array.toList_inj.mp
  have h2:(b.toArray.extract i (i+1)).toList=(b.drop i).take (i+1 - i):=by simp
  show (b.toArray.extract i (i+1)).toList=[b[i]]
  rw [h2,List.drop_eq_getElem_cons hi,show i+1 - i=1 by omega]
  rfl
 rw [h1]
 by_cases q:b[i]=c
 ·rw [q,decide_eq_true rfl];simp
 ·rw [decide_eq_false q]
  exact beq_eq_false_iff_ne.mpr fun h=>q (by simpa using h)
theorem occ_fold (b:Bs) (c:UInt8) (step:List Nat×Nat->Nat->List Nat×Nat) (hs:step=fun acc i=>if (i>=acc.2&&b.toArray.extract i (i+(#[c] : Array UInt8).size)==#[c])=true then (i::acc.1,i+(#[c] : Array UInt8).size) else acc) :
  ∀ (m k:Nat) (acc:List Nat) (nx:Nat),nx<=k->k+m=b.length->((List.range' k m).foldl step (acc,nx)).1=(posF c k (b.drop k)).reverse++acc
 | 0,k,acc,nx,_,e=>by
  rw [List.drop_eq_nil_of_le (by omega)];simp [posF]
 | m+1,k,acc,nx,h,e=>by
  have hk:k < b.length:=by omega
  rw [List.range'_succ,List.foldl_cons,List.drop_eq_getElem_cons hk]
  have e1:step (acc,nx) k=if b[k]=c then (k::acc,k+1) else (acc,nx):=by
   rw [hs]
   dsimp only
   rw [one_eq b c k hk,decide_eq_true h,Bool.true_and]
   by_cases q:b[k]=c<;>simp [q]
  rw [e1]
  unfold posF
  by_cases q:b[k]=c
  ·rw [if_pos q,if_pos q,occ_fold b c step hs m (k+1) _ _ (Nat.le_refl _) (by omega)]
   simp
  ·rw [if_neg q,if_neg q,occ_fold b c step hs m (k+1) _ _ (by omega) (by omega)]
theorem occ_eq (b:Bs) (c:UInt8):occurrences b.toArray #[c] 0 b.toArray.size=posF c 0 b:=by
 unfold occurrences
 have e:b.toArray.size+1 - (0+(#[c] : Array UInt8).size)=b.length:=by simp
 have hm:(List.range b.length).map (·+0)=List.range' 0 b.length:=by simp [List.range_eq_range']
 dsimp only
 rw [e,hm,occ_fold b c _ rfl b.length 0 [] 0 (Nat.le_refl _) (by omega)]
 simp
theorem btw_fold (b:Bs) (c:UInt8):∀ (s:Bs) (k last:Nat) (parts:Array (Array UInt8)),s=b.drop k->last<=k->k+s.length=b.length ->
  ((((posF c k s).foldl (fun (parts,last) p=>(parts.push (b.toArray.extract last p),p+1)) (parts,last)).1.push (b.toArray.extract ((posF c k s).foldl (fun (parts,last) p=>(parts.push (b.toArray.extract last p),p+1)) (parts,last)).2 b.toArray.size)).toList.map Array.toList)=parts.toList.map Array.toList++glue ((b.take k).drop last) (splitB c s)
 | [],k,last,parts,e,h,l=>by
  have hk:k=b.length:=by simpa using l
  subst hk
  simp [posF,splitB,glue]
  rw [List.take_of_length_le (by simp)]
 | x::s,k,last,parts,e,h,l=>by
  rw [List.length_cons] at l
  have hk:k < b.length:=by omega
  rw [List.drop_eq_getElem_cons hk] at e
  obtain ⟨e1,e2⟩:=List.cons.inj e
  have ht:b.take (k+1)=b.take k++[x]:=by rw [e1,List.take_succ_eq_append_getElem hk]
  obtain ⟨hh,tt,ee⟩:=splitB_ne c s
  unfold posF splitB
  by_cases q:x=c
  ·rw [if_pos q,if_pos q,List.foldl_cons,btw_fold b c s (k+1) (k+1) _ e2 (Nat.le_refl _) (by omega)]
   have e3:(b.take (k+1)).drop (k+1)=[]:=List.drop_eq_nil_of_le (by rw [List.length_take];omega)
   rw [e3,ee]
   simp [glue]
   rw [List.drop_take]
  ·rw [if_neg q,if_neg q,btw_fold b c s (k+1) last _ e2 (by omega) (by omega),ht,ee]
   have e3:(b.take k++[x]).drop last=(b.take k).drop last++[x]:=by
    rw [List.drop_append_of_le_length (by rw [List.length_take];omega)]
   rw [e3]
   simp [glue]
theorem btw_eq (b:Bs) (c:UInt8):(between b.toArray (#[c] : Array UInt8).size (posF c 0 b)).map Array.toList=splitB c b:=by
 unfold between
 have:=btw_fold b c b 0 0 #[] rfl (Nat.le_refl _) (by omega)
 obtain ⟨h,t,e⟩:=splitB_ne c b
 rw [e] at this ⊢
 simpa [glue] using this
theorem posF_ne {c:UInt8}:∀ {b:Bs} {k:Nat},c∈b->posF c k b≠[]
 | x::r,k,h=>by
  unfold posF
  split
  ·exact List.cons_ne_nil _ _
  ·rename_i q
   rcases List.mem_cons.mp h with e | e
   ·exact absurd e.symm q
   ·exact posF_ne e
theorem posF_len (c:UInt8):∀ (b:Bs) (k:Nat),(posF c k b).length<=b.length
 | [],_=>Nat.le_refl _
 | x::r,k=>by
  have:=posF_len c r (k+1)
  unfold posF
  split
  ·rw [List.length_cons,List.length_cons];omega
  ·rw [List.length_cons];omega
theorem splitB_cnt (c:UInt8):∀ b:Bs,(splitB c b).length<=b.length+1
 | []=>Nat.le_refl _
 | y::r=>by
  have ih:=splitB_cnt c r
  obtain ⟨h0,t,e⟩:=splitB_ne c r
  unfold splitB
  rw [e] at ih ⊢
  split
  ·simp only [List.length_cons] at ih ⊢;omega
  ·simp only [List.length_cons] at ih ⊢;omega
theorem splitB_len (c:UInt8):∀ b:Bs,∀ x∈splitB c b,x.length<=b.length
 | [],x,h=>by simp [splitB] at h;simp [h]
 | y::r,x,h=>by
  obtain ⟨h0,t,e⟩:=splitB_ne c r
  unfold splitB at h
  rw [e] at h
  have ih:=splitB_len c r
  rw [e] at ih
  split at h
  ·rcases List.mem_cons.mp h with q | q
   ·simp [q]
   ·exact Nat.le_succ_of_le (ih x q)
  ·rcases List.mem_cons.mp h with q | q
   ·rw [q];simpa using ih h0 (.head _)
   ·exact Nat.le_succ_of_le (ih x (.tail _ q))
theorem bind_split (v:Value):bindOptional (toString Kind.bytes.name++toString "." ++ toString "split") "split" ["sep","maxsplit"] [v] []=pure [some v,none]:=by kernel_rfl
section
variable {M:Model} {A:Around} {E:Value->Shared->Prop} {h:Heap} {g:Array GenState} {dr:Drawn} {t:Nat} {os:OsState}
theorem wp_news:∀ {l:List (Array UInt8)} {t:Nat} {Q:List Value->Shared->Prop},(∀ x∈l,x.toList.length<=1000000)->(∀ (cvs:List Value) k,cvs.length=l.length->(∀ S:Sx,∀ fz,All2 (RelD S fz) (l.map fun b=>D.bytes b.toList) cvs)->Q cvs ⟨h,g,dr,k,os⟩) ->
  wpAny M A (l.mapM Kind.bytes.new) Q E ⟨h,g,dr,t,os⟩
 | [],_,_,_,hq=>by
  rw [List.mapM_nil]
  exact wpAny_pure (hq [] _ rfl fun _ _=>rfl)
 | x::l,t,Q,hz,hq=>by
  rw [List.mapM_cons]
  refine wpAny_bind ?_
  refine wpAny_mkBytes ?_ (by have:=hz x (.head _);rw [Array.length_toList] at this;unfold sizeLine;omega)
  refine wpAny_bind (wp_news (fun y hy=>hz y (.tail _ hy)) fun cvs k hl hr=>?_)
  exact wpAny_pure (hq _ _ (by rw [List.length_cons,List.length_cons,hl]) fun S fz=>IsCons.mk (Rs:=All2 (RelD S fz) _) ⟨_,rfl⟩ (hr S fz))
theorem wp_split {b:Bs} {c:UInt8} {u u2:Tok} {Q:Value->Shared->Prop} (hz:b.length<=1000000) (hc:c∈b)
  (hq:∀ (cvs:List Value) k,(∀ S:Sx,∀ fz,All2 (RelD S fz) ((splitB c b).map D.bytes) cvs)->Q (.ref h.objs.size) ⟨h.push { cls := .type "list", data := .seq cvs.toArray },g,dr,k,os⟩) :
  wpAny M A (Builtin.«bytes.split» ⟨[.bytes b.toArray u,.bytes [c].toArray u2],[]⟩) (fun fin s'=>∃ v,fin = .done (.ret v)/\Q v s') E ⟨h,g,dr,t,os⟩:=by
 unfold Builtin.«bytes.split» splitM
 refine wpAny_bind (wpAny_of_eq (bind_split _) ?_)
 refine wpAny_bind (wpAny_pure ?_)
 refine wpAny_bind (wpAny_of_eq (a:=b.toArray) rfl ?_)
 rw [if_pos (by decide)]
 dsimp only
 have e1:buffer? (toString Kind.bytes.name++toString "." ++ toString "split") (.bytes [c].toArray u2)=pure (some [c].toArray):=KBy.buffer_eq
 refine wpAny_bind (wpAny_bind (wpAny_of_eq e1 (wpAny_pure ?_)))
 rw [if_neg (by simp)]
 have e2:(if false=true then occurrencesFromRight b.toArray #[c] (b.toArray.size+1) else List.take (b.toArray.size+1) (occurrences b.toArray #[c] 0 b.toArray.size))=posF c 0 b:=by
  rw [if_neg Bool.false_ne_true,occ_eq,List.take_of_length_le (by have:=posF_len c b 0;simp;omega)]
 rw [e2,if_neg (by have:=posF_ne (k:=0) hc;cases hp:posF c 0 b with | nil=>exact absurd hp this | cons=>simp)]
 have hb:=btw_eq b c
 refine wpAny_bind (wp_news (fun x hx=>?_) fun cvs k hl hr=>wpAny_bind ?_)
 ·have:x.toList∈splitB c b:=by rw [<- hb];exact List.mem_map_of_mem hx
  exact Nat.le_trans (splitB_len c b _ this) hz
 ·unfold newList
  have hsz:cvs.length<=1000001:=by
   have h2:(between b.toArray (#[c] : Array UInt8).size (posF c 0 b)).length=(splitB c b).length:=by rw [<- hb,List.length_map]
   have h3:=splitB_cnt c b
   omega
  refine wpAny_newObj_type ?_ (by unfold sizeOk sizeLine;simp;omega)
  refine wpAny_pure ⟨_,rfl,hq cvs _ fun S fz=>?_⟩
  have:=hr S fz
  rw [<- hb,List.map_map]
  exact this
end
end Mine
namespace Mine.C
section
variable {S:Sx} {d p:Nat} {hp:Hp} {Q:V->Hp->Prop} {X:Bs->Prop}
theorem partOk {b:Bs} {c:UInt8} (hz:b.length<=1000000) (hq:Q (.d (.tup (partB b c))) hp):CallOk S d (.bi 15) [.d (.bytes b),.d (.bytes [c])] hp Q X:=bi2 fun {F mp w s c0 c1} ha r r1=>by
 obtain ⟨t,rfl⟩:=r
 obtain ⟨t1,rfl⟩:=r1
 obtain ⟨news,i⟩:=ha.inv
 obtain ⟨hh,g,dr,tt,os⟩:=s
 show PySem.wpAny _ _ (call (.builtin "bytes.partition") _) _ _ _
 refine wpAny_call_entry slot_bytes_partition (typeIs_bytes _ _ _) entry_bytes_partition ?_ (args_bytes_partition _ _)
 refine wp_partition hz fun cvs k hr=>?_
 obtain ⟨a1,l1⟩:=i.icy (s':=⟨hh.push { cls := .type "tuple", data := .seq cvs.toArray },g,dr,k,os⟩) ha.len (i.fr.push _) (i.nw.push i.fr _ rfl) i.size rfl rfl
 exact PT l1 (Fz.set_at _ _ _) (hr S _) a1 hq
theorem indexOk {b:Bs} {i:Int} {k:Nat} (hz:b.length<=1000000) (h0:0<=i) (h1:i < 256) (hk:b.findIdx? (·==UInt8.ofNat i.toNat)=some k) (hq:Q (.d (.int k)) hp):CallOk S d (.bi 16) [.d (.bytes b),.d (.int i)] hp Q X:=bi2 fun {F mp w s c0 c1} ha r r1=>by
 obtain ⟨t,rfl⟩:=r
 obtain ⟨t1,rfl⟩:=r1
 obtain ⟨hh,g,dr,tt,os⟩:=s
 show PySem.wpAny _ _ (call (.builtin "bytes.index") _) _ _ _
 exact wpAny_call_entry slot_bytes_index (typeIs_bytes _ _ _) entry_bytes_index (wp_index hz h0 h1 hk fun u k'=>PI (.refl _) (ha.keep rfl rfl rfl) hq) (args_bytes_index _ _)
theorem splitOk {b:Bs} {c:UInt8} (hz:b.length<=1000000) (hc:c∈b) (hq:Q (.ref hp.length) (hp++[.list ((splitB c b).map D.bytes)])):CallOk S d (.bi 17) [.d (.bytes b),.d (.bytes [c])] hp Q X:=bi2 fun {F mp w s c0 c1} ha r r1=>by
 obtain ⟨t,rfl⟩:=r
 obtain ⟨t1,rfl⟩:=r1
 obtain ⟨news,i⟩:=ha.inv
 obtain ⟨hh,g,dr,tt,os⟩:=s
 show PySem.wpAny _ _ (call (.builtin "bytes.split") _) _ _ _
 refine wpAny_call_entry slot_bytes_split (typeIs_bytes _ _ _) entry_bytes_split (wp_split hz hc fun cvs k hr=>?_) (args_bytes_split _ _)
 exact PRef (.refl _) ha.len (i.alloc (s':=⟨hh.push { cls := .type "list", data := .seq cvs.toArray },g,dr,k,os⟩) (x := .list ((splitB c b).map D.bytes)) ha.len (i.fr.push _) (i.nw.push i.fr _ rfl) i.size (IsList.mk (hr S _)) rfl rfl) hq
theorem listOk {l:List D} (e:hp[p]?=some (.list l)) (hz:l.length<=1000000) (hq:Q (.ref hp.length) (hp++[.list l])):CallOk S d (.bi 8) [.ref p] hp Q X:=bi1 fun {F mp w s c} ha r=>by
 cases At.ref ha e r with | mk g1 g2 g3 =>
 cases (show IsList .. from g3) with | @mk cvs n g4 =>
 obtain ⟨news,i⟩:=ha.inv
 show PySem.wpAny _ _ (call (.type "list") _) _ _ _
 refine list_copyK (l:=_) (items:=cvs.toArray) i.fr i.nw ⟨_,g2,rfl,n,rfl⟩ (fun D c' h' F' N' hD=>?_) (by rw [List.size_toArray,All2.length g4];exact Nat.le_trans hz (by decide))
 exact PRef (.refl _) ha.len (i.alloc (s':={ s with heap:=h' }) (x := .list l) ha.len F' N' (fun m=>(keyMem m).elim fun o m=>absurd (hD _ m) (Nat.lt_irrefl _)) (IsList.mk g4) rfl rfl) hq
theorem isIntL {l:List D} (e:hp[p]?=some (.list l)) (hq:Q (.d (.bool false)) hp):CallOk S d (.bi 6) [.ref p,.bi 7] hp Q X:=bi2 fun {F mp w s c c1} ha r r1=>by
 cases (show c1=_ from r1)
 cases At.ref ha e r with | mk g1 g2 g3 =>
 cases (show IsList .. from g3) with | mk g4 =>
 show PySem.wpAny _ _ (call (.builtin "isinstance") _) _ _ _
 exact call_isinstance (isinstance_false_list (by decide +kernel) PySem.F.isi_meta_int PySem.F.sub_list_int) ⟨⟨_,g2,rfl⟩,PBo (.refl _) (ha.toks _) hq⟩
end
end Mine.C
namespace Mine
noncomputable def Fx.make {S:Sx} (F:Fx S) (C:Addr) (rest:List Value) {d:Nat} (h:d+1<=F.d):Fx S :=
 { F with A:=F.A.under (.builtin "type.__call__" ⟨.ref C::rest,[]⟩),d:=d,stack:=F.stack,handled:=F.handled,guards:=F.guards,room:=Nat.le_trans (by show F.A.depth+1+1+2*d<=F.A.depth+1+2*(d+1);omega) (Nat.le_trans (Nat.add_le_add_left (Nat.mul_le_mul_left 2 h) _) F.room),units:=Nat.le_trans (by show F.A.units+1+5+8*d<=F.A.units+5+8*(d+1);omega) (Nat.le_trans (Nat.add_le_add_left (Nat.mul_le_mul_left 8 h) _) F.units) }
end Mine
namespace Mine.C
theorem PostX.make {S:Sx} {F:Fx S} {C:Addr} {rest:List Value} {d:Nat} {h:d+1<=F.d} {w:Wd} {X:Bs->Prop} {e:Value} {s:Shared} (p:PostX (F.make C rest h) w X e s):PostX F w X e s:=by
 cases p with | mk a r x =>
 obtain ⟨ea,head,rfl,mp,l',ht,h'⟩:=r
 exact .mk a ⟨ea,head,rfl,mp,l',ht,h'.frame rfl (.refl _)⟩ x
theorem tcall_eq (C:Addr) (rest:List Value):∃ (k1:List Value->Sem PySem.Fin) (k2:Option String->Sem PySem.Fin) (k3:Value->Sem PySem.Fin) (k4:Value->Bool->Sem PySem.Fin) (k5:Value->Option Value->Sem PySem.Fin),
  Builtin.«type.__call__» ⟨.ref C::rest,[]⟩=mroOf (.ref C) >>= k1/\(∀ x l,k1 (x::l)=Bind.madeBy (.ref C) >>= k2)/\(∀ id,k2 (some id)=holding [.builtin id] (call (.builtin id) (.ref C::rest) []) >>= k3) /\
  (∀ o,k3 o=isInstance o (.ref C) >>= k4 o)/\(∀ o,k4 o true=holding [o] (callSpecial? o "__init__" rest []) >>= k5 o)/\(∀ o,k5 o (some .none)=ret o) :=
 ⟨_,_,_,_,_,rfl,fun a b=>rfl,fun a=>rfl,fun a=>rfl,fun a=>rfl,fun a=>rfl⟩
theorem nd_load {M:Model} {α:Type} {A:Around} {Q:α->Shared->Prop} {E:Value->Shared->Prop} {s:Shared} {a:Addr} {p:Option Value} {k:Obj->Sem α} {o:Obj} (ho:s.heap.get? a=some o) (h:wpAny M A (k o) Q E s):wpAny M A (.load a p k) Q E s:=fun Γ q hΓ c1 c2=>⟨o,ho,h Γ q hΓ c1 c2⟩
theorem special_fn {M:Model} {K:Frag} {C:Addr} {E:Value->Shared->Prop} {A:Around} {s:Shared} {x:Addr} {name:Str} {f:Addr} {args:List Value} {Q:Option Value->Shared->Prop} (X:K.In s.heap) (ht:Looks M s.heap (typeOf (.ref x)) (.ref C))
  (hs:findIn K (.ref C) name=some (some (.ref f))) (hf:typeIn K (.ref f)=some (.type "function")) (h:wpAny M A (call (.ref f) (.ref x::args)) (fun v=>Q (some v)) E s) :
  wpAny M A (callSpecial? (.ref x) name args) Q E s:=by
 have L:Looks M s.heap (specialOf (.ref x) name) (some (.ref f)):=ht.andThen (looks_findIn X hs)
 exact wpAny_bind (lf (L.here (wpAny_holding (wpAny_bind (lf ((bind_fn X _ hf).here (wpAny_bind (wpAny_mono h (fun a b z=>wpAny_pure z) fun a b z=>z))))))))
section
variable {S:Sx} {A:Around} {R:Result->Shared->Prop} {h:Heap} {g:Array GenState} {dr:Drawn} {t:Nat} {os:OsState}
theorem callCls {C:Addr} {rest:List Value} {oc:Value} {od:Option Addr} {cd:ClassData} {sl:Array (Option Value)} (hC:h.get? C=some ⟨oc,od,.cls cd,sl⟩)
  (call:Looks (model S.prog S.w) h (specialOf (.ref C) "__call__") (some (.builtin "type.__call__"))) (typ:Looks (model S.prog S.w) h (isInstance (.ref C) (.type "type")) true)
  (hq:wpAny (model S.prog S.w) (A.under (.builtin "type.__call__" ⟨.ref C::rest,[]⟩)) (Builtin.«type.__call__» ⟨.ref C::rest,[]⟩) (fun fin s'=>match fin with | .done f=>R (.ok f) s' | .again c'=>c'.quiet=true/\codeAny (model S.prog S.w) A c' R s') (fun e s'=>R (.error e) s') ⟨h,g,dr,t,os⟩) :
  codeAny (model S.prog S.w) A (.call (.ref C) ⟨rest,[]⟩) R ⟨h,g,dr,t,os⟩:=by
 refine codeAny_of_tree rfl ?_
 show wpAny _ _ (callAny (.ref C) _) _ _ _
 refine nd_load hC ?_
 show wpAny _ _ (callAny.viaDunder (.ref C) _) _ _ _
 unfold callAny.viaDunder
 refine wpAny_bind (lf (call.at ?_))
 dsimp only
 rw [tc_bind]
 refine wpAny_bind (wpAny_pure (wpAny_bind (wpAny_pure ?_)))
 refine wpAny_pure (a:=Fin.again (.call (.builtin "type.__call__") ⟨.ref C::rest,[]⟩)) (And.intro rfl ?_)
 exact codeAny_call_builtin_code (Code.quiet_builtin _ (by decide +kernel)) (lf (check_slot tc_kind tc_split typ (tc_args _ _ _) (codeAny_builtin (by decide +kernel) entry_typeCall hq)))
end
noncomputable def initIx (c:Nat):Nat:=[41,60,75,83,81,23,24,25,26].getD c 41
structure ClsIn (S:Sx):Prop where
 makes:∀ c,makesIn S.K (S.cA c)=true
 init:∀ c,findIn S.K (.ref (S.cA c)) "__init__" = some (some (.ref (S.fA (initIx c))))
 isFn:∀ c,typeIn S.K (.ref (S.fA (initIx c)))=some (.type "function")
section
variable {S:Sx} {F:Fx S} {d:Nat} {mp:Mp} {hp:Hp} {w:Wd} {s:Shared} {Q:V->Hp->Prop} {X:Bs->Prop}
theorem makeCore {A:Around} {R:Result->Shared->Prop} {h:Heap} {g:Array GenState} {dr:Drawn} {t:Nat} {os:OsState} {C fI:Addr} {rest:List Value} (hk:S.K.In h) (Y:Makes (model S.prog S.w) h C)
  (hi:findIn S.K (.ref C) "__init__" = some (some (.ref fI))) (hf:typeIn S.K (.ref fI)=some (.type "function"))
  (hq:wpAny (model S.prog S.w) (A.under (.builtin "type.__call__" ⟨.ref C::rest,[]⟩)) (call (.ref fI) (.ref (h.objs.size+1)::rest)) (fun v s'=>v = .none/\R (.ok (.ret (.ref (h.objs.size+1)))) s') (fun e s'=>R (.error e) s') ⟨(h.push PySem.W.emptyDict).push (PySem.W.instObj C h.objs.size),g,dr,t,os⟩) :
  codeAny (model S.prog S.w) A (.call (.ref C) ⟨rest,[]⟩) R ⟨h,g,dr,t,os⟩:=by
 have Y':=Y
 obtain ⟨⟨oc,od,cd,sl,hC,e1,e2,e4⟩,made,base,self,top,call,typ⟩:=Y
 refine callCls hC call typ ?_
 obtain ⟨k1,k2,k3,k4,k5,q1,q2,q3,q4,q5,q6⟩:=tcall_eq C rest
 have hm:Looks (model S.prog S.w) h (mroOf (.ref C)) cd.mro:=((Looks.ld (part:=none) hC).andThen .now).andThen .now
 rw [q1]
 refine wpAny_bind (lf (hm.at ?_))
 obtain ⟨c0,l0,hl0⟩ : ∃ c l,cd.mro=c::l:=by cases q:cd.mro with | nil=>rw [q] at e4;cases e4 | cons c l=>exact ⟨c,l,rfl⟩
 rw [hl0,q2]
 refine wpAny_bind (lf (made.at ?_))
 rw [q3]
 have li:=looks_findIn (M:=model S.prog S.w) hk hi
 refine wpAny_bind (wpAny_holding (wpAny_call (lfc (new_K Y' li (.inl rfl) ?_))))
 have k:∀ b o,h.get? b=some o->((h.push PySem.W.emptyDict).push (PySem.W.instObj C h.objs.size)).get? b=some o:=fun b o e=>Heap.get?_push_of_some _ (Heap.get?_push_of_some _ e)
 have hx:((h.push PySem.W.emptyDict).push (PySem.W.instObj C h.objs.size)).get? (h.objs.size+1)=some (PySem.W.instObj C h.objs.size):=by heap_get
 have t1:Looks (model S.prog S.w) ((h.push PySem.W.emptyDict).push (PySem.W.instObj C h.objs.size)) (typeOf (.ref (h.objs.size+1))) (.ref C):=(Looks.ld hx).andThen .now
 have i1:Looks (model S.prog S.w) ((h.push PySem.W.emptyDict).push (PySem.W.instObj C h.objs.size)) (isInstance (.ref (h.objs.size+1)) (.ref C)) true:=t1.andThen (self.keeps k)
 show wpAny _ _ (k3 (.ref (h.objs.size+1))) _ _ _
 rw [q4]
 refine wpAny_bind (lf (i1.at ?_))
 rw [q5]
 refine wpAny_bind (wpAny_holding (special_fn (fun a o e=>k _ _ (hk a o e)) t1 hi hf (wpAny_mono hq (fun v s' z=>?_) fun e s' z=>z)))
 obtain ⟨rfl,z⟩:=z
 show wpAny _ _ (k5 _ (some .none)) _ _ _
 rw [q6]
 exact wpAny_pure z
theorem make_ok (Y:ClsIn S) {c:Nat} {vs:List V} (h:CallOk S d (.fn (initIx c)) (.inst c hp.length::vs) (hp++[.ns c []]) (fun r hp'=>r = .d .none/\Q (.inst c hp.length) hp') X):CallOk S (d+1) (.cls c) vs hp Q X:=by
 refine ⟨@fun F mp w s cf cvs hF ha rf rs=>?_⟩
 cases (show cf=_ from rf)
 obtain ⟨news,i⟩:=ha.inv
 obtain ⟨hh,g,dr,t,os⟩:=s
 refine wpAny_call (makeCore ha.kIn (makes_of ha.kIn (Y.makes c)) (Y.init c) (Y.isFn c) ?_)
 have a1:=i.alloc (s':=⟨hh.push PySem.W.emptyDict,g,dr,t,os⟩) (x := .ns c []) ha.len (i.fr.push _) (i.nw.push i.fr _ rfl) i.size (IsNs.mk (n:=0) (es:=[]) (cvs:=[]) rfl rfl) rfl rfl
 obtain ⟨news2,i2⟩:=a1.inv
 obtain ⟨a2,l2⟩:=i2.icy (s':=⟨(hh.push PySem.W.emptyDict).push (PySem.W.instObj (S.cA c) hh.objs.size),g,dr,t,os⟩) a1.len (i2.fr.push _) (i2.nw.push i2.fr _ rfl) i2.size rfl rfl
 dsimp only at a2 l2
 rw [Heap.size_push] at a2 l2
 have l3:=(w.add_le hh.objs.size).trans l2
 have hm:(w.add hh.objs.size).m[hp.length]?=some hh.objs.size:=by rw [<- ha.len.len];exact List.getElem?_concat_length
 have rI:Rel S ((w.add hh.objs.size).frz (hh.objs.size+1) (instObj (S.cA c) hh.objs.size)) (.inst c hp.length) (.ref (hh.objs.size+1)):=IsIn.mk (Fz.set_at _ _ _) hm
 refine wpAny_mono (h.run (F:=F.make (S.cA c) cvs hF) (Nat.le_refl _) (a2.frame rfl (.refl _)) (show Rel S _ (.fn _) _ from rfl) (IsCons.mk rI (Rels.mono l3 rs))) (fun v s' p=>?_) fun e s' p=>(p.make).weak l3
 cases p with | mk l r a q =>
 cases q.1
 cases (show v=Value.none from r)
 exact ⟨rfl,.mk (l3.trans l) (rI.mono l) (a.frame rfl (.refl _)) q.2⟩
end
end Mine.C
section
open Builtin Builtin.ObjectAttr
namespace Mine
abbrev bareExc (cE t:Addr):Obj:={ cls := .ref cE,data := .fields #[.ref t,.none,.none,.none,.bool false,.none] }
section
variable {S:Sx} {A:Around} {R:Result->Shared->Prop} {h:Heap} {g:Array GenState} {d:Drawn} {t:Nat} {os:OsState}
theorem newExc (hk:S.K.In h) {rest:List Value} (hrest:rest.length<=sizeLine)
  (hq:R (.ok (.ret (.ref (h.objs.size+1)))) ⟨(h.push { cls := .type "tuple", data := .seq rest.toArray }).push (bareExc S.cE h.objs.size),g,d,t,os⟩) :
  codeAny (model S.prog S.w) A (.builtin "Exception.__new__" ⟨.ref S.cE::rest,[]⟩) R ⟨h,g,d,t,os⟩:=by
 have F:=PySem.F.excBase_Exception
 have hC:=hk _ _ S.xlook
 have hends:=F.ends
 have hcB:(Value.ref S.cE::tailOf S.cP).contains (.type "Exception")=true:=by simp
 have hcA:(Value.ref S.cE::tailOf S.cP).contains (.type "AttributeError")=false:=by rfl
 have hcN:(Value.ref S.cE::tailOf S.cP).contains (.type "NameError")=false:=by rfl
 refine codeAny_builtinAt F.entry ?_
 unfold Builtin.«BaseException.__new__»
 refine PySem.wpAt_bind ?_
 show PySem.wpAt _ _ _ (stack >>= _) _ _ _
 refine PySem.wpAt_bind (PySem.wpAt_stack fun p below=>PySem.wpAt_of_wpAny ?_)
 wp_walk
 refine PySem.wpAt_of_wpAny ?_
 rw [F.owner]
 repeat (first | with_reducible refine wpAny_madeHere_exc F.canon hC ?_ | with_reducible refine wpAny_loadPart_at hC ?_ | (with_reducible refine wpAny_isSubtype_exc hC ?_;first | rw [hcB] | rw [hcA] | rw [hcN]) | wp_step)
 show R _ _
 rw [Heap.size_push]
 exact hq
theorem checkNew (hk:S.K.In h) {rest:List Value} {E:Value->Shared->Prop} {Q:Unit->Shared->Prop} (hq:Q () ⟨h,g,d,t,os⟩) :
  wpAny (model S.prog S.w) A (checkBuiltinCall "Exception.__new__" ⟨.ref S.cE::rest,[]⟩) Q E ⟨h,g,d,t,os⟩:=by
 have F:=PySem.F.excBase_Exception
 have hC:=hk _ _ S.xlook
 have hcont:(Value.ref S.cE::tailOf S.cP).contains (.type "Exception")=true:=by simp
 have hstar:=F.noStar
 unfold checkBuiltinCall
 rw [F.newKind,F.newSplit,F.newRow]
 dsimp only
 repeat (first | refine wpAny_loadPart_at hC ?_ | (refine wpAny_isSubtype_exc hC ?_;rw [hcont]) | refine wpAny_staticBase_exc hC ?_ | refine wpAny_madeBy_exc hC ?_ | simp only [bne_self_eq_false,Bool.false_eq_true,if_false] | wp_step)
 exact hq
end
theorem passTail (self:Value) (cE cP:Addr):refuseLoop self "__setattr__" (.ref cE::tailOf cP)=pure ():=by
 rw [refuseLoop_ref,refuseLoop_ref];kernel_rfl
def Top (o:Obj):Prop:=True
section
variable {S:Sx} {F:Fx S} {mp:Mp} {hp:Hp} {w:Wd} {s:Shared} {a ea:Addr} {o oe:Obj} {h':Heap} {tk:Tok}
theorem At.any (h:At F mp hp w s) (m:(a,Top)∈F.hid) (hx:Heap.ExtBut a s.heap h') (ho:h'.get? a=some o):At F mp hp w { s with heap:=h',toks:=tk } :=
 ⟨h.len,h.inv.elim fun _ i=>⟨_,i.upd (y:=Top) (List.mem_append_left _ m) hx ho trivial (fun p q=>by
  by_cases e:p.1=a
  ·refine .inl (Prod.ext e ?_)
   exact nodupEq (a:=p.1) i.cnd q (by rw [e];exact List.mem_append_left _ m)
  ·exact .inr ⟨q,e⟩) i.cnd rfl rfl⟩⟩
theorem setTold {vs:Array Value} {b:Bs} {u:Tok} {Q:Unit->Shared->Prop} {E:Value->Shared->Prop} (ha:At F mp hp w s) (m:(ea,Top)∈F.hid) (hx:s.heap.get? ea=some oe) (h1:oe.cls = .ref S.cE) (h2:oe.dict=none) (h3:oe.data = .fields vs)
  (h:∀ dx t n s',w.le (w.frz dx (toldDict S.w b t u n))->At F mp hp (w.frz dx (toldDict S.w b t u n)) s'->s'.heap.get? ea=some { oe with dict:=some dx }->Q () s') :
  wpAny (model S.prog S.w) F.A (setAttr (.ref ea) "told" (.bytes b.toArray u)) Q E s:=by
 have hk:=ha.kIn
 have hC:=hk _ _ S.xlook
 have I:W.InstAt s.heap ea oe S.cE none:=⟨hx,h1,by unfold notCls;rw [h3],by rw [h2];trivial⟩
 refine set_plain hk I S.xset ?_
 obtain ⟨cd,hcls,hmro,hhd⟩ : ∃ cd,clsIn S.K S.cE=some cd/\cd.mro = .ref S.cE::tailOf S.cP/\cd.hasDict=true:=⟨_,by unfold clsIn;rw [S.xlook],rfl,rfl⟩
 have sub:Looks (model S.prog S.w) s.heap (isInstance (.ref ea) (.type "object")) true:=I.type.andThen (looks_mroIn hk (by unfold mroIn;rw [hcls,Option.bind_some,hmro];rfl))
 refine codeAny_call_builtin PySem.F.store_object.slot.plain PySem.F.store_object.entry (@check_slot (model S.prog S.w) _ _ _ "object.__setattr__" "object" "__setattr__" (.ref ea) [.str "told" s.toks,.bytes b.toArray u] [] _ PySem.F.store_object.kind PySem.F.store_object.split sub (PySem.F.store_object.args (.ref ea) (.str "told" s.toks) (.bytes b.toArray u)) ?_)
 have hm:Looks (model S.prog S.w) s.heap (mroOf (.ref S.cE)) (.ref S.cE::tailOf S.cP):=hmro▸(looks_clsIn hk hcls).andThen .now
 rw [osa_eq,refuse_eq]
 refine wpAny_bind (wpAny_bind (I.type.at (wpAny_bind (hm.at ?_))))
 rw [passTail]
 refine wpAny_pure (wpAny_bind (I.type.at (wpAny_bind ((looks_findIn hk S.xtold).at (wpAny_bind (wpAny_pure ?_))))))
 show wpAny _ _ (storeInOwnDict (.ref ea) (.ref S.cE) _ _ _ _) _ _ _
 unfold storeInOwnDict
 refine wpAny_bind (wpAny_pure (wpAny_bind (wpAny_bind (wpAny_loadPart hx ?_))))
 rw [h1]
 refine wpAny_bind ((looks_clsIn hk hcls).at ?_)
 rw [hhd,h2,h3]
 obtain ⟨hh,gg,dr,tk,os⟩:=s
 dsimp only at ha hx h hk
 have a1:=(ha.toks (tk+1)).hid (o:={ cls := .type "dict", data := .dict #[] }) rfl
 dsimp only at a1
 have hx1:=Heap.get?_push_of_some { cls := .type "dict", data := .dict #[] } hx
 refine wpAny_bind (wpAny_alloc (wpAny_bind (wpAny_update hx1 ?_)))
 refine wpAny_pure ?_
 have hes:ea≠hh.objs.size:=Nat.ne_of_lt (Heap.lt_size hx)
 have g2:((hh.push { cls := .type "dict", data := .dict #[] }).update ea fun o=>{ o with dict:=some hh.objs.size }).get? ea=some { oe with dict:=some hh.objs.size }:=Heap.get?_update_self _ hx1 (by obtain ⟨_,_,dd,_⟩:=oe;cases h3;rfl)
 have a2:=a1.any (tk:=tk+1) (List.mem_append_right _ m) (Heap.SameBut.update _ ea fun o=>{ o with dict:=some hh.objs.size }).extBut g2
 have D:=a2.held (.head _)
 generalize hh.objs.size=dx at *
 show wpAny _ _ (storeInDict dx _ _ _) _ _ _
 unfold storeInDict newKeyGuard nsSet
 refine wpAny_bind (wpAny_pure (wpAny_bind (wpAny_bind (wpAny_bind (wpAny_askSetting (wpAny_pure (wpAny_bind (wpAny_mkText (wpAny_bind (wpAny_loadPart D ?_))))))))))
 dsimp only
 refine wpAny_updatePart D ?_
 generalize h1':(tk+1+1:Tok)=tk2
 have pd:Obj.putName "told" (PyData.keyHash S.w.params "told") (.str "told" (tk+1)) (.bytes b.toArray u) { cls := .type "dict", data := .dict #[] }=toldDict S.w b (tk+1) u (putN "told" [] 0):=putName_dict "told" (PyData.keyHash S.w.params "told") (.str "told" (tk+1)) (.bytes b.toArray u) [] 0
 have hS:Heap.SameBut dx ((hh.push { cls := .type "dict", data := .dict #[] }).update ea fun o=>{ o with dict:=some dx }) (((hh.push { cls := .type "dict", data := .dict #[] }).update ea fun o=>{ o with dict:=some dx }).update dx (Obj.putName "told" (PyData.keyHash S.w.params "told") (.str "told" (tk+1)) (.bytes b.toArray u))):=Heap.SameBut.update _ _ _
 have a3:=a2.turn (P':=Is (toldDict S.w b (tk+1) u (putN "told" [] 0))) (tk:=tk2) hS.extBut (by rw [<- pd];exact Heap.get?_update_self _ D (by rw [pd];rfl)) rfl
 have D':=a3.held (.head _)
 refine wpAny_bind (wpAny_lookBehind D' (pastItsLine_dict (by rw [List.size_toArray,sizeLine_eq];simp)) ?_)
 obtain ⟨l4,a4⟩:=a3.ice
 exact wpAny_pure (h dx (tk+1) (putN "told" [] 0) _ l4 a4 (hS.extBut ea _ hes g2))
end
end Mine
end
namespace Mine
abbrev fullExc (cE t de:Addr):Obj:={ cls := .ref cE,dict:=some de,data := .fields #[.ref t,.none,.none,.none,.bool false,.none] }
theorem raiseTail {M:Model} {A:Around} {E:Value->Shared->Prop} {Q:Flow->Shared->Prop} {nm q:Str} {C N:Addr} {bs bm:List Value} {hdct:Bool} {sn:List Str} {sub:List Value} {ab:Bool} {col:Option Bool} {dd:Option Addr} {k0 k1 k2 k3 k5:Option Value} {newId:String} {e t de:Addr} {s:Shared} (hbase:bm.contains (.type "BaseException")=true) (hh:A.handled=none)
  (hC:s.heap.get? C=some (excClassObj nm q C N bs bm hdct sn sub ab col dd k0 k1 k2 k3 k5 newId)) (he:s.heap.get? e=some (fullExc C t de)) (hE:E (.ref e) s) :
  wpAny M A (do
   let e' <- holding [] (excFromValue (.ref e) "exceptions must derive from BaseException")
   let e' <- if <- isType (.ref e) then holding [e'] (raisedFor (.ref e) e') else raisedInstance e'
   setFlight e' none
   raiseNew e') Q E s:=by
 have hcB:(Value.ref C::bm).contains (.type "BaseException")=true:=by rw [List.contains_cons,hbase,Bool.or_true]
 obtain ⟨hp,g,d,tk,os⟩:=s
 repeat (first | with_reducible refine wpAny_loadPart_at he ?_ | with_reducible refine wpAny_loadPart_at hC ?_ | (with_reducible refine wpAny_isSubtype_exc hC ?_;rw [hcB]) | wp_step)
 exact wpAny_raiseNew_none hh hE
end Mine
namespace Mine.C
section
variable {S:Sx} {F:Fx S} {mp:Mp} {hp:Hp} {w:Wd} {s:Shared} {a ea:Addr} {o oe:Obj} {h':Heap} {tk:Tok} {b:Bs} {u:Tok} {Q:Value->Shared->Prop} {E:Value->Shared->Prop}
theorem name_ok {x:Str} {p:Pos} {cv:Value} (ha:At F mp hp w s) (hdb:(x==("__debug__" : Str))=false) (hk:F.env.kindOf x=some .local) (hm:mp x=some cv) (h:Q cv s):PySem.wpAny (model S.prog S.w) F.A (eval (.Name x p) F.env) Q E s:=by
 obtain ⟨news,j⟩:=ha.inv
 refine wpAny_Name (wpAny_loadName_local F.kind hk (m:=mp) ?_ hm h) hdb
 rw [F.loc];exact j.fr.ns
theorem tell_ok {vs:Array Value} (G:GlobOk S) (hd:0+1<=F.d) (ha:At F mp hp w s) (m:(ea,Top)∈F.hid) (hx:s.heap.get? ea=some oe) (h1:oe.cls = .ref S.cE) (h2:oe.dict=none) (h3:oe.data = .fields vs)
  (h:∀ w' dx t n s',w.le w'->w'.fz dx=some (toldDict S.w b t u n)->At F mp hp w' s'->s'.heap.get? ea=some { oe with dict:=some dx }->Q .none s') :
  wpAny (model S.prog S.w) F.A (call (.ref (S.fA 1)) [.ref ea,.bytes b.toArray u]) Q E s:=by
 obtain ⟨f,fd,dl,p1,p2,p3,p4,D,hdf,hl,hc,hpar,hbody⟩:=G.2.1
 obtain ⟨hb,lc,hn,sc,c13⟩:=fn_pre (s:=s) D.params hdf hl hc (cvs:=[.ref ea,.bytes b.toArray u]) rfl ha.kIn
 have e0:f.par[0]?=some ("self" : Str):=by rw [hpar];rfl
 have e1:f.par[1]?=some ("told" : Str):=by rw [hpar];rfl
 refine wpAny_call (code_at (cx:=f.cx) (loc0:=[]) D sc rfl G hd ha hb (fun y m=>?_) (fun i v e=>?_) fun F' s1 hm hd' R0 lv=>?_)
 ·obtain ⟨n,m,e⟩:=List.mem_map.mp m
  rw [<- e];exact c13 n m
 ·rw [List.getElem?_nil] at e;exact nomatch e
 ·rw [hbody]
  have k0:F'.env.kindOf ("self" : Str)=some .local:=by unfold Env.kindOf;rw [R0.sc];exact c13 _ (List.mem_of_getElem? e0)
  have k1:F'.env.kindOf ("told" : Str)=some .local:=by unfold Env.kindOf;rw [R0.sc];exact c13 _ (List.mem_of_getElem? e1)
  refine wpAny_execs_cons (plainObj_wpAny_Assign_Attribute (lf (name_ok R0.at_ rfl k1 (bound_at hn e1 rfl) (lf (name_ok R0.at_ rfl k0 (bound_at hn e0 rfl) (lf (setTold R0.at_ (hm.1 _ m) (hm.2 _ _ hx) h1 h2 h3 fun dx t n s' l a1 g=>lf (wpAny_execs_nil ?_))))))) (noSwap (value := .Name "told" p3) rfl))
  exact ⟨_,_,_,a1,fun a2=>h _ dx t n s' l (Fz.set_at _ _ _) a2 g⟩
theorem callTell (G:GlobOk S) (hd:1+1<=F.d) (ha:At F mp hp w s) (h:∀ ea t0 de fz s',(∀ a o,w.fz a=some o->fz a=some o)->s'.heap.get? ea=some (fullExc S.cE t0 de)->S.K.In s'.heap->At (F.plus [(ea,IsX S fz b .none)]) mp [] ⟨[],fz⟩ s'->Q (.ref ea) s') :
  wpAny (model S.prog S.w) F.A (call (.ref S.cE) [.bytes b.toArray u]) Q E s:=by
 obtain ⟨hh,g,dr,t,os⟩:=s
 have hk:=ha.kIn
 have hC:=hk _ _ S.xlook
 refine wpAny_call (callCls hC (looks_specialIn hk S.xcall) (looks_instIn hk S.xtyp) ?_)
 obtain ⟨k1,k2,k3,k4,k5,e1,e2,e3,e4,e5,e6⟩:=tcall_eq S.cE [.bytes b.toArray u]
 rw [e1]
 refine wpAny_bind (lf (wpAny_mroOf_exc hC ?_))
 rw [e2]
 refine wpAny_bind (lf (wpAny_madeBy_exc hC ?_))
 rw [e3]
 have F0:=PySem.F.excBase_Exception
 refine wpAny_bind (wpAny_holding (wpAny_call (codeAny_call_builtin_code (Code.quiet_builtin _ F0.quiet) (lf (checkNew hk (lfc (newExc hk (show 1<=sizeLine by decide) ?_)))))))
 obtain ⟨news,i⟩:=ha.inv
 obtain ⟨a1,l1⟩:=i.icy (s':=⟨hh.push { cls := .type "tuple", data := .seq [.bytes b.toArray u].toArray },g,dr,t,os⟩) ha.len (i.fr.push _) (i.nw.push i.fr _ rfl) i.size rfl rfl
 have a2:=(a1.frame (F':=F.make S.cE [.bytes b.toArray u] hd) rfl (.refl _)).hid (o:=bareExc S.cE hh.objs.size) rfl
 dsimp only at a2
 rw [Heap.size_push] at a2
 have hx:=a2.held (.head _)
 have k:∀ c o,hh.get? c=some o->((hh.push { cls := .type "tuple", data := .seq [.bytes b.toArray u].toArray }).push (bareExc S.cE hh.objs.size)).get? c=some o:=fun c o e=>Heap.get?_push_of_some _ (Heap.get?_push_of_some _ e)
 have t1:Looks (model S.prog S.w) ((hh.push { cls := .type "tuple", data := .seq [.bytes b.toArray u].toArray }).push (bareExc S.cE hh.objs.size)) (typeOf (.ref (hh.objs.size+1))) (.ref S.cE):=(Looks.ld hx).andThen .now
 have s1:Looks (model S.prog S.w) ((hh.push { cls := .type "tuple", data := .seq [.bytes b.toArray u].toArray }).push (bareExc S.cE hh.objs.size)) (isSubtype (.ref S.cE) (.ref S.cE)) true:=by
  intro A Q E s kk q
  obtain ⟨a1,a2,a3,a4,a5⟩:=s
  refine wpAny_isSubtype_exc (kk _ _ (k _ _ hC)) ?_
  have hcC:(Value.ref S.cE::tailOf S.cP).contains (.ref S.cE)=true:=by simp
  rw [hcC];exact q
 have i1:Looks (model S.prog S.w) ((hh.push { cls := .type "tuple", data := .seq [.bytes b.toArray u].toArray }).push (bareExc S.cE hh.objs.size)) (isInstance (.ref (hh.objs.size+1)) (.ref S.cE)) true:=t1.andThen s1
 show wpAny _ _ (k3 (.ref (hh.objs.size+1))) _ _ _
 rw [e4]
 refine wpAny_bind (lf (i1.at ?_))
 rw [e5]
 have a3:At ((F.make S.cE [.bytes b.toArray u] hd).plus [(hh.objs.size+1,Top)]) mp hp _ _:=⟨⟨a2.len.len,a2.len.nd,a2.len.dd⟩,a2.inv.elim fun n i=>⟨n,i.conv rfl (fun p m=>(List.mem_cons.mp m).elim (fun e=>e▸⟨_,.head _,fun _ _=>trivial⟩) fun m=>⟨p.2,.tail _ m,fun _ r=>r⟩) i.cnd⟩⟩
 refine wpAny_bind (wpAny_holding (special_fn (fun a o e=>k _ _ (hk a o e)) t1 S.xinit S.xfn (tell_ok G (Nat.le_refl _) a3 (.head _) hx rfl rfl rfl fun w' dx t' n s' l hz a4 gx=>?_)))
 show wpAny _ _ (k5 _ (some .none)) _ _ _
 rw [e6]
 refine wpAny_pure ?_
 have a5:=(a4.take 0 rfl).1
 obtain ⟨news5,i5⟩:=a5.inv
 refine h _ _ dx w'.fz s' (fun a o e=>l.fz _ _ (l1.fz _ _ e)) gx a4.kIn (At.frame (F:=(F.make S.cE [.bytes b.toArray u] hd).plus [(hh.objs.size+1,IsX S w'.fz b .none)]) ⟨⟨a5.len.len,a5.len.nd,a5.len.dd⟩,_,i5.conv' rfl (fun p m=>(List.mem_cons.mp m).elim (fun e=>e▸⟨_,.head _,fun o ho _=>?_⟩) fun m=>⟨p.2,.tail _ m,fun _ _ r=>r⟩) i5.cnd⟩ rfl (.refl _))
 cases gx.symm.trans ho
 exact .mk hz (show 3 < 6 by decide) rfl
end
noncomputable def raiseS (b:Bs):Stx where
 chk cx st:=onRaise st fun o c p=>c.isNone&&o.casesOn false fun x=>onCall x fun g xs ks q=>ks.isEmpty&&(onName g fun n r=>decide (n=("PsError" : Str))&&decide (cx.sc.names.lookup ("PsError" : Str)=some .globalImplicit))&&xs.casesOn false fun y t=>t.isEmpty&&onConst y fun c k q=>decide (c = .bytes b)
 W d C loc hp K X:=Nat.ble 2 d=true/\X b
 ok S cx st h:=onRaise_elim h fun o c p h=>by
  intro F d loc mp hp w s K X R hd hw
  have h1:=Bool.and_eq_true_iff.mp h
  cases Option.isNone_iff_eq_none.mp h1.1
  cases o with
  | none=>exact no h1.2
  | some x =>
  refine onCall_elim (P:=fun x=>wpAny (model S.prog S.w) F.A (exec (.Raise (some x) none p) F.env) (PostS F w K) (PostX F w X) s) h1.2 fun g xs ks q h=>?_
  have h2:=Bool.and_eq_true_iff.mp h
  have h3:=Bool.and_eq_true_iff.mp h2.1
  cases List.isEmpty_iff.mp h3.1
  cases xs with
  | nil=>exact no h2.2
  | cons y t =>
  have h4:=Bool.and_eq_true_iff.mp h2.2
  cases List.isEmpty_iff.mp h4.1
  obtain ⟨n,r,rfl,h5⟩:=onName_elim (P:=fun g=>∃ n r,g = .Name n r/\(decide (n=("PsError" : Str))&&decide (cx.sc.names.lookup ("PsError" : Str)=some .globalImplicit))=true) h3.2 fun a b h=>⟨a,b,rfl,h⟩
  have h6:=Bool.and_eq_true_iff.mp h5
  cases of_decide_eq_true h6.1
  obtain ⟨ck,cp,rfl⟩:=onConst_elim (P:=fun y=>∃ ck cp,y = .Constant (.bytes b) ck cp) h4.2 fun c k q h=>⟨k,q,by rw [of_decide_eq_true h]⟩
  have ha:=R.at_
  show wpAny _ _ (do standAt p;raiseStmt F.env (some (do let v <- eval (.Call (.Name ("PsError" : Str) r) [.Constant (.bytes b) ck cp] [] q) F.env;standAt p;pure v)) none) _ _ _
  refine wpAny_bind (wpAny_standAt ?_)
  unfold raiseStmt
  dsimp only
  have T:=S.top
  refine wpAny_bind (wpAny_bind (Call_ (lf (Name_function_global F.kind (R.kind (of_decide_eq_true h6.2)) (loadGlobal_global (env:=F.env) (mg:=S.mg) (by rw [F.glob];exact ha.inv.elim fun _ i=>T.g.keeps i.fr.keep) (mg_of S.kin T.g S.xglob) ?_) rfl)) rfl))
  refine callWith_of (P:=fun h=>S.K.In h) rfl (fun h X=>keeps_K S.xkeep h X) ?_
  refine evalArgs_plain (spliced_cons (lf (Constant_bytes (k:=ck) (pos:=cp) (lf (spliced_none (pos:=q) (env:=F.env) ⟨(ha.toks _).kIn,?_⟩)))))
  refine callTell R.glob (Nat.le_trans (Nat.le_of_ble_eq_true hw.1) R.dp) (ha.toks _) fun ea t0 de fz s' l gx kx a=>?_
  refine wpAny_bind (wpAny_standAt (wpAny_pure ?_))
  refine wpAny_bind (wpAny_pure ?_)
  exact lf (raiseTail (by rfl) F.handled (kx _ _ S.xlook) gx (.mk l ⟨ea,.none,rfl,mp,[],.no,a⟩ hw.2))
end Mine.C
namespace Mine
theorem All2.unmap {α β γ:Type} {R:β->γ->Prop} {g:α->β} {l:List α}:∀ {r:List γ},All2 R (l.map g) r->All2 (fun a=>R (g a)) l r:=by
 induction l with
 | nil=>exact fun h=>h
 | cons a l ih=>exact fun h=>IsCons.imp (fun _ x=>x) (fun _=>ih) h
theorem All2.swap {α β:Type} {R:α->β->Prop} {x y:α} (h:∀ c,R x c->R y c) {b a:List α}:∀ {r:List β},All2 R (a++x::b) r->All2 R (a++y::b) r:=by
 induction a with
 | nil=>exact fun k=>IsCons.imp h (fun _ z=>z) k
 | cons z a ih=>exact fun k=>IsCons.imp (fun _ z=>z) (fun _=>ih) k
end Mine
namespace Mine.C
inductive Shut (Q:V->Hp->Prop):V->Hp->Prop
 | mk {c i:Nat} {xs:List D} {hp:Hp}:hp[i]?=some (.ns c (xs.map V.d))->Q (.d (.obj c xs)) (hp.set i .dead)->Shut Q (.inst c i) hp
inductive ShutR (x:O) (y:D) (Q:V->Hp->Prop):V->Hp->Prop
 | mk {c i j:Nat} {a b:List V} {hp:Hp}:hp[i]?=some (.ns c (a ++ .ref j::b))->hp[j]?=some x->Q (.inst c i) ((hp.set j .dead).set i (.ns c (a ++ .d y::b)))->ShutR x y Q (.inst c i) hp
section
variable {S:Sx} {d:Nat} {f:V} {vs:List V} {hp:Hp} {Q:V->Hp->Prop} {X:Bs->Prop}
theorem CallOk_shut (h:CallOk S d f vs hp (Shut Q) X):CallOk S d f vs hp Q X:=by
 refine ⟨@fun F mp w s cf cvs hd ha rf rs=>?_⟩
 refine wpAny_mono (h.run hd ha rf rs) (fun cv s' p=>?_) fun e s' p=>p
 cases p with | mk l r a q =>
 cases q with | @mk c i xs _ e q =>
 cases (show IsIn .. from r) with | mk r1 r2 =>
 obtain ⟨ad,o,g1,g2,g3⟩:=a.cell e
 cases g1.symm.trans r2
 cases (show IsNs .. from g3) with | mk g4 g5 =>
 obtain ⟨l',a'⟩:=a.kill e g1 g2
 exact .mk (v := .d (.obj c xs)) (l.trans l') (IsOb.mk (l'.fz _ _ r1) (Fz.set_at _ _ _) g4 (RelDs.eq.mpr ((All2.unmap (R:=Rel S _) (g:=V.d) g5).imp fun a b=>RelD.mono l'.fz))) a' q
theorem CallOk_shutR {x:O} {y:D} (hl:live x=true) (hn:∀ c vs,x ≠ .ns c vs) (hx:∀ w o a,ORel S w x o->w.fz a=some o->RelD S w.fz y (.ref a)) (h:CallOk S d f vs hp (ShutR x y Q) X):CallOk S d f vs hp Q X:=by
 refine ⟨@fun F mp w s cf cvs hd ha rf rs=>?_⟩
 refine wpAny_mono (h.run hd ha rf rs) (fun cv s' p=>?_) fun e s' p=>p
 cases p with | mk l r a q =>
 cases q with | @mk c i j fa fb _ e ej q =>
 obtain ⟨ad,o,g1,g2,g3⟩:=a.cell ej hl
 obtain ⟨l',a'⟩:=a.kill ej g1 g2 hl
 have e':=(List.getElem?_set_ne (l:=_) (a:=O.dead) (show j≠i from fun q=>hn _ _ (by rw [q,e] at ej;exact (Option.some.inj ej).symm))).trans e
 obtain ⟨ai,oi,k1,k2,k3⟩:=a'.cell e'
 refine .mk (l.trans l') (r.mono l') (a'.put (y := .ns c (fa ++ .d y::fb)) e' k1 (h':=s'.heap) (tk:=s'.toks) (fun b o z h=>h) k2 ?_) q
 cases (show IsNs .. from k3) with | mk k4 k5 =>
 refine IsNs.mk k4 (All2.swap (fun c r=>?_) k5)
 cases (show IsRef .. from r) with | mk m =>
 cases g1.symm.trans m
 exact hx _ _ _ (g3.mono l') (Fz.set_at _ _ _)
theorem CallOk_shutL {l:List D} (h:CallOk S d f vs hp (ShutR (.list l) (.list l) Q) X):CallOk S d f vs hp Q X:=CallOk_shutR rfl (fun c vs e=>O.noConfusion e) (fun w o a r e=>by
 cases (show IsList .. from r) with | mk q=>exact IsFl.mk e (RelDs.eq.mpr q)) h
theorem CallOk_shutB {b:Bs} (h:CallOk S d f vs hp (ShutR (.barr b) (.barr b) Q) X):CallOk S d f vs hp Q X:=CallOk_shutR rfl (fun c vs e=>O.noConfusion e) (fun w o a r e=>by
 cases (show o=_ from r);exact IsFb.mk e) h
end
noncomputable def Fx1 {S:Sx} (F:Fx S) {d:Nat} (h:d+1<=F.d):Fx S :=
 { F with A:=F.A.in1,d:=d,stack:=F.stack,handled:=F.handled,guards:=F.guards,room:=Nat.le_trans (Nat.add_le_add_left (Nat.mul_le_mul_left 2 (Nat.le_of_succ_le h)) _) F.room,units:=Nat.le_trans (by show F.A.units+1+5+8*d<=F.A.units+5+8*(d+1);omega) (Nat.le_trans (Nat.add_le_add_left (Nat.mul_le_mul_left 8 h) _) F.units) }
noncomputable def lvlI (v:V) (hp:Hp) (k:V->Prop):Prop:=asInst v fun c i=>atN hp i fun c' vs=>(c=3/\c'=3)/\fldV 18 (fld 3) vs fun r=>asRef r fun j=>atL hp j fun xs=>xs.length<=1000000/\k (.d (.int xs.length))
theorem fldV_mono {α:Type} {n:Nat} {ns:List Nat}:∀ {vs:List α} {k k':α->Prop},(∀ v,k v->k' v)->fldV n ns vs k->fldV n ns vs k':=by
 induction ns with
 | nil=>exact fun f h=>h.elim
 | cons m r ih =>
  intro vs k k' f h
  cases vs with
  | nil=>exact h.elim
  | cons v vs =>
   have h:cond (m==n) (k v) (fldV n r vs k):=h
   show cond (m==n) (k' v) (fldV n r vs k')
   cases q:m==n with
   | true=>rw [q] at h;exact f v h
   | false=>rw [q] at h;exact ih f h
theorem atO_mk {hp:Hp} {i:Nat} {k:O->Prop} {x:O} (e:hp[i]?=some x) (h:k x):atO hp i k:=by unfold atO;rw [e];exact h
noncomputable def lvlB:List Stx:=[retS (kX (gX 128 (.bi 0) rfl) [attrX 18 (lX 0)])]
theorem lvl_ok {S:Sx} {F:Fx S} {mp:Mp} {hp:Hp} {w w0:Wd} {s:Shared} {v:V} {cv:Value} {Q:V->Hp->Prop} {E:Value->Shared->Prop} {expr:Bool} (G:GlobOk S) (hd:1+1<=F.d) (h:lvlI v hp fun r=>Q r hp) (ha:At F mp hp w s) (r:Rel S w v cv) (l:w0.le w):wpAny (model S.prog S.w) F.A (getAttr cv (nm 9) expr) (PostE F mp w0 Q) E s :=
 asInst_on (R:=fun v=>Rel S w v cv) h r fun c i h r=>atN_on h fun c' vs e h=>by
  obtain ⟨⟨rfl,rfl⟩,hz⟩:=h
  obtain ⟨a,o,g1,g2,g3⟩:=ha.cell e
  have rI:=r
  cases (show IsIn .. from r) with | @mk ai di r1 r2 =>
  cases g1.symm.trans r2
  cases (show IsNs .. from g3) with | mk g4 g5 =>
  obtain ⟨p,rest,f1,f2,f3,f4⟩:=S.lvl
  obtain ⟨news,j⟩:=ha.inv
  refine get_prop (C:=S.cA 3) j.fr S.kin ⟨ha.get r1,rfl,rfl,g2⟩ (S.clsGet 3) (S.clsDict 3) f1 f2 f3 f4 ?_
  obtain ⟨f,fd,p1,p2,p3,p4,p5,D,hdf,hc,hn,hlen,hbody⟩:=id G.2.2.1
  have a1:At (Fx1 F hd) mp hp w { s with toks:=s.toks+1 }:=(ha.toks _).frame rfl (.refl _)
  obtain ⟨hb,lc,hnp,sc,c13⟩:=fn_pre D.params hdf rfl hc (cvs:=[.ref ai]) rfl a1.kIn
  have lp:f.par.length=1:=by rw [List.drop_nil] at lc;exact lc.symm
  have e0:f.par[0]?=some ("self" : Str):=by
   have:f.names[0]?=some ("self" : Str):=by rw [hn];rfl
   unfold Fi.names at this
   rwa [List.getElem?_append_left (lp▸Nat.one_pos)] at this
  have hs:=c13 _ (List.mem_of_getElem? e0)
  refine code_at (F:=Fx1 F hd) (d:=0) (cx:=f.cx) (loc0:=[some (.inst 3 i)]) D sc rfl G (Nat.le_refl _) a1 hb (fun y m=>?_) (fun k v e=>?_) fun F' s1 hm hd' R0 lv=>?_
  ·obtain ⟨n,m,e⟩:=List.mem_map.mp m
   rw [<- e];exact c13 n m
  ·cases k with
   | zero=>cases e;exact ⟨_,_,by show f.names[0]?=_;rw [hn];rfl,bound_at hnp e0 rfl,hs,rI⟩
   | succ k=>exact nomatch e
  ·have chk:chkS f.cx lvlB f.body=true:=by
    rw [hbody]
    have x1:decide (f.scope.names.lookup ("len" : Str)=some .globalImplicit)=true:=decide_eq_true hlen
    have x2:nmChk f.cx 0 .local ("self" : Str)=true:=by
     unfold nmChk
     rw [show f.cx.names=f.names from rfl,hn,show f.cx.sc.names.lookup ("self" : Str)=_ from hs];decide +kernel
    show ((((true&&(((!(("len" : Str)==("__debug__" : Str)))&&decide (("len" : Str)=glN 128)&&decide (f.scope.names.lookup ("len" : Str)=some .globalImplicit)&&decide (128 < glL.length))))&&true)&&(((true&&(decide (("saves" : Str)=nm 18)&&true&&nmChk f.cx 0 .local ("self" : Str)))&&true)))&&true)=true
    rw [x1,x2];decide +kernel
   refine wpAny_mono (Wss_ok (K:=⟨fun l h=>False,fun l h=>False,fun l h=>False,Q⟩) (X:=fun b=>False) lvlB chk R0 hd' ?_) (fun g s2 p=>?_) fun e s2 p=>p.rec fun a b c=>c.elim
   ·refine atO_mk e (show fldV 18 (fld 3) vs (fun r=>CallOk S 0 (.bi 0) [r] hp Q fun b=>False) from fldV_mono (fun r hr=>?_) hz)
    refine asRef_on (R:=fun x=>x=r) hr rfl fun j hr e=>atL_on hr fun xs ex hr=>?_
    rw [<- e];exact lenL ex hr.1 hr.2
   ·cases p with
    | next l a b q=>exact q.elim
    | brk l a b q=>exact q.elim
    | cont l a b q=>exact q.elim
    | @ret w' mp' hp' v' cv' s' l' r' a q=>exact ⟨_,_,_,a,fun a2=>by show wpAny (model S.prog S.w) F.A (handedOut cv') (PostE F mp w0 Q) E s2;rw [handedOut_of (handed r')];exact wpAny_pure (.mk (l.trans l') r' (a2.frame rfl (.refl _)) q)⟩
noncomputable def lvlX (a:Ex):Ex where
 chk:=attrChk 9 a
 W d C loc hp Q X:=Nat.ble 2 d=true/\a.W d C loc hp (fun v hp=>lvlI v hp fun r=>Q r hp) X
 ok S cx e h:=onAttr_elim h fun v x p h=>by
  intro F d loc mp hp w s Q X R hw
  have h1:=Bool.and_eq_true_iff.mp h
  have h2:=Bool.and_eq_true_iff.mp h1.1
  cases of_decide_eq_true h2.1
  exact Attribute_any_ (a.on h1.2 R hw.2 (.refl _) fun l1 _ r1 R1 q1=>lvl_ok R1.glob (Nat.le_trans (Nat.le_of_ble_eq_true hw.1) R1.dp) q1 R1.at_ r1 l1) (by rw [arm_eval_Attribute,attributeBase_no h2.2])
end Mine.C
section
open Builtin Builtin.ObjectAttr
namespace Mine
variable {S:Sx} {F:Fx S} {mp mp':Mp} {hp:Hp} {w:Wd} {s:Shared} {A:Around} {E:Value->Shared->Prop} {fz:Fz} {h':Heap} {tk:Tok}
theorem tailBase (cP:Addr):(tailOf cP).contains (.type "BaseException")=true:=by rfl
theorem gaKind:builtinKind "BaseException.__getattribute__" = some .slot:=by decide +kernel
theorem gaSplit:splitId "BaseException.__getattribute__" = some ("BaseException","__getattribute__"):=by decide +kernel
theorem oga_eq (self:Value) (name:Str) (tk:Tok):∃ k:Value->Found->Sem PySem.Fin,Builtin.«object.__getattribute__» ⟨[self,.str name tk],[]⟩=(typeOf self >>= fun tp=>Builtin.ObjectAttr.find self tp name >>= k tp)/\∀ tp v,k tp (.value v)=ret v:=⟨_,rfl,fun a b=>rfl⟩
theorem toldGet (hook:findIn S.K (.ref S.cE) "__getattr__" = some none) {ea de:Addr} {oe:Obj} {vs:Array Value} {b:Bs} {t u:Tok} {n:Nat} {expr:Bool} {Q:Value->Shared->Prop} (hk:S.K.In s.heap) (he:s.heap.get? ea=some oe)
  (h1:oe.cls = .ref S.cE) (h2:oe.dict=some de) (h3:oe.data = .fields vs) (hd:s.heap.get? de=some (toldDict S.w b t u n)) (hq:Q (.bytes b.toArray u) { s with toks:=s.toks+1 }) :
  PySem.wpAny (model S.prog S.w) A (getAttr (.ref ea) "told" expr) Q E s:=by
 obtain ⟨hh,g,dr,tk,os⟩:=s
 dsimp only at hk he hd
 have I:W.InstAt hh ea oe S.cE (some (toldDict S.w b t u n)):=⟨he,h1,by unfold notCls;rw [h3],by rw [h2];exact hd⟩
 have L0:=I.type (M:=model S.prog S.w)
 have L1:=looks_findIn (M:=model S.prog S.w) hk S.xget
 have L2:=looks_findIn (M:=model S.prog S.w) hk hook
 have Lf:Looks (model S.prog S.w) hh (Builtin.ObjectAttr.find (.ref ea) (.ref S.cE) "told") (.value (.bytes b.toArray u)):=looks_find hk I (by
  obtain ⟨cd,hcls,hhd⟩ : ∃ cd,clsIn S.K S.cE=some cd/\cd.hasDict=true:=⟨_,by unfold clsIn;rw [S.xlook],rfl⟩
  unfold findObj W.ownOf
  rw [hcls,Option.bind_some,S.xtold,Option.bind_some,hhd]
  rfl)
 have sub:Looks (model S.prog S.w) hh (isInstance (.ref ea) (.type "BaseException")) true:=L0.andThen (looks_mroIn hk (by
  obtain ⟨cd,hcls,hmro⟩ : ∃ cd,clsIn S.K S.cE=some cd/\cd.mro = .ref S.cE::tailOf S.cP:=⟨_,by unfold clsIn;rw [S.xlook],rfl⟩
  unfold mroIn;rw [hcls,Option.bind_some,hmro];rfl))
 have G:=PySem.F.attr_Exception.ga
 unfold getAttr getAttrBy
 refine wpAny_bind (wpAny_mkText (wpAny_holding (wpAny_bind (L0.at (wpAny_bind (L1.at ?_))))))
 show PySem.wpAny _ _ (getAttrByItsOwn (.ref ea) (.str "told" tk) (.ref S.cE) (.builtin "BaseException.__getattribute__") true expr) _ _ _
 unfold getAttrByItsOwn hookBefore
 refine wpAny_bind (L2.at (wpAny_bind (wpAny_attempt (wpAny_holding ?_))))
 have e0:callGetattribute (.ref ea) (.str "told" tk) (.builtin "BaseException.__getattribute__") expr=boundAndCalled (.builtin "BaseException.__getattribute__") (.ref ea) (.str "told" tk):=by cases expr<;>rfl
 rw [e0]
 unfold boundAndCalled
 rw [G.bind]
 refine wpAny_bind (wpAny_pure ?_)
 show PySem.wpAny _ _ (call (.builtin "BaseException.__getattribute__") [.ref ea,.str "told" tk]) _ _ _
 refine wpAny_call (codeAny_call_builtin G.plain PySem.F.entry_bexc_ga (@check_slot (model S.prog S.w) _ _ ⟨hh,g,dr,tk+1,os⟩ "BaseException.__getattribute__" "BaseException" "__getattribute__" (.ref ea) [.str "told" tk] [] _ gaKind gaSplit (sub.keeps fun a b e=>e) (PySem.F.args_bexc_ga _ _) ?_))
 obtain ⟨k,e1,e2⟩:=oga_eq (.ref ea) "told" tk
 rw [e1]
 refine wpAny_bind (L0.at (wpAny_bind (Lf.at ?_)))
 rw [e2]
 refine wpAny_pure ?_
 show PySem.wpAny _ _ (handedOut (.bytes b.toArray u)) _ _ _
 rw [handedOut_of (by rfl)]
 exact wpAny_pure hq
theorem At.nsAny (ha:At F mp hp w s) (hn:h'.Ns F.L mp') (hs:Heap.SameBut F.L s.heap h'):At F mp' hp w { s with heap:=h',toks:=tk } :=
 ⟨ha.len,ha.inv.imp fun news j=>⟨j.fr.set hn hs,j.nw.set hs,j.nd,j.cnd,j.ap,j.own,j.zero,j.led,j.gens,j.os⟩⟩
abbrev faultHandler (p1 p2 p3 p4 p5:Pos):ExceptHandler := .ExceptHandler (some (.Name ("PsError" : Str) p1)) (some ("fault" : Str)) [.Return (some (.Attribute (.Name ("fault" : Str) p2) ("told" : Str) p3)) p4] p5
theorem caught (hook:findIn S.K (.ref S.cE) "__getattr__" = some none) {told:Bs} {ea:Addr} {head:Value} {p1 p2 p3 p4 p5:Pos} {Q:Flow->Shared->Prop} (hx:F.env.kindOf ("PsError" : Str)=some .globalImplicit)
  (hk:F.env.kindOf ("fault" : Str)=some .local) (hd:∃ outer,F.fr=F.env::outer/\F.env.frame=some F.L) (h:Fly F (Loose F) fz told ea head s)
  (hq:∀ mp s' u,At F mp [] ⟨[],fz⟩ s'->Q (.ret (.bytes told.toArray u)) s') :
  PySem.wpAny (model S.prog S.w) F.A (noteFrame (.ref ea) F.env) (fun a s2=>PySem.wpAny (model S.prog S.w) F.A (setFlight (.ref ea) none) (fun a s3 =>
   PySem.wpAny (model S.prog S.w) F.A (handleBy (.ref ea) F.env [faultHandler p1 p2 p3 p4 p5]) Q E s3) E s2) E s:=by
 have T:=S.top
 refine h.note hd fun T' s1 h1=>h1.setFlight (P':=fun x=>x = .none) rfl fun s2 h2=>?_
 obtain ⟨mp,l,ht,ha⟩:=id h2
 refine wpAny_handleBy_cons (codeAny_handlers_test (Name_function_global F.kind hx (loadGlobal_global (env:=F.env) (mg:=S.mg) (by rw [F.glob];exact ha.inv.elim fun a i=>T.g.keeps i.fr.keep) (mg_of S.kin T.g S.xglob) ?_) rfl)) (by intro q;cases q)
 obtain ⟨ob,he,hX⟩:=ha.heldP (.head _)
 cases hX with | mk q3 q5 q6 =>
 have hC:=ha.kIn _ _ S.xlook
 obtain ⟨hh,g,dr,tk,os⟩:=s2
 refine wpAny_excMatches_sub_self hC he rfl (tailBase _) (codeAny_handlers_suite_as ?_)
 refine h2.setFlight (P':=fun x=>x = .none) rfl fun s3 h3=>?_
 obtain ⟨mp3,l3,ht3,a3⟩:=h3
 obtain ⟨news,j⟩:=a3.inv
 refine wpAny_storeName_local (m:=mp3) hk (by rw [F.loc];exact j.fr.ns) (fun h' hn hs=>?_) (by rw [F.kind];rfl)
 rw [F.loc] at hn hs
 have a4:=At.nsAny (tk:=s3.toks) a3 hn hs
 refine wpAny_execs_cons (wpAny_Return_some ?_)
 refine PyProof.Rows.Attribute_any_ ?_ (by rw [arm_eval_Attribute,C.attributeBase_no (by rfl)])
 refine wpAny_Name (wpAny_loadName_local F.kind hk (m:=fun x=>if x=("fault" : Str) then some (.ref ea) else mp3 x) (by rw [F.loc];exact hn) (if_pos rfl) ?_) rfl
 obtain ⟨ob,he,hX⟩:=a4.heldP (.head _)
 cases hX with | mk q3 q5 q6 =>
 refine toldGet hook a4.kIn he rfl rfl rfl (a4.get q3) ?_
 obtain ⟨news4,j4⟩:=a4.inv
 refine wpAny_nameGoes_keeps hk (by rw [F.loc];exact j4.fr.ns) (by rw [F.kind];rfl) fun h5 v hn5 hs5=>?_
 rw [F.loc] at hn5 hs5
 exact hq _ _ _ (At.nsAny (F:=F) (a4.toks _).drop hn5 hs5)
end Mine
namespace Mine.C
theorem wpAny_Try_except {prog:Program} {w:World} {A:Around} {E:Value->Shared->Prop} {s:Shared} {env:Env} {body orelse:List Stmt} {h₀:ExceptHandler} {hs:List ExceptHandler} {pos:Pos} {Q:Flow->Shared->Prop}
  (h:wpAny (model prog w) A (execs body env) (fun f s₁=>match f with | .next=>wpAny (model prog w) A (execs orelse env) Q E s₁ | f=>Q f s₁)
   (fun e s₁=>PySem.wpAny (model prog w) A (noteFrame e env) (fun a s₂=>PySem.wpAny (model prog w) A (setFlight e none) (fun a s₃=>PySem.wpAny (model prog w) A (handleBy e env (h₀::hs)) Q E s₃) E s₂) E s₁) s) :
  wpAny (model prog w) A (exec (.Try body (h₀::hs) orelse [] pos) env) Q E s:=by
 rw [arm_exec_Try]
 refine wpAny_bind (wpAny_standAt ?_)
 unfold tryStmt
 simp (config:={ iota:=false }) only [List.isEmpty_nil,if_true,List.isEmpty_cons,Bool.false_and,Bool.false_eq_true,if_false]
 refine wpAny_bind (wpAny_attempt (wpAny_mono h (fun f s₁ h₁=>?_) fun e s₁ h₁=>?_))
 ·cases f<;>first | exact h₁ | exact wpAny_pure h₁
 ·exact lf (PySem.wpAny_bind (PySem.wpAny_mono h₁ (fun a b h₂=>PySem.wpAny_bind h₂) fun a b x=>x))
noncomputable def hndChk (cx:Cx) (h:ExceptHandler):Bool:=match h with
 | .ExceptHandler t n b p=>decide (n=some ("fault" : Str))&&(t.casesOn false fun t=>onName t fun x q=>decide (x=("PsError" : Str)))&&(b.casesOn false fun st r=>r.isEmpty&&onRet st fun o p=>o.casesOn false fun x=>onAttr x fun v a q=>decide (a=("told" : Str))&&onName v fun y q=>decide (y=("fault" : Str)))&&decide (cx.sc.names.lookup ("PsError" : Str)=some .globalImplicit)&&decide (cx.sc.names.lookup ("fault" : Str)=some .local)
theorem hnd_on {cx:Cx} {h:ExceptHandler} (hc:hndChk cx h=true):(∃ p1 p2 p3 p4 p5,h=faultHandler p1 p2 p3 p4 p5)/\cx.sc.names.lookup ("PsError" : Str)=some .globalImplicit/\cx.sc.names.lookup ("fault" : Str)=some .local:=by
 cases h with | ExceptHandler t n b p =>
 have h1:=Bool.and_eq_true_iff.mp hc
 have h2:=Bool.and_eq_true_iff.mp h1.1
 have h3:=Bool.and_eq_true_iff.mp h2.1
 have h4:=Bool.and_eq_true_iff.mp h3.1
 refine ⟨?_,of_decide_eq_true h2.2,of_decide_eq_true h1.2⟩
 cases of_decide_eq_true h4.1
 cases t with
 | none=>exact no h4.2
 | some t =>
 obtain ⟨q1,rfl⟩:=onName_elim (P:=fun t=>∃ q,t = .Name ("PsError" : Str) q) h4.2 fun x q h=>⟨q,by rw [of_decide_eq_true h]⟩
 cases b with
 | nil=>exact no h3.2
 | cons st r =>
 have h5:=Bool.and_eq_true_iff.mp h3.2
 cases List.isEmpty_iff.mp h5.1
 obtain ⟨x,q4,rfl,h6⟩:=onRet_elim (P:=fun st=>∃ x q,st = .Return (some x) q/\(onAttr x fun v a q=>decide (a=("told" : Str))&&onName v fun y q=>decide (y=("fault" : Str)))=true) h5.2 fun o q h=>by
  cases o with
  | none=>exact no h
  | some x=>exact ⟨x,q,rfl,h⟩
 obtain ⟨q2,q3,rfl⟩:=onAttr_elim (P:=fun x=>∃ q2 q3,x = .Attribute (.Name ("fault" : Str) q2) ("told" : Str) q3) h6 fun v a q h=>by
  have h7:=Bool.and_eq_true_iff.mp h
  cases of_decide_eq_true h7.1
  exact onName_elim (P:=fun v=>∃ q2 q3,PySem.Expr.Attribute v ("told" : Str) q = .Attribute (.Name ("fault" : Str) q2) ("told" : Str) q3) h7.2 fun y q' h=>⟨q',q,by rw [of_decide_eq_true h]⟩
 exact ⟨q1,q2,q3,q4,p,rfl⟩
noncomputable def tryS (b:List Stx):Stx where
 chk cx st:=onTry st fun x hs o f p=>o.isEmpty&&f.isEmpty&&chkS cx b x&&hs.casesOn false fun h r=>r.isEmpty&&hndChk cx h
 W d C loc hp K X:=hp=[]/\Wss b d C loc hp K fun told=>K.ret (.d (.bytes told)) []
 ok S cx st h:=onTry_elim h fun x hs o f p h=>by
  intro F d loc mp hp w s K X R hd hw
  have h1:=Bool.and_eq_true_iff.mp h
  have h2:=Bool.and_eq_true_iff.mp h1.1
  have h3:=Bool.and_eq_true_iff.mp h2.1
  cases List.isEmpty_iff.mp h3.1
  cases List.isEmpty_iff.mp h3.2
  cases hs with
  | nil=>exact no h1.2
  | cons h0 r =>
  have h4:=Bool.and_eq_true_iff.mp h1.2
  cases List.isEmpty_iff.mp h4.1
  obtain ⟨⟨p1,p2,p3,p4,p5,rfl⟩,k1,k2⟩:=hnd_on h4.2
  obtain ⟨rfl,hw⟩:=hw
  refine wpAny_Try_except (wpAny_mono (Wss_ok b h2.2 R hd hw) (fun g s2 p=>?_) fun e s2 p=>?_)
  ·cases p with
   | next l a b q=>exact lf (wpAny_execs_nil (.next l a b q))
   | brk l a b q=>exact .brk l a b q
   | cont l a b q=>exact .cont l a b q
   | ret l a b q=>exact .ret l a b q
  ·cases p with | mk l r x =>
   obtain ⟨ea,head,rfl,hf⟩:=r
   refine caught R.glob.2.2.2 (R.kind k1) (R.kind k2) hd hf fun mp s' u a => .ret (w':=⟨[],_⟩) (v := .d (.bytes _)) ⟨fun i a e=>?_,l⟩ ⟨u,rfl⟩ a x
   have e0:=List.length_eq_zero_iff.mp (R.at_.len.len.trans rfl)
   rw [e0] at e
   exact nomatch e
end Mine.C
end
namespace Mine.C
section
variable {A:Around} {s:Shared} {prog:Program} {w:World} {R:Result->Shared->Prop}
theorem codeAny_call_cells {a:Addr} {o:Obj} {fd:FuncData} {body:List Stmt} {args:Args} {binds:List (Str×Value)}
  (hroom:A.depth < recursionLimit) (ho:s.heap.get? a=some o) (hdata:o.data = .func fd) (hlim:s.heap.NoLimit) (hcd:s.heap.CodeRec fd.code fd.qualname)
  (hbody:fd.body = .stmts body) (hbind:BindsTo s fd args binds) (hclo:fd.closure=[])
  (hloc:∀ x∈binds,fd.scope.names.lookup x.1=some .local)
  (h:∀ s₁,InCallC s (callEnvC fd s.heap.objs.size a).locals (PySem.bindL (callEnvC fd s.heap.objs.size a).kindOf binds fun y=>none) (callEnvC fd s.heap.objs.size a).cells
    (PySem.bindC (callEnvC fd s.heap.objs.size a).kindOf binds fun y=>none) s₁ ->
   wpAny (model prog w) (A.deeper (callEnvC fd s.heap.objs.size a)) (execs body (callEnvC fd s.heap.objs.size a)) (fun f s'=>R (.ok (.ret (match f with | .ret v=>v | _ => .none))) s')
    (fun e s'=>wpAny (model prog w) (A.deeper (callEnvC fd s.heap.objs.size a)) (leaving (callEnvC fd s.heap.objs.size a) e) (fun u s''=>R (.error e) s'') (fun e' s''=>R (.error e') s'') s') s₁)
  (hco:fd.scope.isCoroutine=false) (hgen:fd.scope.isGenerator=false) (hk:fd.scope.kind = .function) :
  codeAny (model prog w) A (.call (.ref a) args) R s:=by
 refine codeAny_of_tree rfl ?_
 show wpAny _ A.in1 (callAny (.ref a) args) _ _ s
 unfold callAny
 dsimp only
 refine wpAny_bind (lf (wpAny_load ho ?_))
 obtain ⟨c,oc,vs,tq,hc,hoc,hdc,hq⟩:=hcd
 simp only [hdata,callFunction,hco,hgen,hbody,hc,hclo]
 refine wpAny_bind (m:=field (.ref c) 1) (lf (wpAny_field hoc hdc hq (wpAny_bind (wpAny_pure ?_))))
 refine wpAny_bind (lf (hbind _ _ _ _ (wpAny_bind (lf (wpAny_newFunctionEnv_cells hk (fun x hx => .inl (hloc x hx)) fun env he s' x=>?_)))))
 subst he
 refine wpAny_bind (lf (wpAny_enterFrame (hlim.keeps x.toInCall.keep) hroom (wpAny_pure (And.intro rfl ?_))))
 rw [<- hc] at x ⊢
 exact codeAny_func (h s' x)
end
noncomputable def Fi.bare (f:Fi):Fi:={ f with scope:={ f.scope with names:=f.scope.names.filter fun x=>x.2 != .cell } }
def CellOk (f:Fi) (x0 xc:Str) (ic:Nat):Prop:=FnOk f.bare 0 1/\f.par=[x0]/\f.names.Nodup/\f.names[0]?=some x0/\f.names[ic]?=some xc/\f.scope.names.lookup xc=some .cell/\f.scope.names.lookup x0=some .local
noncomputable instance {f:Fi} {x0 xc:Str} {ic:Nat}:Decidable (CellOk f x0 xc ic):=inferInstanceAs (Decidable (_/\_/\_/\_/\_/\_/\_))
theorem fn_cell {S:Sx} {fis:List Fi} {d k ic n:Nat} {f:Fi} {b:List Stx} {v:V} {x0 xc:Str} {hp:Hp} {Q:V->Hp->Prop} {X:Bs->Prop} (Y:Fns S fis) (hf:fis[k]?=some f) (h0:dfl k=[]) (hc:decide (CellOk f x0 xc (ic+1))=true) (hcell:∀ lo,cellsFrom lo f.scope.names []=[(xc,lo)]) (hb':chkS f.cx b f.body=true)
  (hw:Wss b d (CallOk S) (some v::(List.replicate n none).set ic (some (.ref hp.length))) (hp++[.cell none]) ⟨fun loc hp=>Q (.d .none) hp,fun loc hp=>False,fun loc hp=>False,Q⟩ X):CallOk S (d+1) (.fn k) [v] hp Q X:=by
 refine ⟨@fun F mp w s cf cvs hd ha rf rs=>?_⟩
 cases (show cf=_ from rf)
 cases (show IsCons .. from rs) with | @mk cv r rv e =>
 cases (show r=[] from e)
 obtain ⟨fd,dl,D,hdf,rd⟩:=Y.fn k f hf
 rw [h0] at rd
 cases (show dl=[] from rd)
 obtain ⟨c1,hpar,hnd,hi0,hic,hkc,hk0⟩:=of_decide_eq_true hc
 obtain ⟨hb,-,-,sc,-⟩:=fn_pre (f:=f.bare) (m:=0) (s:=s) D.params hdf rfl c1 (cvs:=[cv]) rfl ha.kIn
 have eb:bound f.bare.par ([cv]++List.drop (f.bare.p2 0 1).length [])=[(x0,cv)]:=by
  rw [List.drop_nil,show f.bare.par=[x0] from hpar]
  unfold bound look
  rw [List.append_nil,List.map_cons,List.zip_cons_cons,List.lookup_cons,beq_self_eq_true];rfl
 rw [eb] at hb
 obtain ⟨news,i⟩:=ha.inv
 obtain ⟨oc,od,osl,hl⟩:=D.look
 have hlook:=i.fr.keep _ _ (S.kin _ _ hl)
 obtain ⟨o,ho,hod⟩ : ∃ o,s.heap.get? F.L=some o/\∀ vs,o.data ≠ .fields vs:=by
  obtain ⟨o,es,ep,ho,hd,_⟩:=i.fr.ns
  exact ⟨o,ho,fun vs e=>by rw [hd] at e;cases e⟩
 have es:fd.scope=f.scope:=D.scope
 refine wpAny_call (codeAny_call_cells (fd:=fd) (body:=f.body) (binds:=[(x0,cv)]) (Nat.lt_of_lt_of_le (Nat.lt_succ_self _) (Nat.le_trans (Nat.le_add_right _ _) F.room)) hlook rfl (S.top.nolimit.keeps i.fr.keep) (codeRec_of (S.kin.keeps i.fr.keep) (D.qual▸D.code)) D.body hb D.closure (fun y m=>by rw [List.mem_singleton.mp m,es];exact hk0) (fun s₁ x=>?_) (es▸sc.co) (es▸sc.gen) (es▸sc.kind))
 let env':=callEnvC fd s.heap.objs.size (S.fA k)
 let F':Fx S:=F.callee env' o f.names rfl D.globals D.builtins (by show fd.scope.kind=_;rw [es];exact sc.kind) hnd hod hd
 have hcs:(callEnvC fd s.heap.objs.size (S.fA k)).cells=[(xc,s.heap.objs.size+1)]:=(congrArg (fun z:Scope=>cellsFrom (s.heap.objs.size+1) z.names []) es).trans (hcell _)
 have hL:(callEnvC fd s.heap.objs.size (S.fA k)).locals=s.heap.objs.size:=rfl
 have kx:(callEnvC fd s.heap.objs.size (S.fA k)).kindOf x0=some .local:=by show fd.scope.names.lookup x0=_;rw [es];exact hk0
 have hbl:PySem.bindL (callEnvC fd s.heap.objs.size (S.fA k)).kindOf [(x0,cv)] (fun y=>none)=fun y=>if y=x0 then some cv else none:=if_pos kx
 have hbc:PySem.bindC (callEnvC fd s.heap.objs.size (S.fA k)).kindOf [(x0,cv)] (fun y=>none)=fun y=>none:=if_pos kx
 have hcx:=x.cell xc (s.heap.objs.size+1) (by rw [hcs,List.lookup_cons,beq_self_eq_true])
 have hkeep:=x.toInCall.keep
 have hns:=x.toInCall.ns
 obtain ⟨h1,tk,hs1⟩:=x.toInCall.same
 subst hs1
 rw [hbc] at hcx
 rw [hL,hbl] at hns
 obtain ⟨ob,hob,hod2⟩:=hcx
 have a0:At F' (fun y=>if y=x0 then some cv else none) hp w { s with heap:=h1,toks:=tk }:=At.enter (F':=F') ha rfl ho hns hkeep (Nat.le_refl _) rfl rfl
 have i1:Inv S F'.L (fun y=>if y=x0 then some cv else none) (F'.hid++cells S w hp) w { s with heap:=h1,toks:=tk } ((F.L,o)::news):=i.enter ho hns hkeep (Nat.le_refl _) rfl rfl
 have big:∀ {z:Addr} {oz:Obj},s.heap.get? z=some oz->z≠s.heap.objs.size+1:=fun h q=>absurd (Heap.lt_size h) (by rw [q];exact Nat.not_lt.mpr (Nat.le_succ _))
 have a1:At F' (fun y=>if y=x0 then some cv else none) (hp++[.cell none]) (w.add (s.heap.objs.size+1)) { s with heap:=h1,toks:=tk }:=i1.alloc (a:=s.heap.objs.size+1) (o:=ob) (x := .cell none) a0.len i1.fr
  (fun p m=>(List.mem_cons.mp m).elim (fun z=>by subst z;exact ⟨hob,Nat.succ_ne_self _,Option.eq_none_iff_forall_ne_some.mpr fun _ q=>big (i.fr.keep _ _ q) rfl⟩) (i1.nw p))
  (fun hm=>(keyMem hm).elim fun oz m=>(List.mem_cons.mp m).elim (fun z=>big ho (congrArg Prod.fst z).symm) fun m=>big (i.nw _ m).1 rfl) hod2 rfl rfl
 have le:=w.add_le (s.heap.objs.size+1)
 have R0:Rd f.cx F' d (some v::(List.replicate n none).set ic (some (.ref hp.length))) (fun y=>if y=x0 then some cv else none) (hp++[.cell none]) (w.add (s.heap.objs.size+1)) { s with heap:=h1,toks:=tk }:=⟨es,rfl,Nat.le_refl _,a1,(fun j u e=>by
  cases j with
  | zero=>cases e;exact ⟨x0,hi0,.inl ⟨kx,cv,if_pos rfl,rv.mono le⟩⟩
  | succ j =>
   rw [List.getElem?_cons_succ] at e
   by_cases hj:ic=j
   ·subst hj
    have hlt:=(List.getElem?_eq_some_iff.mp e).1
    rw [List.length_set] at hlt
    rw [List.getElem?_set_self hlt] at e
    cases e
    exact ⟨xc,hic,.inr ⟨.inl (by show fd.scope.names.lookup xc=_;rw [es];exact hkc),_,by show (callEnvC fd s.heap.objs.size (S.fA k)).cells.lookup xc=_;rw [hcs,List.lookup_cons,beq_self_eq_true],IsRef.mk (by rw [<- ha.len.len];exact List.getElem?_concat_length)⟩⟩
   ·rw [List.getElem?_set_ne hj] at e
    exact (nomatch (List.eq_of_mem_replicate (List.mem_of_getElem? e)))),Y.glob⟩
 have hd':Hd F':=⟨F.fr,rfl,rfl⟩
 refine wpAny_mono (Wss_ok b hb' R0 hd' hw) (fun g s2 p=>?_) fun e s2 p=>wpAny_mono (leave_ok hd' rfl ha ho p) (fun u s3 x=>x.weak le) fun a b z=>z.elim
 have fin:∀ {mp' hp' w'},At F' mp' hp' w' s2->At F mp hp' w' s2:=fun a2=>At.leave (F':=F') (l:=[]) (h':=s2.heap) (tk:=s2.toks) a2 rfl ha ho fun a b c e=>e
 cases p with
 | next l a b q=>exact .mk (v := .d .none) (le.trans l) rfl (fin b) q
 | brk l a b q=>exact q.elim
 | cont l a b q=>exact q.elim
 | ret l r a q=>exact .mk (le.trans l) r (fin a) q
end Mine.C
namespace Mine.C
noncomputable def deadS:Stx:=⟨fun cx st=>true,fun d C loc hp K X=>False,fun S cx st h F d loc mp hp w s K X R hd hw=>hw.elim⟩
noncomputable def deadX:Ex:=⟨fun cx e=>true,fun d C loc hp Q X=>False,fun S cx e h F d loc mp hp w s Q X R hw=>hw.elim⟩
noncomputable def dataX (x:D):Ex where
 chk cx e:=isD x e
 W d C loc hp Q X:=Q (.d x) hp
 ok S cx e h:=fun F d loc mp hp w s Q X R hw=>lf (PySem.wpAny_mono (isD_ok (E:=PostX F w X) h R.at_) (fun cv s' p=>p.elim fun w' q => .mk (v := .d x) q.1 q.2.1 q.2.2.1 hw) fun e s' p=>p)
noncomputable def asE (a b:V) (hp:Hp) (k:Bool->Prop):Prop:=asRef a fun i=>asRef b fun j=>atRs hp i fun x=>atL hp j fun y=>y=[]/\k x.isEmpty
@[elab_as_elim] theorem asE_of {S:Sx} {F:Fx S} {mp:Mp} {hp:Hp} {w:Wd} {s:Shared} {a b:V} {ca cb:Value} {k:Bool->Prop} {P:Value->Value->Prop} (h:asE a b hp k) (ha:At F mp hp w s) (ra:Rel S w a ca) (rb:Rel S w b cb)
  (f:∀ p q cx nx ny,k (List.isEmpty cx)->s.heap.get? p=some (listOf (List.toArray cx) nx)->s.heap.get? q=some (listOf (List.toArray []) ny)->P (.ref p) (.ref q)):P ca cb :=
 asRef_on (R:=fun v=>Rel S w v ca) h ra fun i h ra=>asRef_on (R:=fun v=>Rel S w v cb) h rb fun j h rb=>atRs_on h fun x ex h=>atL_on h fun y ey h=>by
  obtain ⟨rfl,h⟩:=h
  cases At.ref ha ex ra with | mk g1 g2 g3=>cases At.ref ha ey rb with | mk k1 k2 k3 =>
  cases (show IsList .. from g3) with | mk g4=>cases (show IsList .. from k3) with | mk k4 =>
  cases k4
  refine f _ _ _ _ _ ?_ g2 k2
  cases x with
  | nil=>cases g4;exact h
  | cons a r=>cases (show IsCons .. from g4) with | mk a b=>exact h
noncomputable def eqE:Co:=⟨.Eq,fun a b hp Q=>asE a b hp Q,fun {S F mp hp w s a b ca cb Q E} h ha ra rb=>asE_of h ha ra rb fun p q cx nx ny h ex ey=>by
 have hx:s.heap.IsList p cx.toArray:=⟨_,ex,rfl,nx,rfl⟩
 have hy:s.heap.IsList q ([] : List Value).toArray:=⟨_,ey,rfl,ny,rfl⟩
 cases cx with
 | nil=>exact SeqAt.RcAt.lists (e:=fun i=>true) hx hy rfl (room0 F) (fun j h1=>absurd h1 (Nat.not_lt_zero j)) _ _ _ _ ⟨_,rfl,ha,h⟩
 | cons a r=>exact SeqAt.RcAt.lists_lengths hx hy (bne_iff_ne.mpr fun z=>absurd z (Nat.succ_ne_zero _)) (room0 F) _ _ _ _ ⟨_,rfl,ha,h⟩⟩
noncomputable def neE:Co:=⟨.NotEq,fun a b hp Q=>asE a b hp fun r=>Q !r,fun {S F mp hp w s a b ca cb Q E} h ha ra rb=>asE_of h ha ra rb fun p q cx nx ny h ex ey=>by
 have hx:s.heap.IsList p cx.toArray:=⟨_,ex,rfl,nx,rfl⟩
 have hy:s.heap.IsList q ([] : List Value).toArray:=⟨_,ey,rfl,ny,rfl⟩
 cases cx with
 | nil=>exact SeqAt.RcNeAt.lists (e:=fun i=>true) hx hy rfl (room0 F) (fun j h1=>absurd h1 (Nat.not_lt_zero j)) _ _ _ _ ⟨_,rfl,ha,h⟩
 | cons a r=>exact SeqAt.RcNeAt.lists_lengths hx hy (bne_iff_ne.mpr fun z=>absurd z (Nat.succ_ne_zero _)) (room0 F) _ _ _ _ ⟨_,rfl,ha,h⟩⟩
noncomputable def mApp:Mo:=mLs 39 10 "list.append" rfl slot_list_append type_list_append
noncomputable def mPop:Mo:=mLs 40 11 "list.pop" rfl PySem.F.slot_list_pop PySem.F.type_list_pop
noncomputable def mJoin:Mo:=mBy 42 14 "bytes.join" rfl slot_bytes_join type_bytes_join
noncomputable def mPart:Mo:=mBy 43 15 "bytes.partition" rfl slot_bytes_partition type_bytes_partition
noncomputable def mIdx:Mo:=mBy 44 16 "bytes.index" rfl slot_bytes_index type_bytes_index
noncomputable def mSplit:Mo:=mBy 45 17 "bytes.split" rfl slot_bytes_split type_bytes_split
theorem lenFL {S:Sx} {d:Nat} {hp:Hp} {Q:V->Hp->Prop} {X:Bs->Prop} {xs:List D} (hz:xs.length<=1000000) (hq:Q (.d (.int xs.length)) hp):CallOk S d (.bi 0) [.d (.list xs)] hp Q X:=bi1 fun {F mp w s c} ha r=>by
 cases (show IsFl .. from r) with | @mk a cvs n e q =>
 have hl:=(RelDs.eq.mp q).length
 show PySem.wpAny _ _ (call (.builtin "len") _) _ _ _
 refine call_len_list (l:=_) (items:=cvs.toArray) ⟨_,ha.get e,rfl,n,rfl⟩ (by rw [List.size_toArray,hl];exact Int.lt_of_le_of_lt (Int.ofNat_le.mpr hz) (by decide)) ?_
 rw [List.size_toArray,hl]
 exact PI (.refl _) (ha.toks _) hq
theorem lenT {S:Sx} {d:Nat} {hp:Hp} {Q:V->Hp->Prop} {X:Bs->Prop} {xs:List D} (hz:xs.length<=1000000) (hq:Q (.d (.int xs.length)) hp):CallOk S d (.bi 0) [.d (.tup xs)] hp Q X:=bi1 fun {F mp w s c} ha r=>by
 cases (show IsTup .. from r) with | @mk a cvs n dd sl e q =>
 have hl:=(RelDs.eq.mp q).length
 show PySem.wpAny _ _ (call (.builtin "len") _) _ _ _
 refine PyProof.Rows.len_tuple (t:=a) (items:=cvs.toArray) ⟨_,ha.get e,rfl,n,rfl⟩ (by rw [List.size_toArray,hl];exact Int.lt_of_le_of_lt (Int.ofNat_le.mpr hz) (by decide)) ?_
 rw [List.size_toArray,hl]
 exact PI (.refl _) (ha.toks _) hq
theorem slot_barr_len:Slot "bytearray" "__len__" "bytearray.__len__" :=
 .of (owner := "bytearray") (n := "__len__") (by rw [typeLookup_type,builtinLookup_eq_fast];kernel_rfl) (by decide +kernel) (by decide +kernel) (by decide +kernel)
  (by first | exact .inl (by decide +kernel) | exact .inr (by decide +kernel)) (by rw [isSubtype_type];kernel_rfl)
theorem entry_barr_len:entryFor table "bytearray.__len__" = some Builtin.«bytearray.__len__»:=entryFor_of_tree (by kernel_rfl)
theorem args_barr_len (a:Value):argsOk "bytearray.__len__" ⟨[a],[]⟩:=by
 unfold argsOk;rw [signature?_of (id := "bytearray.__len__") (n:=['_','_','n','e','l','_','_']) (o:=['y','a','r','r','a','e','t','y','b']) (by kernel_rfl) owner_barr];kernel_rfl
theorem lenFB {S:Sx} {d:Nat} {hp:Hp} {Q:V->Hp->Prop} {X:Bs->Prop} {b:Bs} (hz:b.length<=1000000) (hq:Q (.d (.int b.length)) hp):CallOk S d (.bi 0) [.d (.barr b)] hp Q X:=bi1 fun {F mp w s c} ha r=>by
 cases (show IsFb .. from r) with | @mk a e =>
 have ho:=ha.get e
 have hT:s.TypeIs (.ref a) "bytearray" := ⟨_,ho,rfl⟩
 have hz2:((b.toArray.size:Nat):Int)<=1000000:=by rw [List.size_toArray];exact Int.ofNat_le.mpr hz
 show PySem.wpAny _ _ (call (.builtin "len") _) _ _ _
 refine call_function_entry kind_len plain_len entry_len (args_len1 _) ?_
 unfold Builtin.«len»
 refine PySem.wpAny_bind (m:=oneArg "len" _) (PySem.wpAny_pure ?_)
 refine PySem.wpAny_bind (m:=callSpecial? (.ref a) (Str.ofString "__len__")) (wpAny_callSpecial?_slot (name:=Str.ofString "__len__") hT slot_barr_len
  (wpAny_call_entry slot_barr_len hT entry_barr_len ?_ (args_barr_len _)))
 show PySem.wpAny _ _ (Builtin.Bytes.payload (.ref a) >>= fun b=>retInt b.size) _ _ s
 unfold Builtin.Bytes.payload Builtin.Bytes.payload?
 refine PySem.wpAny_bind (PySem.wpAny_bind (PySem.wpAny_bind (wpAny_load ho (PySem.wpAny_pure (PySem.wpAny_pure ?_)))))
 refine PySem.wpAny_bind (wpAny_mkInt (PySem.wpAny_pure ⟨_,rfl,?_⟩))
 refine PySem.wpAny_bind (PySem.wpAny_holding (PySem.wpAny_pure ?_))
 refine PySem.wpAny_bind (wpAny_letGo ?_)
 show PySem.wpAny _ _ (if ((b.toArray.size:Nat):Int) < 0 then _ else _) _ _ _
 rw [if_neg (Int.not_lt.mpr (Int.natCast_nonneg _))]
 show PySem.wpAny _ _ (if ((b.toArray.size:Nat):Int)>=2 ^ 63 then _ else _) _ _ _
 rw [if_neg (Int.not_le.mpr (Int.lt_of_le_of_lt hz2 (by decide)))]
 exact PySem.wpAny_bind (wpAny_mkInt (PySem.wpAny_pure ⟨_,rfl,PI (.refl _) (ha.keep rfl rfl rfl) (by rw [List.size_toArray];exact hq)⟩))
noncomputable def fiOf (cls:Option Str):Stmt->List Fi
 | .FunctionDef n a b _ _ _ sc _ _ _=>[⟨n,match cls with
   | some c=>c ++ "." ++ n
   | none=>n,a,b,sc⟩]
 | _=>[]
noncomputable def fisOf:List Stmt->List Fi
 | []=>[]
 | .ClassDef n _ _ b _ _ _ _ _ _ _::r=>b.flatMap (fiOf (some n))++fisOf r
 | s::r=>fiOf none s++fisOf r
noncomputable def fis:List Fi:=fisOf PySem.Challenge.pw_pb0518_01.main.body
noncomputable def fi (k:Nat):Fi:=(fis[k]?).getD ⟨"","", ⟨[],[],none,[],[],none,[]⟩,[],PySem.Challenge.pw_pb0518_01.main.scope⟩
end Mine.C
namespace Mine.C
noncomputable def b2:List Stx:=[retS (testX (cmpT inB (lX 0) (gX 4 (.d (.bytes [0,9,10,12,13,32])) rfl)))]
noncomputable def b3:List Stx:=[retS (testX (cmpT inB (lX 0) (gX 5 (.d (.bytes [40,41,60,62,91,93,123,125,47,37])) rfl)))]
noncomputable def b4:List Stx:=[retS (testX (orT (cmpT eqI (lX 0) (gX 6 (.d (.int 10)) rfl)) [cmpT eqI (lX 0) (gX 7 (.d (.int 13)) rfl)]))]
noncomputable def b5:List Stx:=[retS (testX (chainT leI leI (tX (.int 48)) (lX 0) (tX (.int 55))))]
noncomputable def b6:List Stx:=[ifS (chainT leI leI (tX (.int 48)) (lX 0) (tX (.int 57))) [retS (bX subI (lX 0) (tX (.int 48)))] [],ifS (chainT leI leI (tX (.int 65)) (lX 0) (tX (.int 70))) [retS (bX subI (lX 0) (tX (.int 55)))] [],ifS (chainT leI leI (tX (.int 97)) (lX 0) (tX (.int 102))) [retS (bX subI (lX 0) (tX (.int 87)))] [],retS (tX (.none))]
noncomputable def b7:List Stx:=[ifS (chainT leI leI (tX (.int 48)) (lX 0) (tX (.int 57))) [retS (bX subI (lX 0) (tX (.int 48)))] [],ifS (chainT leI leI (tX (.int 65)) (lX 0) (tX (.int 90))) [retS (bX subI (lX 0) (tX (.int 55)))] [],ifS (chainT leI leI (tX (.int 97)) (lX 0) (tX (.int 122))) [retS (bX subI (lX 0) (tX (.int 87)))] [],retS (tX (.none))]
noncomputable def b8:List Stx:=[asgS 1 (iteX (cmpT geI (lX 0) (tX (.int 0))) (lX 0) (negX (lX 0))),asgS 2 (lstX [bX addI (tX (.int 48)) (bX modI (lX 1) (tX (.int 10)))]),asgS 1 (bX divI (lX 1) (tX (.int 10))),whileS (cmpT gtI (lX 1) (tX (.int 0))) [exprS (methX mApp (lX 2) [bX addI (tX (.int 48)) (bX modI (lX 1) (tX (.int 10)))]),asgS 1 (bX divI (lX 1) (tX (.int 10)))],ifS (cmpT ltI (lX 0) (tX (.int 0))) [exprS (methX mApp (lX 2) [tX (.int 45)])] [],retS (kX (gX 129 (.bi 1) rfl) [revX (lX 2)])]
noncomputable def b10:List Stx:=[retS (testX (chainT leI leI (gX 2 (.d (.int (-2147483648))) rfl) (lX 0) (gX 3 (.d (.int 2147483647)) rfl)))]
noncomputable def b11:List Stx:=[ifS (cmpT gtI (kX (gX 131 (.bi 3) rfl) [lX 0]) (gX 17 (.d (.int 1000000000000000000000)) rfl)) [raiseS [108,105,109,105,116,99,104,101,99,107]] [],retS (lX 0)]
noncomputable def b12:List Stx:=[retS (kX (gX 23 (.fn 11) rfl) [bX mulI (lX 0) (gX 1 (.d (.int 1000000)) rfl)])]
noncomputable def b13:List Stx:=[ifS (valT (kX (gX 22 (.fn 10) rfl) [lX 0])) [retS (dtupX [gX 15 (.d (.str 63)) rfl,lX 0])] [],retS (dtupX [gX 16 (.d (.str 64)) rfl,kX (gX 24 (.fn 12) rfl) [lX 0]])]
noncomputable def b14:List Stx:=[ifS (cmpT eqI (kX (gX 128 (.bi 0) rfl) [lX 0]) (tX (.int 0))) [retS (tX (.none))] [],asgS 2 (tX (.int 0)),forS (teN 3 (itBy (lX 0))) [asgS 4 (kX (gX 13 (.fn 7) rfl) [lX 3]),ifS (orT (cmpT isN (lX 4) (tX (.none))) [cmpT geI (lX 4) (lX 1)]) [retS (tX (.none))] [],asgS 2 (bX addI (bX mulI (lX 2) (lX 1)) (lX 4))],retS (lX 2)]
noncomputable def b15:List Stx:=[asgS 2 (kX (gX 26 (.fn 14) rfl) [slX slB (lX 0) none (some (lX 1)),tX (.int 10)]),ifS (orT (cmpT isN (lX 2) (tX (.none))) [cmpT gtI (lX 1) (tX (.int 2)),notT (chainT leI leI (tX (.int 2)) (lX 2) (tX (.int 36)))]) [retS (tX (.none))] [],asgS 3 (kX (gX 26 (.fn 14) rfl) [slX slB (lX 0) (some (bX addI (lX 1) (tX (.int 1)))) none,lX 2]),ifS (cmpT isN (lX 3) (tX (.none))) [retS (tX (.none))] [],ifS (cmpT geI (lX 3) (gX 19 (.d (.int 4294967296)) rfl)) [raiseS [108,105,109,105,116,99,104,101,99,107]] [],retS (dtupX [gX 15 (.d (.str 63)) rfl,kX (gX 28 (.fn 16) rfl) [lX 3]])]
noncomputable def b16:List Stx:=[asgS 1 (bX modI (lX 0) (gX 19 (.d (.int 4294967296)) rfl)),retS (iteX (cmpT leI (lX 1) (gX 3 (.d (.int 2147483647)) rfl)) (lX 1) (bX subI (lX 1) (gX 19 (.d (.int 4294967296)) rfl)))]
noncomputable def b17:List Stx:=[asgS 1 (iteX (cmpT inT (slX slB (lX 0) none (some (tX (.int 1)))) (dataX (.tup [.bytes [43],.bytes [45]]))) (tX (.int 1)) (tX (.int 0))),asgS 2 (slX slB (lX 0) (some (lX 1)) none),asgS 3 (kX (gX 26 (.fn 14) rfl) [lX 2,tX (.int 10)]),ifS (cmpT isN (lX 3) (tX (.none))) [retS (tX (.none))] [],asgS 3 (kX (gX 137 (.bi 9) rfl) [lX 3,bX powI (tX (.int 10)) (gX 20 (.d (.int 6)) rfl)]),retS (iteX (cmpT eqB (slX slB (lX 0) none (some (tX (.int 1)))) (tX (.bytes [45]))) (negX (lX 3)) (lX 3))]
noncomputable def b18:List Stx:=[ifS (cmpT eqI (lX 0) (tX (.int 0))) [retS (tX (.int 0))] [],ifS (cmpT geI (lX 1) (tX (.int 0))) [ifS (cmpT gtI (lX 1) (bX addI (bX mulI (tX (.int 2)) (gX 18 (.d (.int 6)) rfl)) (tX (.int 20)))) [raiseS [108,105,109,105,116,99,104,101,99,107]] [],retS (kX (gX 23 (.fn 11) rfl) [bX mulI (lX 0) (bX powI (tX (.int 10)) (lX 1))])] [],deadS,retS (kX (gX 23 (.fn 11) rfl) [kX (gX 21 (.fn 9) rfl) [lX 0,bX powI (tX (.int 10)) (negX (lX 1))]])]
noncomputable def b19:List Stx:=[forS (teE 2 3 (gX 133 (.bi 5) rfl) (lX 0)) [ifS (cmpT inB (lX 3) (lX 1)) [retS (dtupX [slX slB (lX 0) none (some (lX 2)),slX slB (lX 0) (some (bX addI (lX 2) (tX (.int 1)))) none])] []],retS (dtupX [lX 0,tX (.none)])]
noncomputable def b20:List Stx:=[unpackS [2,3] (kX (gX 31 (.fn 19) rfl) [lX 0,tX (.bytes [101,69])]),unpackS [4,5] (kX (gX 31 (.fn 19) rfl) [lX 2,tX (.bytes [46])]),ifS (andT (cmpT isN (lX 3) (tX (.none))) [cmpT isN (lX 5) (tX (.none))]) [retS (tX (.none))] [],asgS 6 (iteX (cmpT isN (lX 3) (tX (.none))) (tX (.int 0)) (kX (gX 29 (.fn 17) rfl) [lX 3])),asgS 7 (iteX (cmpT isN (lX 5) (tX (.none))) (tX (.bytes [])) (lX 5)),asgS 8 (kX (gX 26 (.fn 14) rfl) [bX catB (lX 4) (lX 7),tX (.int 10)]),ifS (orT (cmpT isN (lX 6) (tX (.none))) [cmpT isN (lX 8) (tX (.none))]) [retS (tX (.none))] [],retS (dtupX [gX 16 (.d (.str 64)) rfl,kX (gX 30 (.fn 18) rfl) [iteX (valT (lX 1)) (negX (lX 8)) (lX 8),bX addI (bX subI (lX 6) (kX (gX 128 (.bi 0) rfl) [lX 7])) (gX 18 (.d (.int 6)) rfl)]])]
noncomputable def b21:List Stx:=[forS (teE 1 2 (gX 133 (.bi 5) rfl) (lX 0)) [ifS (cmpT eqI (lX 2) (tX (.int 35))) [retS (kX (gX 27 (.fn 15) rfl) [lX 0,lX 1])] []],asgS 3 (iteX (cmpT inT (slX slB (lX 0) none (some (tX (.int 1)))) (dataX (.tup [.bytes [43],.bytes [45]]))) (tX (.int 1)) (tX (.int 0))),asgS 4 (testX (cmpT eqB (slX slB (lX 0) none (some (tX (.int 1)))) (tX (.bytes [45])))),asgS 5 (kX (gX 26 (.fn 14) rfl) [slX slB (lX 0) (some (lX 3)) none,tX (.int 10)]),ifS (cmpT isNotN (lX 5) (tX (.none))) [retS (kX (gX 25 (.fn 13) rfl) [iteX (valT (lX 4)) (negX (lX 5)) (lX 5)])] [],retS (kX (gX 32 (.fn 20) rfl) [slX slB (lX 0) (some (lX 3)) none,lX 4])]
noncomputable def b22:List Stx:=[ifS (cmpT eqS (lX 0) (gX 15 (.d (.str 63)) rfl)) [retS (kX (gX 14 (.fn 8) rfl) [lX 1])] [],asgS 2 (kX (gX 131 (.bi 3) rfl) [lX 1]),asgS 3 (slX slB (kX (gX 14 (.fn 8) rfl) [bX addI (gX 1 (.d (.int 1000000)) rfl) (bX modI (lX 2) (gX 1 (.d (.int 1000000)) rfl))]) (some (tX (.int 1))) none),whileS (andT (cmpT gtI (kX (gX 128 (.bi 0) rfl) [lX 3]) (tX (.int 1))) [cmpT eqI (itemX itB (lX 3) (bX subI (kX (gX 128 (.bi 0) rfl) [lX 3]) (tX (.int 1)))) (tX (.int 48))]) [asgS 3 (slX slB (lX 3) none (some (bX subI (kX (gX 128 (.bi 0) rfl) [lX 3]) (tX (.int 1)))))],retS (bX catB (bX catB (bX catB (iteX (cmpT ltI (lX 1) (tX (.int 0))) (tX (.bytes [45])) (tX (.bytes []))) (kX (gX 14 (.fn 8) rfl) [bX divI (lX 2) (gX 1 (.d (.int 1000000)) rfl)])) (tX (.bytes [46]))) (lX 3))]
noncomputable def b23:List Stx:=[setA 3 (lX 0) (lX 1),setA 4 (lX 0) (lX 2),setA 5 (lX 0) (lX 3),setA 6 (lX 0) (lX 4)]
noncomputable def b24:List Stx:=[setA 7 (lX 0) (lX 1),setA 0 (lX 0) (kX (gX 130 (.bi 2) rfl) [lX 2]),setA 8 (lX 0) (lX 3),setA 9 (lX 0) (lX 4)]
noncomputable def b25:List Stx:=[setA 7 (lX 0) (lX 1),setA 10 (lX 0) (kX (gX 136 (.bi 8) rfl) [lX 2]),setA 8 (lX 0) (lX 3),setA 9 (lX 0) (lX 4)]
noncomputable def b26:List Stx:=[setA 11 (lX 0) (lX 1),setA 12 (lX 0) (lX 2),setA 13 (lX 0) (lX 3)]
noncomputable def b27:List Stx:=[retS (kX (gX 37 (.cls 5) rfl) [tX (.str 63),lX 0])]
noncomputable def b28:List Stx:=[retS (kX (gX 37 (.cls 5) rfl) [tX (.str 64),lX 0])]
noncomputable def b29:List Stx:=[retS (kX (gX 37 (.cls 5) rfl) [tX (.str 65),lX 0,lX 1])]
noncomputable def b31:List Stx:=[retS (kX (gX 37 (.cls 5) rfl) [tX (.str 48),kX (gX 40 (.cls 8) rfl) [lX 0,tX (.int 0),kX (gX 128 (.bi 0) rfl) [attrOX 0 (lX 0)]],lX 1,lX 2])]
noncomputable def b32:List Stx:=[retS (kX (gX 37 (.cls 5) rfl) [tX (.str 66),kX (gX 40 (.cls 8) rfl) [lX 0,tX (.int 0),kX (gX 128 (.bi 0) rfl) [attrOX 10 (lX 0)]],lX 1,lX 2])]
noncomputable def b34:List Stx:=[retS (testX (orT (cmpT eqS (attrOX 3 (lX 0)) (tX (.str 63))) [cmpT eqS (attrOX 3 (lX 0)) (tX (.str 64))]))]
noncomputable def b35:List Stx:=[retS (testX (orT (cmpT eqS (attrOX 3 (lX 0)) (tX (.str 66))) [cmpT eqS (attrOX 3 (lX 0)) (tX (.str 67))]))]
noncomputable def b36:List Stx:=[retS (testX (andT (valT (attrOX 5 (lX 0))) [valT (kX (gX 49 (.fn 35) rfl) [lX 0])]))]
noncomputable def b39:List Stx:=[retS (kX (gX 129 (.bi 1) rfl) [slX slR (attrOX 0 (attrOX 11 (lX 0))) (some (attrOX 12 (lX 0))) (some (bX addI (attrOX 12 (lX 0)) (attrOX 13 (lX 0))))])]
noncomputable def b40:List Stx:=[retS (slX slF (attrOX 10 (attrOX 11 (lX 0))) (some (attrOX 12 (lX 0))) (some (bX addI (attrOX 12 (lX 0)) (attrOX 13 (lX 0)))))]
noncomputable def b41:List Stx:=[setA 0 (lX 0) (lX 1),setA 1 (lX 0) (lX 2)]
noncomputable def b43:List Stx:=[ifS (cmpT geI (attrX 1 (lX 0)) (kX (gX 128 (.bi 0) rfl) [attrX 0 (lX 0)])) [retS (tX (.none))] [],setA 1 (lX 0) (bX addI (attrX 1 (lX 0)) (tX (.int 1))),retS (itemX itB (attrX 0 (lX 0)) (bX subI (attrX 1 (lX 0)) (tX (.int 1))))]
noncomputable def b44:List Stx:=[setA 1 (lX 0) (bX subI (attrX 1 (lX 0)) (tX (.int 1)))]
noncomputable def b45:List Stx:=[retS (testX (orT (valT (kX (gX 8 (.fn 2) rfl) [lX 0])) [cmpT eqI (lX 0) (gX 55 (.d (.int 4)) rfl)]))]
noncomputable def b46:List Stx:=[asgS 1 (methX (mOwn 46) (lX 0) []),ifS (andT (cmpT isNotN (lX 1) (tX (.none))) [cmpT neI (lX 1) (gX 6 (.d (.int 10)) rfl)]) [exprS (methX (mOwn 47) (lX 0) [])] []]
noncomputable def b47:List Stx:=[asgS 1 (methX (mOwn 46) (lX 0) []),whileS (andT (cmpT isNotN (lX 1) (tX (.none))) [notT (valT (kX (gX 10 (.fn 4) rfl) [lX 1])),cmpT neI (lX 1) (gX 56 (.d (.int 12)) rfl)]) [asgS 1 (methX (mOwn 46) (lX 0) [])],ifS (cmpT eqI (lX 1) (gX 7 (.d (.int 13)) rfl)) [exprS (kX (gX 75 (.fn 46) rfl) [lX 0])] []]
noncomputable def b48:List Stx:=[asgS 1 (methX (mOwn 46) (lX 0) []),whileS (cmpT isNotN (lX 1) (tX (.none))) [ifS (cmpT eqI (lX 1) (gX 72 (.d (.int 37)) rfl)) [exprS (kX (gX 76 (.fn 47) rfl) [lX 0])] [ifS (notT (valT (kX (gX 74 (.fn 45) rfl) [lX 1]))) [retS (lX 1)] []],asgS 1 (methX (mOwn 46) (lX 0) [])],retS (tX (.none))]
noncomputable def b49:List Stx:=[asgS 1 (kX (gX 130 (.bi 2) rfl) []),asgS 2 (methX (mOwn 46) (lX 0) []),whileS (andT (cmpT isNotN (lX 2) (tX (.none))) [notT (valT (kX (gX 74 (.fn 45) rfl) [lX 2])),notT (valT (kX (gX 9 (.fn 3) rfl) [lX 2]))]) [exprS (methX mBa (lX 1) [lX 2]),asgS 2 (methX (mOwn 46) (lX 0) [])],ifS (cmpT isN (lX 2) (tX (.none))) [retS (kX (gX 129 (.bi 1) rfl) [lX 1])] [],ifS (valT (kX (gX 9 (.fn 3) rfl) [lX 2])) [exprS (methX (mOwn 47) (lX 0) [])] [ifS (cmpT eqI (lX 2) (gX 7 (.d (.int 13)) rfl)) [exprS (kX (gX 75 (.fn 46) rfl) [lX 0])] []],retS (kX (gX 129 (.bi 1) rfl) [lX 1])]
noncomputable def b50:List Stx:=[asgS 1 (methX (mOwn 46) (lX 0) []),ifS (cmpT isN (lX 1) (tX (.none))) [raiseS [115,121,110,116,97,120,101,114,114,111,114]] [],retS (lX 1)]
noncomputable def b51:List Stx:=[asgS 2 (bX subI (lX 1) (tX (.int 48))),forS (teN 3 (itRg (gX 132 (.bi 4) rfl) (tX (.int 2)))) [asgS 1 (methX (mOwn 46) (lX 0) []),ifS (cmpT isN (lX 1) (tX (.none))) [retS (bX andI (lX 2) (tX (.int 255)))] [],ifS (notT (valT (kX (gX 11 (.fn 5) rfl) [lX 1]))) [exprS (methX (mOwn 47) (lX 0) []),retS (bX andI (lX 2) (tX (.int 255)))] [],asgS 2 (bX subI (bX addI (bX mulI (tX (.int 8)) (lX 2)) (lX 1)) (tX (.int 48)))],retS (bX andI (lX 2) (tX (.int 255)))]
noncomputable def b52:List Stx:=[asgS 2 (idctX [(110,.int 10),(114,.int 13),(116,.int 9),(98,.int 8),(102,.int 12)]),asgS 3 (kX (gX 79 (.fn 50) rfl) [lX 0]),ifS (valT (kX (gX 11 (.fn 5) rfl) [lX 3])) [exprS (methX mBa (lX 1) [kX (gX 80 (.fn 51) rfl) [lX 0,lX 3]])] [ifS (cmpT eqI (lX 3) (gX 7 (.d (.int 13)) rfl)) [exprS (kX (gX 75 (.fn 46) rfl) [lX 0])] [ifS (cmpT neI (lX 3) (gX 6 (.d (.int 10)) rfl)) [exprS (methX mBa (lX 1) [methX mDg (lX 2) [lX 3,lX 3]])] []]]]
noncomputable def b53:List Stx:=[unpackS [1,2] (pairX (kX (gX 130 (.bi 2) rfl) []) (tX (.int 1))),whileS (cmpT gtI (lX 2) (tX (.int 0))) [asgS 3 (kX (gX 79 (.fn 50) rfl) [lX 0]),ifS (cmpT eqI (lX 3) (gX 65 (.d (.int 92)) rfl)) [exprS (kX (gX 81 (.fn 52) rfl) [lX 0,lX 1]),contS] [],ifS (cmpT eqI (lX 3) (gX 7 (.d (.int 13)) rfl)) [exprS (kX (gX 75 (.fn 46) rfl) [lX 0]),asgS 3 (gX 6 (.d (.int 10)) rfl)] [],ifS (cmpT eqI (lX 3) (gX 60 (.d (.int 40)) rfl)) [asgS 2 (bX addI (lX 2) (tX (.int 1)))] [],ifS (cmpT eqI (lX 3) (gX 61 (.d (.int 41)) rfl)) [asgS 2 (bX subI (lX 2) (tX (.int 1)))] [],ifS (cmpT gtI (lX 2) (tX (.int 0))) [exprS (methX mBa (lX 1) [lX 3])] []],retS (kX (gX 129 (.bi 1) rfl) [lX 1])]
noncomputable def b54:List Stx:=[unpackS [1,2] (pairX (kX (gX 130 (.bi 2) rfl) []) (tX (.none))),asgS 3 (kX (gX 79 (.fn 50) rfl) [lX 0]),whileS (cmpT neI (lX 3) (gX 64 (.d (.int 62)) rfl)) [asgS 4 (kX (gX 12 (.fn 6) rfl) [lX 3]),ifS (andT (cmpT isN (lX 4) (tX (.none))) [notT (valT (kX (gX 8 (.fn 2) rfl) [lX 3]))]) [raiseS [115,121,110,116,97,120,101,114,114,111,114]] [],ifS (andT (cmpT isNotN (lX 4) (tX (.none))) [cmpT isN (lX 2) (tX (.none))]) [asgS 2 (lX 4)] [ifS (cmpT isNotN (lX 4) (tX (.none))) [exprS (methX mBa (lX 1) [bX addI (bX mulI (tX (.int 16)) (lX 2)) (lX 4)]),asgS 2 (tX (.none))] []],asgS 3 (kX (gX 79 (.fn 50) rfl) [lX 0])],ifS (cmpT isNotN (lX 2) (tX (.none))) [exprS (methX mBa (lX 1) [bX mulI (tX (.int 16)) (lX 2)])] [],retS (kX (gX 129 (.bi 1) rfl) [lX 1])]
noncomputable def b57:List Stx:=[ifS (cmpT gtI (kX (gX 128 (.bi 0) rfl) [lX 0]) (gX 57 (.d (.int 127)) rfl)) [raiseS [108,105,109,105,116,99,104,101,99,107]] [],retS (kX (gX 43 (.fn 29) rfl) [lX 0,lX 1])]
noncomputable def b58:List Stx:=[asgS 1 (kX (gX 33 (.fn 21) rfl) [lX 0]),ifS (cmpT isN (lX 1) (tX (.none))) [retS (kX (gX 86 (.fn 57) rfl) [lX 0,tX (.bool true)])] [],retS (iteX (cmpT eqS (itemX itT (lX 1) (tX (.int 0))) (tX (.str 63))) (kX (gX 41 (.fn 27) rfl) [itemX itT (lX 1) (tX (.int 1))]) (kX (gX 42 (.fn 28) rfl) [itemX itT (lX 1) (tX (.int 1))]))]
noncomputable def b59:List Stx:=[asgS 2 (iteX (cmpT isN (lX 1) (tX (.none))) (tX (.none)) (deadX)),ifS (cmpT isN (lX 2) (tX (.none))) [raiseS [117,110,100,101,102,105,110,101,100]] [],retS (lX 2)]
noncomputable def b60:List Stx:=[setA 2 (lX 0) (lX 1)]
noncomputable def b61:List Stx:=[retS (kX (gX 45 (.fn 31) rfl) [methX (mOwn 61) (attrX 2 (lX 0)) [lX 1]])]
noncomputable def b62:List Stx:=[asgS 3 (methX (mOwn 62) (attrX 2 (lX 0)) [lX 1]),retS (iteX (valT (lX 2)) (kX (gX 47 (.fn 33) rfl) [lX 3,tX (.bool true)]) (kX (gX 46 (.fn 32) rfl) [lX 3,tX (.bool true)]))]
noncomputable def b63:List Stx:=[asgS 3 (methX (mOwn 46) (lX 1) []),ifS (cmpT eqI (lX 3) (gX 62 (.d (.int 47)) rfl)) [retS (kX (gX 88 (.fn 59) rfl) [kX (gX 78 (.fn 49) rfl) [lX 1],lX 2])] [],ifS (cmpT isNotN (lX 3) (tX (.none))) [exprS (methX (mOwn 47) (lX 1) [])] [],retS (kX (gX 86 (.fn 57) rfl) [kX (gX 78 (.fn 49) rfl) [lX 1],tX (.bool false)])]
noncomputable def b64:List Stx:=[asgS 2 (kX (gX 79 (.fn 50) rfl) [lX 1]),ifS (cmpT eqI (lX 2) (gX 63 (.d (.int 60)) rfl)) [retS (kX (gX 43 (.fn 29) rfl) [tX (.bytes [60,60]),tX (.bool true)])] [],ifS (cmpT eqI (lX 2) (gX 70 (.d (.int 126)) rfl)) [retS (methX (mOwn 48) (lX 0) [kX (gX 85 (.fn 56) rfl) [lX 1]])] [],exprS (methX (mOwn 47) (lX 1) []),retS (methX (mOwn 48) (lX 0) [kX (gX 83 (.fn 54) rfl) [lX 1]])]
noncomputable def b65:List Stx:=[ifS (cmpT neI (methX (mOwn 46) (lX 1) []) (gX 64 (.d (.int 62)) rfl)) [raiseS [115,121,110,116,97,120,101,114,114,111,114]] [],retS (kX (gX 43 (.fn 29) rfl) [tX (.bytes [62,62]),tX (.bool true)])]
noncomputable def b66:List Stx:=[ifS (cmpT eqI (lX 2) (gX 62 (.d (.int 47)) rfl)) [retS (methX (mOwn 50) (lX 0) [lX 1,lX 3])] [],ifS (cmpT eqI (lX 2) (gX 60 (.d (.int 40)) rfl)) [retS (methX (mOwn 48) (lX 0) [kX (gX 82 (.fn 53) rfl) [lX 1]])] [],ifS (cmpT eqI (lX 2) (gX 63 (.d (.int 60)) rfl)) [retS (methX (mOwn 51) (lX 0) [lX 1])] [],ifS (cmpT eqI (lX 2) (gX 64 (.d (.int 62)) rfl)) [retS (methX (mOwn 52) (lX 0) [lX 1])] [],ifS (orT (cmpT eqI (lX 2) (gX 66 (.d (.int 91)) rfl)) [cmpT eqI (lX 2) (gX 67 (.d (.int 93)) rfl)]) [retS (kX (gX 43 (.fn 29) rfl) [kX (gX 129 (.bi 1) rfl) [lstX [lX 2]],tX (.bool true)])] [],ifS (cmpT eqI (lX 2) (gX 61 (.d (.int 41)) rfl)) [raiseS [115,121,110,116,97,120,101,114,114,111,114]] [],exprS (methX (mOwn 47) (lX 1) []),retS (kX (gX 87 (.fn 58) rfl) [kX (gX 78 (.fn 49) rfl) [lX 1]])]
noncomputable def b67:List Stx:=[asgS 4 rlstX,asgS 5 (kX (gX 77 (.fn 48) rfl) [lX 1]),whileS (cmpT isNotN (lX 5) (tX (.none))) [asgS 6 (tX (.none)),ifS (cmpT eqI (lX 5) (gX 68 (.d (.int 123)) rfl)) [exprS (methX mApp (lX 4) [lstX []])] [ifS (cmpT eqI (lX 5) (gX 69 (.d (.int 125)) rfl)) [ifS (cmpT eqE (lX 4) (lstX [])) [raiseS [115,121,110,116,97,120,101,114,114,111,114]] [],asgS 6 (methX (mOwn 49) (lX 0) [methX mPop (lX 4) [],lX 2])] [asgS 6 (methX (mOwn 53) (lX 0) [lX 1,lX 5,lX 3])]],ifS (andT (cmpT isNotN (lX 6) (tX (.none))) [cmpT eqE (lX 4) (lstX [])]) [retS (lX 6)] [],ifS (cmpT isNotN (lX 6) (tX (.none))) [exprS (methX mApp (itemX itLast (lX 4) (negX (tX (.int 1)))) [lX 6])] [],asgS 5 (kX (gX 77 (.fn 48) rfl) [lX 1])],ifS (cmpT neE (lX 4) (lstX [])) [raiseS [115,121,110,116,97,120,101,114,114,111,114]] [],retS (tX (.none))]
noncomputable def b68:List Stx:=[asgS 4 (lstX []),asgS 5 (methX (mOwn 54) (lX 0) [lX 1,lX 2,lX 3]),whileS (cmpT isNotN (lX 5) (tX (.none))) [exprS (methX mApp (lX 4) [lX 5]),asgS 5 (methX (mOwn 54) (lX 0) [lX 1,lX 2,lX 3])],retS (lX 4)]
noncomputable def b70:List Stx:=[retS (methX (mOwn 10) (kX (gX 89 (.cls 1) rfl) [lX 1]) [kX (gX 73 (.cls 0) rfl) [lX 0],lX 2,lX 3])]
noncomputable def b71:List Stx:=[asgS 1 (idctX [(10,.bytes [92,110]),(13,.bytes [92,114]),(9,.bytes [92,116]),(8,.bytes [92,98]),(12,.bytes [92,102]),(40,.bytes [92,40]),(41,.bytes [92,41]),(92,.bytes [92,92])]),ifS (cmpT inD (lX 0) (lX 1)) [retS (itemX itI (lX 1) (lX 0))] [],ifS (chainT leI leI (tX (.int 32)) (lX 0) (tX (.int 126))) [retS (kX (gX 129 (.bi 1) rfl) [lstX [lX 0]])] [],retS (kX (gX 129 (.bi 1) rfl) [lstX [tX (.int 92),bX addI (tX (.int 48)) (bX divI (lX 0) (tX (.int 64))),bX addI (tX (.int 48)) (bX modI (bX divI (lX 0) (tX (.int 8))) (tX (.int 8))),bX addI (tX (.int 48)) (bX modI (lX 0) (tX (.int 8)))]])]
noncomputable def b72:List Stx:=[retS (bX catB (bX catB (tX (.bytes [40])) (methX mJoin (tX (.bytes [])) [compX (itBy (lX 0)) [] none (kX (gX 94 (.fn 71) rfl) [lX 0])])) (tX (.bytes [41])))]
noncomputable def b73:List Stx:=[ifS (valT (kX (gX 48 (.fn 34) rfl) [lX 0])) [retS (kX (gX 34 (.fn 22) rfl) [attrOX 3 (lX 0),attrOX 4 (lX 0)])] [],ifS (cmpT eqS (attrOX 3 (lX 0)) (tX (.str 65))) [retS (iteX (valT (attrOX 5 (lX 0))) (attrOX 4 (lX 0)) (bX catB (tX (.bytes [47])) (attrOX 4 (lX 0))))] [],ifS (cmpT eqS (attrOX 3 (lX 0)) (tX (.str 48))) [retS (kX (gX 95 (.fn 72) rfl) [kX (gX 53 (.fn 39) rfl) [attrOX 4 (lX 0)]])] [],retS (methX mJoin (tX (.bytes [32])) [bX catL (bX catL (lstX [tX (.bytes [123])]) (compX (itLs (kX (gX 54 (.fn 40) rfl) [attrOX 4 (lX 0)])) [] none (kX (gX 96 (.fn 73) rfl) [lX 0]))) (lstX [tX (.bytes [125])])])]
noncomputable def b74:List Stx:=[ifS (valT (kX (gX 50 (.fn 36) rfl) [lX 0])) [retS (methX mJoin (tX (.bytes [32])) [bX catL (bX catL (lstX [tX (.bytes [123])]) (compX (itLs (kX (gX 54 (.fn 40) rfl) [attrOX 4 (lX 0)])) [] none (kX (gX 97 (.fn 74) rfl) [lX 0]))) (lstX [tX (.bytes [125])])])] [],ifS (andT (cmpT eqS (attrOX 3 (lX 0)) (tX (.str 65))) [valT (attrOX 5 (lX 0)),cmpT inT (attrOX 4 (lX 0)) (gX 93 (.d (.tup [.bytes [91],.bytes [93],.bytes [60,60],.bytes [62,62]])) rfl)]) [retS (attrOX 4 (lX 0))] [],retS (kX (gX 96 (.fn 73) rfl) [lX 0])]
noncomputable def b75:List Stx:=[setA 14 (lX 0) (lX 1),setA 15 (lX 0) (lstX []),setA 16 (lX 0) (tX (.bytes []))]
noncomputable def b76:List Stx:=[ifS (cmpT neB (attrX 16 (lX 0)) (tX (.bytes []))) [exprS (methX mApp (attrX 15 (lX 0)) [attrX 16 (lX 0)]),setA 16 (lX 0) (tX (.bytes []))] []]
noncomputable def b77:List Stx:=[ifS (andT (cmpT neB (attrX 16 (lX 0)) (tX (.bytes []))) [cmpT gtI (bX addI (bX addI (kX (gX 128 (.bi 0) rfl) [attrX 16 (lX 0)]) (tX (.int 1))) (kX (gX 128 (.bi 0) rfl) [lX 1])) (attrX 14 (lX 0))]) [exprS (methX (mOwn 55) (lX 0) [])] [],setA 16 (lX 0) (iteX (cmpT eqB (attrX 16 (lX 0)) (tX (.bytes []))) (bX catB (bX (repB 32) (tX (.bytes [32])) (lX 2)) (lX 1)) (bX catB (bX catB (attrX 16 (lX 0)) (tX (.bytes [32]))) (lX 1)))]
noncomputable def b78:List Stx:=[exprS (methX (mOwn 55) (lX 0) []),exprS (methX mApp (attrX 15 (lX 0)) [bX catB (bX (repB 32) (tX (.bytes [32])) (lX 2)) (lX 1)])]
noncomputable def b79:List Stx:=[forS (teN 4 (itLs (lX 1))) [asgS 5 (kX (gX 97 (.fn 74) rfl) [lX 4]),ifS (orT (notT (valT (kX (gX 50 (.fn 36) rfl) [lX 4]))) [cmpT leI (lX 3) (tX (.int 0)),cmpT leI (bX addI (lX 2) (kX (gX 128 (.bi 0) rfl) [lX 5])) (attrX 14 (lX 0))]) [exprS (methX (mOwn 56) (lX 0) [lX 5,lX 2])] [exprS (methX (mOwn 57) (lX 0) [tX (.bytes [123]),lX 2]),exprS (kX (gX 99 (.fn 79) rfl) [lX 0,kX (gX 54 (.fn 40) rfl) [attrOX 4 (lX 4)],bX addI (lX 2) (tX (.int 2)),bX subI (lX 3) (tX (.int 1))]),exprS (methX (mOwn 57) (lX 0) [tX (.bytes [125]),lX 2])]]]
noncomputable def b80:List Stx:=[asgS 4 (kX (gX 98 (.cls 2) rfl) [lX 2]),exprS (kX (gX 99 (.fn 79) rfl) [lX 4,kX (gX 90 (.fn 70) rfl) [lX 0,lX 1],tX (.int 0),lX 3]),exprS (methX (mOwn 55) (lX 4) []),retS (methX mJoin (tX (.bytes [])) [compX (itLs (attrX 15 (lX 4))) [] none (bX catB (lX 0) (tX (.bytes [10])))])]
noncomputable def b81:List Stx:=[setA 26 (lX 0) (lX 1),setA 27 (lX 0) (lX 2),setA 28 (lX 0) (lX 3),setA 18 (lX 0) (lX 4),setA 29 (lX 0) (lX 5),setA 30 (lX 0) (lX 6),setA 31 (lX 0) (lX 7),setA 32 (lX 0) (lX 8),setA 33 (lX 0) (lX 9),setA 34 (lX 0) (lX 10),setA 35 (lX 0) (lX 11),setA 36 (lX 0) (lX 12),setA 37 (lX 0) (lX 13),setA 38 (lX 0) (lX 14)]
noncomputable def b83:List Stx:=[setA 17 (lX 0) (lX 1),setA 8 (lX 0) (tX (.bool false)),setA 18 (lX 0) (lstX []),setA 19 (lX 0) (lstX []),setA 20 (lX 0) (idctX []),setA 21 (lX 0) (lstX []),setA 22 (lX 0) (tX (.int 0)),setA 23 (lX 0) (tX (.int 0)),setA 24 (lX 0) (tX (.int 0)),setA 25 (lX 0) (tX (.int 0))]
noncomputable def b85:List Stx:=[retS (iteX (valT (attrX 8 (lX 0))) (tX (.int 0)) (lvlX (lX 0)))]
noncomputable def b86:List Stx:=[exprS (methX (mOwn 60) (lX 0) [lX 1]),setA 24 (lX 0) (bX addI (attrX 24 (lX 0)) (tX (.int 1))),itmS setM setM_ok (attrX 20 (lX 0)) (attrX 24 (lX 0)) (dtupX [lX 1,attrX 8 (lX 0),methX (mOwn 58) (lX 0) []]),ifS (valT (attrX 8 (lX 0))) [setA 23 (lX 0) (bX addI (attrX 23 (lX 0)) (lX 1))] [setA 22 (lX 0) (bX addI (attrX 22 (lX 0)) (lX 1))],retS (attrX 24 (lX 0))]
noncomputable def b87:List Stx:=[ifS (cmpT gtI (bX addI (bX addI (attrX 22 (lX 0)) (attrX 23 (lX 0))) (lX 1)) (attrOX 38 (attrX 17 (lX 0)))) [raiseS [86,77,101,114,114,111,114]] []]
noncomputable def b89:List Stx:=[exprS (kX (gX 106 (.fn 114) rfl) [kX (gX 128 (.bi 0) rfl) [lX 1],attrOX 30 (attrX 17 (lX 0))]),retS (kX (gX 38 (.cls 6) rfl) [methX (mOwn 59) (lX 0) [kX (gX 128 (.bi 0) rfl) [lX 1]],lX 1,attrX 8 (lX 0),methX (mOwn 58) (lX 0) []])]
noncomputable def b90:List Stx:=[ifS (valT (kX (gX 134 (.bi 6) rfl) [lX 1,gX 135 (.bi 7) rfl])) [exprS (kX (gX 106 (.fn 114) rfl) [lX 1,attrOX 31 (attrX 17 (lX 0))]),retS (methX (mOwn 62) (lX 0) [bX mulI (lstX [kX (gX 44 (.fn 30) rfl) []]) (lX 1)])] [],exprS (kX (gX 106 (.fn 114) rfl) [kX (gX 128 (.bi 0) rfl) [lX 1],attrOX 31 (attrX 17 (lX 0))]),ifS (valT (attrX 8 (lX 0))) [forS (teN 2 (itLs (lX 1))) [ifS (valT (kX (gX 52 (.fn 38) rfl) [lX 2])) [raiseS [105,110,118,97,108,105,100,97,99,99,101,115,115]] []]] [],retS (kX (gX 39 (.cls 7) rfl) [methX (mOwn 59) (lX 0) [bX mulI (gX 101 (.d (.int 8)) rfl) (kX (gX 128 (.bi 0) rfl) [lX 1])],lX 1,attrX 8 (lX 0),methX (mOwn 58) (lX 0) []])]
noncomputable def b114:List Stx:=[ifS (cmpT ltI (lX 0) (tX (.int 0))) [raiseS [114,97,110,103,101,99,104,101,99,107]] [],ifS (cmpT gtI (lX 0) (lX 1)) [raiseS [108,105,109,105,116,99,104,101,99,107]] []]
noncomputable def b117:List Stx:=[ifS (cmpT neL (itemX itS (lX 0) (tX (.str 76))) (lstX [])) [retS (bX modI (methX mPop (itemX itS (lX 0) (tX (.str 76))) [tX (.int 0)]) (lX 1))] [],itmS setD setD_ok (lX 0) (tX (.str 77)) (bX modI (bX addI (bX mulI (itemX itS (lX 0) (tX (.str 77))) (tX (.int 4801))) (tX (.int 97))) (tX (.int 1000003))),retS (bX modI (bX divI (itemX itS (lX 0) (tX (.str 77))) (tX (.int 7))) (lX 1))]
noncomputable def b118:List Stx:=[retS (itemX itTL (lX 1) (kX (gX 112 (.fn 117) rfl) [lX 0,kX (gX 128 (.bi 0) rfl) [lX 1]]))]
noncomputable def b119:List Stx:=[retS (kX (gX 113 (.fn 118) rfl) [lX 0,lstX [dataX (.tup [.bytes [55],.tup [.str 70,.int 7]]),dataX (.tup [.bytes [43,48,55],.tup [.str 70,.int 7]]),dataX (.tup [.bytes [45,49,50],.tup [.str 70,.int (-12)]]),dataX (.tup [.bytes [49,54,35,102,70],.tup [.str 70,.int 255]]),dataX (.tup [.bytes [50,35,49,48,49],.tup [.str 70,.int 5]]),dataX (.tup [.bytes [49,46,53],.tup [.str 64,.int 1500000]]),dataX (.tup [.bytes [49,53,101,45,49],.tup [.str 64,.int 1500000]]),dataX (.tup [.bytes [45,46,50,53],.tup [.str 64,.int (-250000)]]),dataX (.tup [.bytes [51,46],.tup [.str 64,.int 3000000]]),dataX (.tup [.bytes [48,46,48,48,48,48,48,49],.tup [.str 64,.int 1]]),dataX (.tup [.bytes [51,48,48,48,48,48,48,48,48,48],.tup [.str 64,.int 3000000000000000]]),dataX (.tup [.bytes [49,101,51],.tup [.str 64,.int 1000000000]])]])]
noncomputable def b120:List Stx:=[asgS 1 (tX (.bytes [])),forS (teN 2 (itBy (lX 0))) [ifS (cmpT inB (lX 2) (tX (.bytes [40,41,92]))) [asgS 1 (bX catB (bX catB (lX 1) (tX (.bytes [92]))) (kX (gX 129 (.bi 1) rfl) [lstX [lX 2]]))] [ifS (chainT leI ltI (tX (.int 32)) (lX 2) (tX (.int 127))) [asgS 1 (bX catB (lX 1) (kX (gX 129 (.bi 1) rfl) [lstX [lX 2]]))] [asgS 1 (bX catB (bX catB (lX 1) (tX (.bytes [92]))) (kX (gX 129 (.bi 1) rfl) [lstX [bX addI (tX (.int 48)) (bX divI (lX 2) (tX (.int 64))),bX addI (tX (.int 48)) (bX modI (bX divI (lX 2) (tX (.int 8))) (tX (.int 8))),bX addI (tX (.int 48)) (bX modI (lX 2) (tX (.int 8)))]]))]]],retS (lX 1)]
noncomputable def b121:List Stx:=[unpackS [1,2] (dtupX [kX (gX 113 (.fn 118) rfl) [lX 0,gX 109 (.d (.tup [.bytes [],.bytes [97,41,98],.bytes [120,40,121,41,122],.bytes [116,119,111,32,119,111,114,100,115],.bytes [92],.bytes [10,9],.bytes [0,255,57],.bytes [97,32,114,97,116,104,101,114,32,108,111,110,103,32,116,101,120,116,32,111,102,32,109,97,110,121,32,115,105,103,110,115]])) rfl],kX (gX 112 (.fn 117) rfl) [lX 0,tX (.int 4)]]),ifS (cmpT eqI (lX 2) (tX (.int 0))) [cellS 3 (tX (.bytes [48,49,50,51,52,53,54,55,56,57,97,98,99,100,101,102])),asgS 4 (methX mJoin (tX (.bytes [])) [compX (itBy (lX 1)) [3] none (kX (gX 129 (.bi 1) rfl) [lstX [itemX itB (cellX 1) (bX divI (lX 0) (tX (.int 16))),itemX itB (cellX 1) (bX modI (lX 0) (tX (.int 16))),tX (.int 32)]])]),retS (dtupX [bX catB (bX catB (tX (.bytes [60])) (lX 4)) (tX (.bytes [62])),dtupX [tX (.str 71),lX 1]])] [],ifS (andT (cmpT eqI (lX 2) (tX (.int 1))) [cmpT eqB (lX 1) (tX (.bytes [120,40,121,41,122]))]) [retS (dtupX [tX (.bytes [40,120,40,121,41,122,41]),dtupX [tX (.str 71),lX 1]])] [],ifS (cmpT eqI (lX 2) (tX (.int 2))) [retS (dtupX [bX catB (bX catB (tX (.bytes [40])) (kX (gX 115 (.fn 120) rfl) [lX 1])) (tX (.bytes [92,10,41])),dtupX [tX (.str 71),lX 1]])] [],retS (dtupX [bX catB (bX catB (tX (.bytes [40])) (kX (gX 115 (.fn 120) rfl) [lX 1])) (tX (.bytes [41])),dtupX [tX (.str 71),lX 1]])]
noncomputable def b122:List Stx:=[retS (kX (gX 113 (.fn 118) rfl) [lX 0,lstX [tX (.bytes [32]),tX (.bytes [10]),tX (.bytes [32,9]),tX (.bytes [32,37,32,97,32,114,101,109,97,114,107,32,40,120,125,32,47,121,10]),tX (.bytes [13,10]),tX (.bytes [37,13])]])]
noncomputable def b123:List Stx:=[asgS 2 (kX (gX 112 (.fn 117) rfl) [lX 0,iteX (cmpT gtI (lX 1) (tX (.int 0))) (tX (.int 6)) (tX (.int 5))]),ifS (cmpT eqI (lX 2) (tX (.int 0))) [unpackS [3,4] (kX (gX 114 (.fn 119) rfl) [lX 0]),retS (pairX (lX 3) (lstX [lX 4]))] [],ifS (cmpT eqI (lX 2) (tX (.int 1))) [unpackS [3,4] (kX (gX 116 (.fn 121) rfl) [lX 0]),retS (pairX (lX 3) (lstX [lX 4]))] [],ifS (cmpT eqI (lX 2) (tX (.int 2))) [asgS 3 (kX (gX 113 (.fn 118) rfl) [lX 0,bX catT (gX 108 (.d (.tup [.bytes [97,100,100],.bytes [109,111,118,101,116,111],.bytes [97,46,98],.bytes [49,97],.bytes [45],.bytes [36,122],.bytes [115,101,116,114,103,98,99,111,108,111,114,97,110,100,109,111,114,101],.bytes [120]])) rfl) (dataX (.tup [.bytes []]))]),retS (pairX (bX catB (tX (.bytes [47])) (lX 3)) (lstX [dtupX [tX (.str 72),lX 3]]))] [],ifS (cmpT eqI (lX 2) (tX (.int 3))) [asgS 3 (kX (gX 113 (.fn 118) rfl) [lX 0,gX 108 (.d (.tup [.bytes [97,100,100],.bytes [109,111,118,101,116,111],.bytes [97,46,98],.bytes [49,97],.bytes [45],.bytes [36,122],.bytes [115,101,116,114,103,98,99,111,108,111,114,97,110,100,109,111,114,101],.bytes [120]])) rfl]),retS (pairX (lX 3) (lstX [dtupX [tX (.str 73),lX 3]]))] [],ifS (cmpT eqI (lX 2) (tX (.int 4))) [asgS 3 (kX (gX 113 (.fn 118) rfl) [lX 0,gX 110 (.d (.tup [.bytes [91],.bytes [93],.bytes [60,60],.bytes [62,62]])) rfl]),retS (pairX (lX 3) (lstX [dtupX [tX (.str 73),lX 3]]))] [],unpackS [3,5] (kX (gX 119 (.fn 124) rfl) [lX 0,kX (gX 112 (.fn 117) rfl) [lX 0,tX (.int 5)],bX subI (lX 1) (tX (.int 1))]),retS (pairX (bX catB (bX catB (tX (.bytes [123])) (lX 3)) (tX (.bytes [125]))) (bX catL (bX catL (lstX [dataX (.tup [.str 74,.bytes []])]) (lX 5)) (lstX [dataX (.tup [.str 75,.bytes []])])))]
noncomputable def b124:List Stx:=[unpackS [3,4] (pairX (tX (.bytes [])) (lstX [])),forS (teN 5 (itRg (gX 132 (.bi 4) rfl) (lX 1))) [unpackS [6,7] (kX (gX 118 (.fn 123) rfl) [lX 0,lX 2]),asgS 3 (bX catB (bX catB (lX 3) (kX (gX 117 (.fn 122) rfl) [lX 0])) (lX 6)),asgS 4 (bX catL (lX 4) (lX 7))],retS (pairX (bX catB (lX 3) (kX (gX 117 (.fn 122) rfl) [lX 0])) (lX 4))]
noncomputable def b125:List Stx:=[whileS (andT (cmpT ltI (lX 1) (kX (gX 128 (.bi 0) rfl) [lX 0])) [cmpT notInB (itemX itB (lX 0) (lX 1)) (tX (.bytes [32,9,10,13,12,0,40,41,60,62,91,93,123,125,47,37]))]) [asgS 1 (bX addI (lX 1) (tX (.int 1)))],retS (lX 1)]
noncomputable def b126:List Stx:=[unpackS [1,2,3] (methX mPart (lX 0) [tX (.bytes [46])]),asgS 4 (testX (cmpT eqB (slX slB (lX 1) none (some (tX (.int 1)))) (tX (.bytes [45])))),asgS 5 (bX catB (iteX (valT (lX 4)) (slX slB (lX 1) (some (tX (.int 1))) none) (lX 1)) (lX 3)),ifS (orT (cmpT eqB (lX 5) (tX (.bytes []))) [cmpT neL (compX (itBy (lX 5)) [] (some (cmpT notInB (lX 0) (tX (.bytes [48,49,50,51,52,53,54,55,56,57])))) (lX 0)) (lstX []),cmpT gtI (kX (gX 128 (.bi 0) rfl) [lX 3]) (tX (.int 6))]) [retS (tX (.none))] [],asgS 7 (tX (.int 0)),forS (teN 6 (itBy (bX catB (lX 5) (bX (repB 48) (tX (.bytes [48])) (bX subI (tX (.int 6)) (kX (gX 128 (.bi 0) rfl) [lX 3])))))) [asgS 7 (bX subI (bX addI (bX mulI (lX 7) (tX (.int 10))) (lX 6)) (tX (.int 48)))],retS (iteX (valT (lX 4)) (negX (lX 7)) (lX 7))]
noncomputable def b127:List Stx:=[asgS 1 (iteX (cmpT eqB (slX slB (lX 0) none (some (tX (.int 1)))) (tX (.bytes [45]))) (slX slB (lX 0) (some (tX (.int 1))) none) (lX 0)),ifS (andT (cmpT neB (lX 1) (tX (.bytes []))) [cmpT eqL (compX (itBy (lX 1)) [] (some (cmpT notInB (lX 0) (tX (.bytes [48,49,50,51,52,53,54,55,56,57])))) (lX 0)) (lstX [])]) [retS (dtupX [tX (.str 70),bX divI (kX (gX 121 (.fn 126) rfl) [bX catB (lX 0) (tX (.bytes [46]))]) (tX (.int 1000000))])] [],ifS (andT (cmpT (inBB 46) (tX (.bytes [46])) (lX 0)) [cmpT isNotN (kX (gX 121 (.fn 126) rfl) [lX 0]) (tX (.none))]) [retS (dtupX [tX (.str 64),kX (gX 121 (.fn 126) rfl) [lX 0]])] [],retS (dtupX [tX (.str 73),lX 0])]
noncomputable def b128:List Stx:=[asgS 2 (tX (.bytes [110,114,116,98,102])),ifS (cmpT inB (itemX itB (lX 0) (lX 1)) (lX 2)) [retS (dtupX [itemX itB (tX (.bytes [10,13,9,8,12])) (methX mIdx (lX 2) [itemX itB (lX 0) (lX 1)]),bX addI (lX 1) (tX (.int 1))])] [],ifS (cmpT notInB (itemX itB (lX 0) (lX 1)) (tX (.bytes [48,49,50,51,52,53,54,55]))) [retS (dtupX [iteX (cmpT eqI (itemX itB (lX 0) (lX 1)) (tX (.int 10))) (tX (.none)) (itemX itB (lX 0) (lX 1)),bX addI (lX 1) (tX (.int 1))])] [],unpackS [3,4] (dtupX [tX (.int 0),lX 1]),whileS (andT (cmpT ltI (lX 4) (bX addI (lX 1) (tX (.int 3)))) [cmpT neB (slX slB (lX 0) (some (lX 4)) (some (bX addI (lX 4) (tX (.int 1))))) (tX (.bytes [])),cmpT inB (itemX itB (lX 0) (lX 4)) (tX (.bytes [48,49,50,51,52,53,54,55]))]) [unpackS [3,4] (dtupX [bX subI (bX addI (bX mulI (lX 3) (tX (.int 8))) (itemX itB (lX 0) (lX 4))) (tX (.int 48)),bX addI (lX 4) (tX (.int 1))])],retS (dtupX [bX modI (lX 3) (tX (.int 256)),lX 4])]
noncomputable def b129:List Stx:=[unpackS [2,3] (pairX (lstX []) (tX (.int 1))),whileS (cmpT ltI (lX 1) (kX (gX 128 (.bi 0) rfl) [lX 0])) [unpackS [4,1] (dtupX [itemX itB (lX 0) (lX 1),bX addI (lX 1) (tX (.int 1))]),ifS (andT (cmpT eqI (lX 4) (tX (.int 92))) [cmpT ltI (lX 1) (kX (gX 128 (.bi 0) rfl) [lX 0])]) [unpackS [4,1] (kX (gX 123 (.fn 128) rfl) [lX 0,lX 1]),asgS 2 (bX catL (lX 2) (iteX (cmpT isNotN (lX 4) (tX (.none))) (lstX [lX 4]) (lstX []))),contS] [],asgS 3 (bX addI (lX 3) (methX mDg (idctX [(40,.int 1),(41,.int (-1))]) [lX 4,tX (.int 0)])),ifS (cmpT eqI (lX 3) (tX (.int 0))) [retS (dtupX [kX (gX 129 (.bi 1) rfl) [lX 2],lX 1])] [],exprS (methX mApp (lX 2) [lX 4])],retS (dtupX [tX (.none),lX 1])]
noncomputable def b130:List Stx:=[unpackS [1,2] (pairX (lstX []) (tX (.int 0))),whileS (cmpT ltI (lX 2) (kX (gX 128 (.bi 0) rfl) [lX 0])) [asgS 3 (itemX itB (lX 0) (lX 2)),ifS (cmpT inB (lX 3) (tX (.bytes [32,9,10,13]))) [asgS 2 (bX addI (lX 2) (tX (.int 1)))] [ifS (cmpT eqI (lX 3) (tX (.int 40))) [unpackS [4,2] (kX (gX 124 (.fn 129) rfl) [lX 0,bX addI (lX 2) (tX (.int 1))]),ifS (cmpT isN (lX 4) (tX (.none))) [retS (tX (.none))] [],exprS (methX mApp (lX 1) [dtupX [tX (.str 71),lX 4]])] [ifS (cmpT eqI (lX 3) (tX (.int 47))) [asgS 5 (kX (gX 120 (.fn 125) rfl) [lX 0,bX addI (lX 2) (tX (.int 1))]),exprS (methX mApp (lX 1) [dtupX [tX (.str 72),slX slB (lX 0) (some (bX addI (lX 2) (tX (.int 1)))) (some (lX 5))]]),asgS 2 (lX 5)] [ifS (cmpT inB (lX 3) (tX (.bytes [123,125,91,93]))) [asgS 6 (idctX [(123,.tup [.str 74,.bytes []]),(125,.tup [.str 75,.bytes []])]),exprS (methX mApp (lX 1) [methX mDg (lX 6) [lX 3,dtupX [tX (.str 73),slX slB (lX 0) (some (lX 2)) (some (bX addI (lX 2) (tX (.int 1))))]]]),asgS 2 (bX addI (lX 2) (tX (.int 1)))] [ifS (cmpT inT (slX slB (lX 0) (some (lX 2)) (some (bX addI (lX 2) (tX (.int 2))))) (dataX (.tup [.bytes [60,60],.bytes [62,62]]))) [exprS (methX mApp (lX 1) [dtupX [tX (.str 73),slX slB (lX 0) (some (lX 2)) (some (bX addI (lX 2) (tX (.int 2))))]]),asgS 2 (bX addI (lX 2) (tX (.int 2)))] [ifS (cmpT inB (lX 3) (tX (.bytes [60,62,41,37]))) [retS (tX (.none))] [asgS 5 (kX (gX 120 (.fn 125) rfl) [lX 0,lX 2]),exprS (methX mApp (lX 1) [kX (gX 122 (.fn 127) rfl) [slX slB (lX 0) (some (lX 2)) (some (lX 5))]]),asgS 2 (lX 5)]]]]]]],retS (lX 1)]
noncomputable def b131:List Stx:=[tryS [exprS (kX (gX 100 (.fn 80) rfl) [lX 0,kX (gX 105 (.cls 3) rfl) [kX (gX 104 (.cls 4) rfl) []],lX 1,tX (.int 20)])],retS (tX (.none))]
noncomputable def b132:List Stx:=[asgS 1 (kX (gX 111 (.fn 116) rfl) [lX 0]),unpackS [2,3] (dtupX [bX addI (tX (.int 20)) (kX (gX 112 (.fn 117) rfl) [lX 1,tX (.int 30)]),bX addI (tX (.int 1)) (kX (gX 112 (.fn 117) rfl) [lX 1,tX (.int 9)])]),unpackS [4,5] (pairX (tX (.bytes [])) (lstX [])),forS (teN 6 (itRg (gX 132 (.bi 4) rfl) (lX 3))) [unpackS [7,8] (kX (gX 118 (.fn 123) rfl) [lX 1,tX (.int 3)]),asgS 4 (bX catB (bX catB (lX 4) (lX 7)) (kX (gX 117 (.fn 122) rfl) [lX 1])),asgS 5 (bX catL (lX 5) (lX 8)),ifS (cmpT gtI (kX (gX 128 (.bi 0) rfl) [lX 5]) (tX (.int 24))) [brkS] []],asgS 9 (kX (gX 112 (.fn 117) rfl) [lX 1,tX (.int 8)]),ifS (cmpT ltI (lX 9) (tX (.int 5))) [asgS 10 (itemX itL (lstX [tX (.bytes [123,32,97]),tX (.bytes [40,97,98,99]),tX (.bytes [60,52,103,62]),tX (.bytes [60,52,49]),tX (.bytes [47,47,97,100,100])]) (lX 9)),asgS 11 (iteX (cmpT eqI (lX 9) (tX (.int 4))) (tX (.bytes [117,110,100,101,102,105,110,101,100])) (tX (.bytes [115,121,110,116,97,120,101,114,114,111,114]))),ifS (cmpT neB (kX (gX 126 (.fn 131) rfl) [bX catB (bX catB (lX 4) (tX (.bytes [32]))) (lX 10),lX 2]) (lX 11)) [retS (tX (.bool false))] []] [],asgS 12 (kX (gX 100 (.fn 80) rfl) [lX 4,kX (gX 105 (.cls 3) rfl) [kX (gX 104 (.cls 4) rfl) []],lX 2,tX (.int 20)]),ifS (cmpT neL (kX (gX 125 (.fn 130) rfl) [lX 12]) (lX 5)) [retS (tX (.bool false))] [],forS (teN 13 (itLs (methX mSplit (lX 12) [tX (.bytes [10])]))) [ifS (cmpT gtI (kX (gX 128 (.bi 0) rfl) [lX 13]) (lX 2)) [asgS 14 (kX (gX 125 (.fn 130) rfl) [lX 13]),ifS (orT (cmpT isN (lX 14) (tX (.none))) [cmpT neI (kX (gX 128 (.bi 0) rfl) [lX 14]) (tX (.int 1))]) [retS (tX (.bool false))] []] []],retS (testX (cmpT eqB (kX (gX 100 (.fn 80) rfl) [lX 12,kX (gX 105 (.cls 3) rfl) [kX (gX 104 (.cls 4) rfl) []],lX 2,tX (.int 20)]) (lX 12)))]
end Mine.C
namespace Mine.C
noncomputable abbrev Kr (Q:V->Hp->Prop):Kt:=⟨fun loc hp=>Q (.d .none) hp,fun loc hp=>False,fun loc hp=>False,Q⟩
structure Bod (k:Nat) (b:List Stx) (n:Nat) (ds:List D) (l:Nat):Prop where
 at_:fis[k]?=some (fi k)
 chk:chkS (fi k).cx b (fi k).body=true
 ok:decide (FnOk (fi k) (dfl k).length n)=true
 df:(dfl k).drop ((fi k).p2 (dfl k).length n).length=ds
 ln:(fi k).names.length - (fi k).par.length=l
theorem Bod.run {k n l d:Nat} {b:List Stx} {ds:List D} {S:Sx} {vs:List V} {hp:Hp} {Q:V->Hp->Prop} {X:Bs->Prop} (B:Bod k b n ds l) (Y:Fns S fis) (hv:vs.length=n) (hw:Wss b d (CallOk S) ((vs++ds.map V.d).map some++List.replicate l none) hp (Kr Q) X):CallOk S (d+1) (.fn k) vs hp Q X:=by
 refine fn_ok Y B.at_ (by rw [hv];exact B.ok) B.chk ?_
 unfold startLoc
 rw [hv,B.df,B.ln]
 exact hw
theorem c2:Bod 2 b2 1 [] 0:=by constructor<;>kernel_rfl
theorem c3:Bod 3 b3 1 [] 0:=by constructor<;>kernel_rfl
theorem c4:Bod 4 b4 1 [] 0:=by constructor<;>kernel_rfl
theorem c5:Bod 5 b5 1 [] 0:=by constructor<;>kernel_rfl
theorem c6:Bod 6 b6 1 [] 0:=by constructor<;>kernel_rfl
theorem c7:Bod 7 b7 1 [] 0:=by constructor<;>kernel_rfl
theorem c8:Bod 8 b8 1 [] 2:=by constructor<;>kernel_rfl
theorem c10:Bod 10 b10 1 [] 0:=by constructor<;>kernel_rfl
theorem c11:Bod 11 b11 1 [] 0:=by constructor<;>kernel_rfl
theorem c12:Bod 12 b12 1 [] 0:=by constructor<;>kernel_rfl
theorem c13:Bod 13 b13 1 [] 0:=by constructor<;>kernel_rfl
theorem c14:Bod 14 b14 2 [] 3:=by constructor<;>kernel_rfl
theorem c15:Bod 15 b15 2 [] 2:=by constructor<;>kernel_rfl
theorem c16:Bod 16 b16 1 [] 1:=by constructor<;>kernel_rfl
theorem c17:Bod 17 b17 1 [] 3:=by constructor<;>kernel_rfl
theorem c18:Bod 18 b18 2 [] 0:=by constructor<;>kernel_rfl
theorem c19:Bod 19 b19 2 [] 2:=by constructor<;>kernel_rfl
theorem c20:Bod 20 b20 2 [] 7:=by constructor<;>kernel_rfl
theorem c21:Bod 21 b21 1 [] 5:=by constructor<;>kernel_rfl
theorem c22:Bod 22 b22 2 [] 2:=by constructor<;>kernel_rfl
theorem c23:Bod 23 b23 5 [] 0:=by constructor<;>kernel_rfl
theorem c24:Bod 24 b24 5 [] 0:=by constructor<;>kernel_rfl
theorem c25:Bod 25 b25 5 [] 0:=by constructor<;>kernel_rfl
theorem c26:Bod 26 b26 4 [] 0:=by constructor<;>kernel_rfl
theorem c27:Bod 27 b27 1 [] 0:=by constructor<;>kernel_rfl
theorem c28:Bod 28 b28 1 [] 0:=by constructor<;>kernel_rfl
theorem c29:Bod 29 b29 2 [] 0:=by constructor<;>kernel_rfl
theorem c31:Bod 31 b31 1 [.bool false,.int 3] 0:=by constructor<;>kernel_rfl
theorem c32:Bod 32 b32 2 [.int 3] 0:=by constructor<;>kernel_rfl
theorem c34:Bod 34 b34 1 [] 0:=by constructor<;>kernel_rfl
theorem c35:Bod 35 b35 1 [] 0:=by constructor<;>kernel_rfl
theorem c36:Bod 36 b36 1 [] 0:=by constructor<;>kernel_rfl
theorem c39:Bod 39 b39 1 [] 0:=by constructor<;>kernel_rfl
theorem c40:Bod 40 b40 1 [] 0:=by constructor<;>kernel_rfl
theorem c41:Bod 41 b41 2 [.int 0] 0:=by constructor<;>kernel_rfl
theorem c43:Bod 43 b43 1 [] 0:=by constructor<;>kernel_rfl
theorem c44:Bod 44 b44 1 [] 0:=by constructor<;>kernel_rfl
theorem c45:Bod 45 b45 1 [] 0:=by constructor<;>kernel_rfl
theorem c46:Bod 46 b46 1 [] 1:=by constructor<;>kernel_rfl
theorem c47:Bod 47 b47 1 [] 1:=by constructor<;>kernel_rfl
theorem c48:Bod 48 b48 1 [] 1:=by constructor<;>kernel_rfl
theorem c49:Bod 49 b49 1 [] 2:=by constructor<;>kernel_rfl
theorem c50:Bod 50 b50 1 [] 1:=by constructor<;>kernel_rfl
theorem c51:Bod 51 b51 2 [] 2:=by constructor<;>kernel_rfl
theorem c52:Bod 52 b52 2 [] 2:=by constructor<;>kernel_rfl
theorem c53:Bod 53 b53 1 [] 3:=by constructor<;>kernel_rfl
theorem c54:Bod 54 b54 1 [] 4:=by constructor<;>kernel_rfl
theorem c57:Bod 57 b57 2 [] 0:=by constructor<;>kernel_rfl
theorem c58:Bod 58 b58 1 [] 1:=by constructor<;>kernel_rfl
theorem c59:Bod 59 b59 2 [] 1:=by constructor<;>kernel_rfl
theorem c60:Bod 60 b60 2 [] 0:=by constructor<;>kernel_rfl
theorem c61:Bod 61 b61 2 [] 0:=by constructor<;>kernel_rfl
theorem c62:Bod 62 b62 3 [] 1:=by constructor<;>kernel_rfl
theorem c63:Bod 63 b63 3 [] 1:=by constructor<;>kernel_rfl
theorem c64:Bod 64 b64 2 [] 1:=by constructor<;>kernel_rfl
theorem c65:Bod 65 b65 2 [] 0:=by constructor<;>kernel_rfl
theorem c66:Bod 66 b66 4 [] 0:=by constructor<;>kernel_rfl
theorem c67:Bod 67 b67 4 [] 3:=by constructor<;>kernel_rfl
theorem c68:Bod 68 b68 4 [] 2:=by constructor<;>kernel_rfl
theorem c70:Bod 70 b70 2 [.bool false,.none] 0:=by constructor<;>kernel_rfl
theorem c71:Bod 71 b71 1 [] 1:=by constructor<;>kernel_rfl
theorem c72:Bod 72 b72 1 [] 0:=by constructor<;>kernel_rfl
theorem c73:Bod 73 b73 1 [] 0:=by constructor<;>kernel_rfl
theorem c74:Bod 74 b74 1 [] 0:=by constructor<;>kernel_rfl
theorem c75:Bod 75 b75 2 [] 0:=by constructor<;>kernel_rfl
theorem c76:Bod 76 b76 1 [] 0:=by constructor<;>kernel_rfl
theorem c77:Bod 77 b77 3 [] 0:=by constructor<;>kernel_rfl
theorem c78:Bod 78 b78 3 [] 0:=by constructor<;>kernel_rfl
theorem c79:Bod 79 b79 4 [] 2:=by constructor<;>kernel_rfl
theorem c80:Bod 80 b80 4 [] 1:=by constructor<;>kernel_rfl
theorem c81:Bod 81 b81 1 [.int 500,.int 20,.int 250,.int 15,.int 31,.int 65535,.int 65535,.int 65535,.int 127,.int 1500,.int 11,.int 15,.int 600,.int 16777216] 0:=by constructor<;>kernel_rfl
theorem c83:Bod 83 b83 2 [] 0:=by constructor<;>kernel_rfl
theorem c85:Bod 85 b85 1 [] 0:=by constructor<;>kernel_rfl
theorem c86:Bod 86 b86 2 [] 0:=by constructor<;>kernel_rfl
theorem c87:Bod 87 b87 2 [] 0:=by constructor<;>kernel_rfl
theorem c89:Bod 89 b89 2 [] 0:=by constructor<;>kernel_rfl
theorem c90:Bod 90 b90 2 [] 1:=by constructor<;>kernel_rfl
theorem c114:Bod 114 b114 2 [] 0:=by constructor<;>kernel_rfl
theorem c117:Bod 117 b117 2 [] 0:=by constructor<;>kernel_rfl
theorem c118:Bod 118 b118 2 [] 0:=by constructor<;>kernel_rfl
theorem c119:Bod 119 b119 1 [] 0:=by constructor<;>kernel_rfl
theorem c120:Bod 120 b120 1 [] 2:=by constructor<;>kernel_rfl
theorem at121:fis[121]?=some (fi 121):=by kernel_rfl
theorem chk121:chkS (fi 121).cx b121 (fi 121).body=true:=by kernel_rfl
theorem c122:Bod 122 b122 1 [] 0:=by constructor<;>kernel_rfl
theorem c123:Bod 123 b123 2 [] 4:=by constructor<;>kernel_rfl
theorem c124:Bod 124 b124 3 [] 5:=by constructor<;>kernel_rfl
theorem c125:Bod 125 b125 2 [] 0:=by constructor<;>kernel_rfl
theorem c126:Bod 126 b126 1 [] 7:=by constructor<;>kernel_rfl
theorem c127:Bod 127 b127 1 [] 1:=by constructor<;>kernel_rfl
theorem c128:Bod 128 b128 2 [] 3:=by constructor<;>kernel_rfl
theorem c129:Bod 129 b129 2 [] 3:=by constructor<;>kernel_rfl
theorem c130:Bod 130 b130 1 [] 6:=by constructor<;>kernel_rfl
theorem c131:Bod 131 b131 2 [] 1:=by constructor<;>kernel_rfl
theorem c132:Bod 132 b132 1 [] 14:=by constructor<;>kernel_rfl
theorem c23a:Bod 23 b23 3 [.bool false,.int 3] 0:=by constructor<;>kernel_rfl
theorem c23b:Bod 23 b23 4 [.int 3] 0:=by constructor<;>kernel_rfl
end Mine.C
namespace Mine.C
structure Std (S:Sx):Prop where
 fns:Fns S fis
 cls:ClsIn S
section
variable {S:Sx} {d:Nat} {hp:Hp} {Q:V->Hp->Prop} {X:Bs->Prop}
theorem optE {α:Type} {o:Option α} {P:Prop} (n:o=none->P) (s:∀ x,o=some x->P):P:=by cases e:o with | none=>exact n e | some x=>exact s x e
theorem boolE {b:Bool} {P:Prop} (f:b=false->P) (t:b=true->P):P:=by cases e:b with | false=>exact f e | true=>exact t e
theorem ifT {b:Bool} {A B:Prop} (h:b=true) (t:B):(b.casesOn A B:Prop):=by rw [h];exact t
theorem ifF {b:Bool} {A B:Prop} (h:b=false) (t:A):(b.casesOn A B:Prop):=by rw [h];exact t
theorem CallOk_at (js:List Nat) {f0 f:V} {vs0 vs:List V} {hp0:Hp} (h:CallOk S d f0 vs0 hp0 (fun v hp'=>Q (renV (rho js hp.length) v) (place js hp hp')) X) (hn:decide js.Nodup=true:=by rfl) (he:Sees js hp hp0:=by exact rfl) (ho:hp.all live=true:=by rfl)
  (hf:renV (rho js hp.length) f0=f:=by rfl) (hv:vs0.map (renV (rho js hp.length))=vs:=by rfl):CallOk S d f vs hp Q X :=
 CallOk_place js (of_decide_eq_true hn) he (fun i m e=>Bool.false_ne_true (List.all_eq_true.mp ho _ (List.mem_of_getElem? e))) hf hv h fun v hp' q=>q
theorem octLt (c:UInt8):0<=(c.toNat:Int)/\(c.toNat:Int) < 256:=⟨Int.natCast_nonneg _,Int.ofNat_lt.mpr c.toNat_lt⟩
noncomputable def oc (c:UInt8):V := .d (.int c.toNat)
noncomputable def whiteB (c:UInt8):Bool:=octIn c.toNat [0,9,10,12,13,32]
noncomputable def delimB (c:UInt8):Bool:=octIn c.toNat [40,41,60,62,91,93,123,125,47,37]
noncomputable def lineEndB (c:UInt8):Bool:=(c.toNat:Int)==10||(c.toNat:Int)==13
noncomputable def octalB (c:UInt8):Bool:=decide ((48:Int)<=c.toNat)&&decide ((c.toNat:Int)<=55)
noncomputable def blankB (c:UInt8):Bool:=whiteB c||(c.toNat:Int)==4
theorem or2 {P:Bool->Prop} {a b:Bool} (h:P (a||b)):cond (a==true) (P true) (cond (b==true) (P true) (P false)):=by cases a<;>cases b<;>exact h
theorem and2 {P:Bool->Prop} {a b:Bool} (h:P (a&&b)):(a.casesOn (P false) (P b):Prop):=by cases a<;>cases b<;>exact h
variable (Y:Std S) {c:UInt8}
include Y
theorem white_ok (q:Q (.d (.bool (whiteB c))) hp):CallOk S (d+1) (.fn 2) [oc c] hp Q X:=c2.run Y.fns rfl (by exact ⟨octLt c,q⟩)
theorem delim_ok (q:Q (.d (.bool (delimB c))) hp):CallOk S (d+1) (.fn 3) [oc c] hp Q X:=c3.run Y.fns rfl (by exact ⟨octLt c,q⟩)
theorem lineEnd_ok (q:Q (.d (.bool (lineEndB c))) hp):CallOk S (d+1) (.fn 4) [oc c] hp Q X:=c4.run Y.fns rfl (by exact (or2 (P:=fun b=>Q (.d (.bool b)) hp) q))
theorem octal_ok (q:Q (.d (.bool (octalB c))) hp):CallOk S (d+1) (.fn 5) [oc c] hp Q X:=c5.run Y.fns rfl (by exact (and2 (P:=fun b=>Q (.d (.bool b)) hp) q))
theorem blank_ok (q:Q (.d (.bool (blankB c))) hp):CallOk S (d+2) (.fn 45) [oc c] hp Q X:=c45.run Y.fns rfl (by exact (white_ok Y (or2 (P:=fun b=>Q (.d (.bool b)) hp) q)))
end
end Mine.C
namespace Mine.C
noncomputable def src (b s:Bs):O := .ns 0 [.d (.bytes b),.d (.int ((b.length:Int) - s.length))]
structure Suf (b s:Bs):Prop where
 suf:s <:+ b
 len:b.length<=1000000
noncomputable def headD (s:Bs):D:=s.casesOn .none fun c r => .int c.toNat
theorem Suf.tail {b r:Bs} {c:UInt8} (h:Suf b (c::r)):Suf b r:=⟨(List.suffix_cons c r).trans h.suf,h.len⟩
theorem Suf.le {b s:Bs} (h:Suf b s):s.length<=1000000:=Nat.le_trans h.suf.length_le h.len
theorem src_end {b:Bs}:decide (((b.length:Int) - ([] : Bs).length)>=(b.length:Int))=true:=decide_eq_true (by rw [List.length_nil];exact Int.le_of_eq (Int.sub_zero _).symm)
theorem src_more {b r:Bs} {c:UInt8}:decide (((b.length:Int) - (c::r).length)>=(b.length:Int))=false:=decide_eq_false (Int.not_le.mpr (Int.sub_lt_self _ (Int.ofNat_lt.mpr (Nat.succ_pos _))))
theorem src_step {n:Int} {r:Bs} {c:UInt8}:n - (c::r).length+1=n - r.length:=by rw [List.length_cons,Int.natCast_succ];omega
theorem src_back {n:Int} {r:Bs} {c:UInt8}:n - r.length - 1=n - (c::r).length:=by rw [List.length_cons,Int.natCast_succ];omega
theorem suf_get {b r:Bs} {c:UInt8} (h:(c::r) <:+ b):0<=(b.length:Int) - r.length - 1/\(b.length:Int) - r.length - 1 < b.length/\b.getD ((b.length:Int) - r.length - 1).toNat 0=c:=by
 obtain ⟨a,rfl⟩:=h
 have e:(((a++c::r).length:Nat):Int) - r.length - 1=(a.length:Nat):=by rw [List.length_append,List.length_cons];omega
 rw [e]
 refine ⟨Int.natCast_nonneg _,Int.ofNat_lt.mpr (by rw [List.length_append,List.length_cons];omega),?_⟩
 rw [Int.toNat_natCast,List.getD_eq_getElem?_getD,List.getElem?_append_right (Nat.le_refl _),Nat.sub_self];rfl
section
variable {S:Sx} {d:Nat} {b s:Bs} {Q:V->Hp->Prop} {X:Bs->Prop} (Y:Std S)
include Y
theorem next_ok (h:Suf b s) (q:Q (.d (headD s)) [src b s.tail]):CallOk S (d+1) (.fn 43) [.inst 0 0] [src b s] Q X :=
 c43.run Y.fns rfl (by
  refine lenB (Nat.le_trans h.len (by decide)) ?_
  cases s with
  | nil=>exact ifT src_end q
  | cons c r =>
   refine ifF src_more ?_
   have g:=suf_get h.suf
   have e:[src b r]=[O.ns 0 [.d (.bytes b),.d (.int ((b.length:Int) - (c::r).length+1))]]:=by rw [src_step];rfl
   have f:(b.length:Int) - (c::r).length+1 - 1=(b.length:Int) - r.length - 1:=by rw [src_step]
   refine ⟨f▸⟨g.1,g.2.1,Nat.le_trans h.len (by decide)⟩,?_⟩
   have q:Q (.d (.int (b.getD ((b.length:Int) - (c::r).length+1 - 1).toNat 0).toNat)) [O.ns 0 [.d (.bytes b),.d (.int ((b.length:Int) - (c::r).length+1))]]:=by rw [f,g.2.2,<- e];exact q
   exact q)
theorem back_ok {c:UInt8} (q:Q (.d .none) [src b (c::s)]):CallOk S (d+1) (.fn 44) [.inst 0 0] [src b s] Q X :=
 c44.run Y.fns rfl (by
  have q:Q (.d .none) [O.ns 0 [.d (.bytes b),.d (.int ((b.length:Int) - s.length - 1))]]:=by rw [src_back (c:=c)];exact q
  exact q)
end
end Mine.C
namespace Mine.C
theorem andF {b:Bool} {A B:Prop} (h:b=false) (a:A):cond (b==false) A B:=by rw [h];exact a
theorem andT' {b:Bool} {A B:Prop} (h:b=true) (x:B):cond (b==false) A B:=by rw [h];exact x
theorem orT' {b:Bool} {A B:Prop} (h:b=true) (a:A):cond (b==true) A B:=by rw [h];exact a
theorem orF {b:Bool} {A B:Prop} (h:b=false) (x:B):cond (b==true) A B:=by rw [h];exact x
theorem pkT {α:Type} {P:α->Prop} {b:Bool} {x y:α} (h:b=true) (q:P (cond b x y)):P x:=by rw [h] at q;exact q
theorem pkF {α:Type} {P:α->Prop} {b:Bool} {x y:α} (h:b=false) (q:P (cond b x y)):P y:=by rw [h] at q;exact q
noncomputable def skipFeed (s:Bs):Bs:=s.casesOn [] fun c r=>cond ((c.toNat:Int) != 10) (c::r) r
noncomputable def lineF (s:Bs):Option Bs:=s.rec none fun c r ih=>cond (lineEndB c) (some (cond ((c.toNat:Int)==13) (skipFeed r) r)) (cond ((c.toNat:Int) != 12) ih (some r))
noncomputable def firstF (n:Nat):Bs->Option (Option (UInt8×Bs)):=n.rec (fun s=>none) fun n ih s=>s.casesOn (some none) fun c r=>cond ((c.toNat:Int)==37) ((lineF r).bind ih) (cond (!blankB c) (some (some (c,r))) (ih r))
noncomputable def firstD (o:Option (UInt8×Bs)):D:=o.casesOn .none fun p => .int p.1.toNat
noncomputable def firstS (o:Option (UInt8×Bs)):Bs:=o.casesOn [] fun p=>p.2
noncomputable def firstU (o:Option (UInt8×Bs)):Bs:=o.casesOn [] fun p=>p.1::p.2
noncomputable def wordF (s:Bs):Bs×Bs:=s.rec ([],[]) fun c r ih=>cond (blankB c) ([],cond ((c.toNat:Int)==13) (skipFeed r) r) (cond (delimB c) ([],c::r) (c::ih.1,ih.2))
theorem thirteen {c:UInt8} (h:lineEndB c=false):((c.toNat:Int)==13)=false:=(Bool.or_eq_false_iff.mp h).2
theorem skip_suf {b s:Bs} (h:Suf b s):Suf b (skipFeed s):=by
 cases s with
 | nil=>exact h
 | cons c r =>
  show Suf b (cond ((c.toNat:Int) != 10) (c::r) r)
  cases ((c.toNat:Int) != 10) with
  | true=>exact h
  | false=>exact h.tail
section
variable {S:Sx} {d n:Nat} {b s t:Bs} {o:Option (UInt8×Bs)} {Q:V->Hp->Prop} {X:Bs->Prop} (Y:Std S)
include Y
theorem skip_ok (h:Suf b s) (q:Q (.d .none) [src b (skipFeed s)]):CallOk S (d+2) (.fn 46) [.inst 0 0] [src b s] Q X :=
 c46.run Y.fns rfl (by
  refine next_ok Y h ?_
  cases s with
  | nil=>exact ⟨rfl,q⟩
  | cons c r =>
   refine ⟨rfl,?_⟩
   cases hc:((c.toNat:Int) != 10) with
   | true=>exact andT' hc (back_ok Y ⟨rfl,pkT (P:=fun s=>Q (.d .none) [src b s]) hc q⟩)
   | false=>exact andF hc (pkF (P:=fun s=>Q (.d .none) [src b s]) hc q))
theorem line_ok (h:Suf b s) (e:lineF s=some t) (q:Suf b t->Q (.d .none) [src b t]):CallOk S (d+3) (.fn 47) [.inst 0 0] [src b s] Q X :=
 c47.run Y.fns rfl (by
  refine next_ok Y h fun P hP=>?_
  induction s with
  | nil=>exact nomatch e
  | cons c r ih =>
   refine hP _ _ P (fun a b x=>x) ⟨rfl,lineEnd_ok Y ?_⟩
   cases hl:lineEndB c with
   | true =>
    have e:=Option.some.inj (pkT (P:=fun x=>x=some t) hl e)
    cases hc:((c.toNat:Int)==13) with
    | true =>
     cases pkT (P:=fun x=>x=t) hc e
     exact ifT hc (skip_ok Y h.tail ⟨rfl,q (skip_suf h.tail)⟩)
    | false =>
     cases pkF (P:=fun x=>x=t) hc e
     exact ifF hc (q h.tail)
   | false =>
    have e:=pkF (P:=fun x=>x=some t) hl e
    refine boolE (b:=((c.toNat:Int) != 12)) (fun hc=>?_) fun hc=>by exact andT' hc (next_ok Y h.tail (by exact ih h.tail (pkT (P:=fun x=>x=some t) hc e)))
    cases pkF (P:=fun x=>x=some t) hc e
    exact andF hc (ifF (thirteen hl) (q h.tail)))
theorem first_ok (h:Suf b s) (e:firstF n s=some o) (q:Suf b (firstU o)->Q (.d (firstD o)) [src b (firstS o)]):CallOk S (d+4) (.fn 48) [.inst 0 0] [src b s] Q X :=
 c48.run Y.fns rfl (by
  refine next_ok Y h fun P hP=>?_
  induction n generalizing s with
  | zero=>exact nomatch e
  | succ n ih =>
   refine hP _ _ P (fun a b x=>x) ⟨rfl,?_⟩
   cases s with
   | nil=>cases e;exact q h
   | cons c r =>
    cases hc:((c.toNat:Int)==37) with
    | true =>
     obtain ⟨u,e1,e2⟩:=Option.bind_eq_some_iff.mp (pkT (P:=fun x=>x=some o) hc e)
     exact ifT hc (line_ok Y h.tail e1 fun k=>⟨rfl,next_ok Y k (by exact ih k e2)⟩)
    | false =>
     have e:=pkF (P:=fun x=>x=some o) hc e
     refine ifF hc (blank_ok Y ?_)
     cases hb:blankB c with
     | false =>
      cases pkT (P:=fun x=>x=some o) (congrArg not hb) e
      exact q h
     | true=>exact next_ok Y h.tail (by exact ih h.tail (pkF (P:=fun x=>x=some o) (congrArg not hb) e)))
end
end Mine.C
namespace Mine.C
theorem snocL {α:Type} {w:List α} {c:α} {n N:Nat} (h:w.length+(n+1)<=N):(w++[c]).length+n<=N:=by rw [List.length_append,Nat.add_assoc];exact Nat.add_comm n 1▸h
theorem octAll {p:UInt8->Bool} (h:(List.range 256).all (fun i=>p (UInt8.ofNat i))=true) (c:UInt8):p c=true:=by
 have:=List.all_eq_true.mp h c.toNat (List.mem_range.mpr c.toNat_lt)
 rwa [UInt8.ofNat_toNat] at this
theorem oct_back (c:UInt8):(c.toNat:Int).toNat.toUInt8=c:=by rw [Int.toNat_natCast];exact UInt8.ofNat_toNat
theorem blank_delim {c:UInt8} (h:blankB c=true):delimB c=false:=by
 have:=octAll (p:=fun c => !(blankB c) || !(delimB c)) (by decide +kernel) c
 rw [h] at this
 exact Bool.not_eq_true' _ |>.mp this
noncomputable def synE:Bs:=[115,121,110,116,97,120,101,114,114,111,114]
noncomputable def octalF (k:Nat):Int->Bs->Int×Bs:=k.rec (fun n s=>(n % 256,s)) fun k ih n s=>s.casesOn (n % 256,[]) fun c r=>cond (octalB c) (ih (8*n+c.toNat - 48) r) (n % 256,c::r)
theorem octal_lo {c:UInt8} (h:octalB c=true):48<=(c.toNat:Int):=of_decide_eq_true (Bool.and_eq_true_iff.mp h).1
noncomputable def escL:List (Int×D):=[(110,.int 10),(114,.int 13),(116,.int 9),(98,.int 8),(102,.int 12)]
noncomputable def escM (c:UInt8):UInt8:=(([(110,10),(114,13),(116,9),(98,8),(102,12)] : List (UInt8×UInt8)).lookup c).getD c
theorem escL_get (c:UInt8):(escL.lookup (c.toNat:Int)).getD (.int c.toNat) = .int (escM c).toNat:=by
 have:=octAll (p:=fun c=>((escL.lookup (c.toNat:Int)).getD (.int c.toNat)).casesOn false (fun a=>false) (fun i=>i==(escM c).toNat) (fun a=>false) (fun a=>false) (fun a=>false) (fun a b=>false) (fun a=>false) (fun a=>false)) (by decide +kernel) c
 cases h:(escL.lookup (c.toNat:Int)).getD (.int c.toNat) with
 | int i=>rw [h] at this;exact congrArg D.int (beq_iff_eq.mp this)
 | _=>rw [h] at this;exact no this
noncomputable def escF (s:Bs):Option (Bs×Bs):=s.casesOn none fun c r=>cond (octalB c) (some ([(octalF 2 (c.toNat - 48) r).1.toNat.toUInt8],(octalF 2 (c.toNat - 48) r).2)) (cond ((c.toNat:Int)==13) (some ([],skipFeed r)) (cond ((c.toNat:Int) != 10) (some ([escM c],r)) (some ([],r))))
section
variable {S:Sx} {d n p:Nat} {hp:Hp} {b s t w:Bs} {c:UInt8} {Q:V->Hp->Prop} {X:Bs->Prop}
theorem appC (e:hp[p]?=some (.barr w)) (hz:w.length < 1000000) (hq:Q (.d .none) (hp.set p (.barr (w++[c])))):CallOk S d (.bi 12) [.ref p,oc c] hp Q X :=
 appB e (octLt c).1 (octLt c).2 hz (by rw [oct_back];exact hq)
variable (Y:Std S)
include Y
theorem word_ok (h:Suf b s) (q:Suf b (wordF s).2->Q (.d (.bytes (wordF s).1)) [src b (wordF s).2]):CallOk S (d+3) (.fn 49) [.inst 0 0] [src b s] Q X :=
 CallOk_drop 1 (by exact Nat.le_refl 1) (no_implicit_lambda% c49.run Y.fns rfl (by
  refine barr0 ?_
  refine CallOk_at [0] (next_ok Y h ?_)
  intro P hP
  suffices key:∀ s w:Bs,Suf b s->w.length+s.length<=1000000->(Suf b (wordF s).2->Q (.d (.bytes (w++(wordF s).1))) [src b (wordF s).2])->P [some (.inst 0 0),some (.ref 1),some (.d (headD s))] [src b s.tail,.barr w] from key s [] h (by rw [List.length_nil,Nat.zero_add];exact h.le) q
  intro s
  induction s with
  | nil =>
   intro w h hl q
   have q:=q h
   rw [show (wordF []).1=[] from rfl,List.append_nil] at q
   exact hP _ _ P (fun a b x=>x) ⟨rfl,rfl,bytesB rfl hl ⟨⟨rfl,rfl⟩,q⟩⟩
  | cons c r ih =>
   intro w h hl q
   have hw:w.length < 1000000:=Nat.lt_of_lt_of_le (Nat.lt_add_of_pos_right (Nat.succ_pos _)) hl
   refine hP _ _ P (fun a b x=>x) ⟨rfl,blank_ok Y ?_⟩
   cases hb:blankB c with
   | true =>
    have q:=pkT (P:=fun x:Bs×Bs=>Suf b x.2->Q (.d (.bytes (w++x.1))) [src b x.2]) hb q
    rw [List.append_nil] at q
    refine ⟨rfl,delim_ok Y ?_⟩
    rw [blank_delim hb]
    cases hc:((c.toNat:Int)==13) with
    | true=>exact ifT hc (CallOk_at [0] (skip_ok Y h.tail ⟨rfl,bytesB rfl (Nat.le_of_lt hw) ⟨⟨rfl,rfl⟩,pkT (P:=fun x=>Suf b x->Q (.d (.bytes w)) [src b x]) hc q (skip_suf h.tail)⟩⟩))
    | false=>exact ifF hc (bytesB rfl (Nat.le_of_lt hw) ⟨⟨rfl,rfl⟩,pkF (P:=fun x=>Suf b x->Q (.d (.bytes w)) [src b x]) hc q h.tail⟩)
   | false =>
    have q:=pkF (P:=fun x:Bs×Bs=>Suf b x.2->Q (.d (.bytes (w++x.1))) [src b x.2]) hb q
    refine delim_ok Y ?_
    cases hd:delimB c with
    | true =>
     have q:=pkT (P:=fun x:Bs×Bs=>Suf b x.2->Q (.d (.bytes (w++x.1))) [src b x.2]) hd q h
     rw [List.append_nil] at q
     refine ⟨rfl,delim_ok Y ?_⟩
     rw [hd]
     exact CallOk_at [0] (back_ok Y ⟨rfl,bytesB rfl (Nat.le_of_lt hw) ⟨⟨rfl,rfl⟩,q⟩⟩)
    | false =>
     have q:=pkF (P:=fun x:Bs×Bs=>Suf b x.2->Q (.d (.bytes (w++x.1))) [src b x.2]) hd q
     refine appC rfl hw ⟨rfl,?_⟩
     refine CallOk_at [0] (next_ok Y h.tail ?_)
     exact ih (w++[c]) h.tail (snocL hl) fun k=>by rw [List.append_assoc];exact q k))
theorem sure_ok (h:Suf b s) (x:s=[]->X synE) (q:∀ c r,s=c::r->Suf b r->Q (oc c) [src b r]):CallOk S (d+3) (.fn 50) [.inst 0 0] [src b s] Q X :=
 c50.run Y.fns rfl (by
  refine next_ok Y h ⟨rfl,?_⟩
  cases s with
  | nil=>exact ⟨rfl,x rfl⟩
  | cons c r=>exact q c r rfl h.tail)
theorem octalD_ok {v:Int} (h:Suf b s) (hv:0<=v - 48) (q:Suf b (octalF 2 (v - 48) s).2->Q (.d (.int (octalF 2 (v - 48) s).1)) [src b (octalF 2 (v - 48) s).2]):CallOk S (d+2) (.fn 51) [.inst 0 0,.d (.int v)] [src b s] Q X :=
 c51.run Y.fns rfl (by
  refine ⟨rfl,⟨by decide,by decide⟩,next_ok Y h ⟨rfl,?_⟩⟩
  cases s with
  | nil=>exact ⟨⟨hv,rfl⟩,q h⟩
  | cons c r =>
   refine octal_ok Y ?_
   cases hc:octalB c with
   | false=>exact back_ok Y ⟨rfl,⟨hv,rfl⟩,pkF (P:=fun x:Int×Bs=>Suf b x.2->Q (.d (.int x.1)) [src b x.2]) hc q h⟩
   | true =>
    have q:=pkT (P:=fun x:Int×Bs=>Suf b x.2->Q (.d (.int x.1)) [src b x.2]) hc q
    have h1:=octal_lo hc
    have hv1:0<=8*(v - 48)+c.toNat - 48:=by omega
    refine ⟨.inl (by decide),trivial,next_ok Y h.tail ⟨rfl,?_⟩⟩
    cases r with
    | nil=>exact ⟨⟨hv1,rfl⟩,q h.tail⟩
    | cons c2 r =>
     refine octal_ok Y ?_
     cases hc2:octalB c2 with
     | false=>exact back_ok Y ⟨rfl,⟨hv1,rfl⟩,pkF (P:=fun x:Int×Bs=>Suf b x.2->Q (.d (.int x.1)) [src b x.2]) hc2 q h.tail⟩
     | true =>
      have h2:=octal_lo hc2
      exact ⟨.inl (by decide),trivial,⟨by omega,rfl⟩,pkT (P:=fun x:Int×Bs=>Suf b x.2->Q (.d (.int x.1)) [src b x.2]) hc2 q h.tail.tail⟩)
end
end Mine.C
namespace Mine.C
theorem octalF_lt {k:Nat}:∀ {n:Int} {s:Bs},0<=(octalF k n s).1/\(octalF k n s).1 < 256:=by
 have m:∀ n:Int,0<=n % 256/\n % 256 < 256:=fun n=>⟨Int.emod_nonneg _ (by decide),Int.emod_lt_of_pos _ (by decide)⟩
 induction k with
 | zero=>exact fun {n s}=>m n
 | succ k ih =>
  intro n s
  cases s with
  | nil=>exact m n
  | cons c r =>
   show 0<=(cond (octalB c) (octalF k (8*n+c.toNat - 48) r) (n % 256,c::r)).1/\(cond (octalB c) (octalF k (8*n+c.toNat - 48) r) (n % 256,c::r)).1 < 256
   cases octalB c with
   | true=>exact ih
   | false=>exact m n
noncomputable def strF (n:Nat):Int->Bs->Bs->Option (Option (Bs×Bs)):=n.rec (fun dp w s=>none) fun n ih dp w s=>s.casesOn (some none) fun c r=>cond ((c.toNat:Int)==92) ((escF r).casesOn (some none) fun p=>ih dp (w++p.1) p.2)
 (cond ((c.toNat:Int)==13) (ih dp (w++[10]) (skipFeed r)) (cond ((c.toNat:Int)==40) (ih (dp+1) (w++[c]) r) (cond ((c.toNat:Int)==41) (cond (decide (dp - 1 > 0)) (ih (dp - 1) (w++[c]) r) (some (some (w,r)))) (ih dp (w++[c]) r))))
noncomputable def hexN (c:UInt8):Option Int:=cond (decide ((48:Int)<=c.toNat)&&decide ((c.toNat:Int)<=57)) (some (c.toNat - 48)) (cond (decide ((65:Int)<=c.toNat)&&decide ((c.toNat:Int)<=70)) (some (c.toNat - 55)) (cond (decide ((97:Int)<=c.toNat)&&decide ((c.toNat:Int)<=102)) (some (c.toNat - 87)) none))
noncomputable def optD (o:Option Int):D:=o.casesOn .none fun i => .int i
theorem hexN_lt {c:UInt8} {x:Int} (h:hexN c=some x):0<=x/\x < 16:=by
 have:=octAll (p:=fun c=>(hexN c).casesOn true fun x=>decide (0<=x/\x < 16)) (by decide +kernel) c
 rw [h] at this
 exact of_decide_eq_true this
noncomputable def hexF (s:Bs):Option Int->Bs->Option (Bs×Bs):=s.rec (fun h w=>none) fun c r ih h w=>cond ((c.toNat:Int) != 62) ((hexN c).casesOn (cond (whiteB c) (ih h w) none) fun x=>h.casesOn (ih (some x) w) fun y=>ih none (w++[(16*y+x).toNat.toUInt8])) (some (h.casesOn w fun y=>w++[(16*y).toNat.toUInt8],r))
theorem chainC {a b:Bool} {A B:Prop} (h:cond (a&&b) B A):(a.casesOn A (b.casesOn A B):Prop):=by cases a<;>cases b<;>exact h
section
variable {S:Sx} {d n p:Nat} {hp:Hp} {b s t w:Bs} {c:UInt8} {Q:V->Hp->Prop} {X:Bs->Prop} (Y:Std S)
include Y
theorem esc_ok (h:Suf b s) (hw:w.length < 1000000) (x:escF s=none->X synE) (q:∀ o t,escF s=some (o,t)->Suf b t->Q (.d .none) [src b t,.barr (w++o)]):CallOk S (d+4) (.fn 52) [.inst 0 0,.ref 1] [src b s,.barr w] Q X :=
 CallOk_drop 2 (by exact Nat.le_refl 2) (c52.run Y.fns rfl (by
  refine CallOk_at [0] (sure_ok Y h (fun e=>x (by rw [e];rfl)) fun c r e hr=>?_)
  subst e
  have ef:escF (c::r)=cond (octalB c) (some ([(octalF 2 (c.toNat - 48) r).1.toNat.toUInt8],(octalF 2 (c.toNat - 48) r).2)) (cond ((c.toNat:Int)==13) (some ([],skipFeed r)) (cond ((c.toNat:Int) != 10) (some ([escM c],r)) (some ([],r)))):=rfl
  refine octal_ok Y ?_
  cases hc:octalB c with
  | true =>
   rw [hc] at ef
   refine CallOk_at [0] (octalD_ok Y hr (Int.sub_nonneg.mpr (octal_lo hc)) fun k=>?_)
   exact appB rfl octalF_lt.1 octalF_lt.2 hw ⟨rfl,⟨rfl,rfl⟩,q _ _ ef k⟩
  | false =>
   rw [hc] at ef
   cases h13:((c.toNat:Int)==13) with
   | true =>
    rw [h13] at ef
    have q:=q _ _ ef (skip_suf hr)
    rw [List.append_nil] at q
    exact ifT h13 (CallOk_at [0] (skip_ok Y hr ⟨rfl,⟨rfl,rfl⟩,q⟩))
   | false =>
    rw [h13] at ef
    refine ifF h13 ?_
    cases h10:((c.toNat:Int) != 10) with
    | true =>
     rw [h10] at ef
     refine ifT h10 (getD2 rfl ?_)
     have q:=q _ _ ef hr
     have e:=escL_get c
     unfold escL at e
     rw [e]
     exact appC rfl hw ⟨rfl,⟨rfl,rfl⟩,q⟩
    | false =>
     rw [h10] at ef
     have q:=q _ _ ef hr
     rw [List.append_nil] at q
     exact ifF h10 ⟨⟨rfl,rfl⟩,q⟩))
theorem hex_ok (q:Q (.d (optD (hexN c))) hp):CallOk S (d+1) (.fn 6) [oc c] hp Q X :=
 c6.run Y.fns rfl (by
  refine chainC ?_
  cases h1:(decide ((48:Int)<=c.toNat)&&decide ((c.toNat:Int)<=57)) with
  | true=>exact pkT (P:=fun o=>Q (.d (optD o)) hp) h1 q
  | false =>
   have q:=pkF (P:=fun o=>Q (.d (optD o)) hp) h1 q
   refine chainC ?_
   cases h2:(decide ((65:Int)<=c.toNat)&&decide ((c.toNat:Int)<=70)) with
   | true=>exact pkT (P:=fun o=>Q (.d (optD o)) hp) h2 q
   | false =>
    have q:=pkF (P:=fun o=>Q (.d (optD o)) hp) h2 q
    refine chainC ?_
    cases h3:(decide ((97:Int)<=c.toNat)&&decide ((c.toNat:Int)<=102)) with
    | true=>exact pkT (P:=fun o=>Q (.d (optD o)) hp) h3 q
    | false=>exact pkF (P:=fun o=>Q (.d (optD o)) hp) h3 q)
end
end Mine.C
namespace Mine.C
section
variable {S:Sx} {d n p:Nat} {hp:Hp} {b s t w:Bs} {c:UInt8} {Q:V->Hp->Prop} {X:Bs->Prop} (Y:Std S)
include Y
theorem esc_len {s o t:Bs} (h:escF s=some (o,t)):o.length<=1:=by
 cases s with
 | nil=>exact nomatch h
 | cons c r =>
  have h:cond (octalB c) (some ([(octalF 2 (c.toNat - 48) r).1.toNat.toUInt8],(octalF 2 (c.toNat - 48) r).2)) (cond ((c.toNat:Int)==13) (some ([],skipFeed r)) (cond ((c.toNat:Int) != 10) (some ([escM c],r)) (some ([],r))))=some (o,t):=h
  refine boolE (b:=octalB c) (fun hc=>?_) fun hc=>by rw [hc] at h;cases h;exact Nat.le_refl 1
  rw [hc] at h
  refine boolE (b:=((c.toNat:Int)==13)) (fun h1=>?_) fun h1=>by rw [h1] at h;cases h;exact Nat.zero_le 1
  rw [h1] at h
  cases h2:((c.toNat:Int) != 10) with
  | true=>rw [h2] at h;cases h;exact Nat.le_refl 1
  | false=>rw [h2] at h;cases h;exact Nat.zero_le 1
theorem str_ok {o:Option (Bs×Bs)} (h:Suf b s) (hn:n<=1000000) (e:strF n 1 [] s=some o) (x:o=none->X synE) (q:∀ w t,o=some (w,t)->Suf b t->Q (.d (.bytes w)) [src b t]):CallOk S (d+5) (.fn 53) [.inst 0 0] [src b s] Q X :=
 CallOk_drop 1 (by exact Nat.le_refl 1) (c53.run Y.fns rfl (by
  refine barr0 ⟨rfl,?_⟩
  intro P hP
  suffices key:∀ (n:Nat) (s w:Bs) (dp:Int) (v:Option V),Suf b s->w.length+n<=1000000->0 < dp->strF n dp w s=some o->P [some (.inst 0 0),some (.ref 1),some (.d (.int dp)),v] [src b s,.barr w] from key n s [] 1 none h (by rw [List.length_nil,Nat.zero_add];exact hn) (by decide) e
  intro n
  induction n with
  | zero=>exact fun s w dp v h hl h0 e=>nomatch e
  | succ n ih =>
   intro s w dp v h hl h0 e
   have hw:w.length < 1000000:=Nat.lt_of_lt_of_le (Nat.lt_add_of_pos_right (Nat.succ_pos _)) hl
   have h1:∀ z:UInt8,(w++[z]).length+n<=1000000:=fun z=>snocL hl
   refine hP _ _ P (fun a b x=>x) (ifT (decide_eq_true h0) ?_)
   refine CallOk_at [0] (sure_ok Y h (fun z=>x (by subst z;exact (Option.some.inj e).symm)) fun c r z hr=>?_)
   subst z
   cases c92:((c.toNat:Int)==92) with
   | true =>
    have e:=pkT (P:=fun x=>x=some o) c92 e
    refine ifT c92 ?_
    cases he:escF r with
    | none =>
     rw [he] at e
     exact esc_ok Y hr hw (fun z=>x (Option.some.inj e).symm) fun a t z=>nomatch he.symm.trans z
    | some p =>
     rw [he] at e
     refine esc_ok Y hr hw (fun z=>nomatch he.symm.trans z) fun a t z k=>⟨rfl,?_⟩
     cases he.symm.trans z
     exact ih _ _ _ _ k (by rw [List.length_append,Nat.add_assoc];exact Nat.le_trans (Nat.add_le_add_left (Nat.add_le_add_right (esc_len Y he) n) _) (by rw [Nat.add_comm 1];exact hl)) h0 e
   | false =>
    have e:=pkF (P:=fun x=>x=some o) c92 e
    refine ifF c92 ?_
    cases c13:((c.toNat:Int)==13) with
    | true =>
     have e:=pkT (P:=fun x=>x=some o) c13 e
     refine ifT c13 (CallOk_at [0] (skip_ok Y hr ⟨rfl,?_⟩))
     refine ifT (decide_eq_true h0) (appB rfl (by decide) (by decide) hw ⟨rfl,?_⟩)
     exact ih _ _ _ _ (skip_suf hr) (h1 10) h0 e
    | false =>
     have e:=pkF (P:=fun x=>x=some o) c13 e
     refine ifF c13 ?_
     cases c40:((c.toNat:Int)==40) with
     | true =>
      have e:=pkT (P:=fun x=>x=some o) c40 e
      have h2:0 < dp+1:=Int.lt_trans h0 (Int.lt_add_one_of_le (Int.le_refl _))
      have c41:((c.toNat:Int)==41)=false:=by rw [beq_iff_eq.mp c40];rfl
      exact ifT c40 (ifF c41 (ifT (decide_eq_true h2) (appC rfl hw ⟨rfl,ih _ _ _ _ hr (h1 c) h2 e⟩)))
     | false =>
      have e:=pkF (P:=fun x=>x=some o) c40 e
      refine ifF c40 ?_
      cases c41:((c.toNat:Int)==41) with
      | true =>
       have e:=pkT (P:=fun x=>x=some o) c41 e
       refine ifT c41 ?_
       refine boolE (b:=decide (dp - 1 > 0)) (fun h2=>?_) fun h2=>by exact ifT h2 (appC rfl hw ⟨rfl,ih _ _ _ _ hr (h1 c) (of_decide_eq_true h2) (pkT (P:=fun x=>x=some o) h2 e)⟩)
       have e:=Option.some.inj (pkF (P:=fun x=>x=some o) h2 e)
       refine ifF h2 (hP _ _ P (fun a b x=>x) (ifF h2 (bytesB rfl (Nat.le_of_lt hw) ⟨⟨rfl,rfl⟩,q _ _ e.symm hr⟩)))
      | false=>exact ifF c41 (ifT (decide_eq_true h0) (appC rfl hw ⟨rfl,ih _ _ _ _ hr (h1 c) h0 (pkF (P:=fun x=>x=some o) c41 e)⟩))))
theorem hexs_ok (h:Suf b s) (x:hexF s none []=none->X synE) (q:∀ w t,hexF s none []=some (w,t)->Suf b t->Q (.d (.bytes w)) [src b t]):CallOk S (d+4) (.fn 54) [.inst 0 0] [src b s] Q X :=
 CallOk_drop 1 (by exact Nat.le_refl 1) (c54.run Y.fns rfl (by
  refine barr0 ⟨rfl,?_⟩
  refine CallOk_at [0] (sure_ok Y h (fun z=>x (by rw [z];rfl)) fun c r z h'=>?_)
  intro P hP
  suffices key:∀ (m:Nat) (r:Bs) (c:UInt8) (hi:Option Int) (w:Bs) (v:Option V),r.length < m->Suf b r->w.length+r.length < 1000000->(∀ y,hi=some y->0<=y/\y < 16)->(hexF (c::r) hi w=none->X synE)->(∀ w' t,hexF (c::r) hi w=some (w',t)->Suf b t->Q (.d (.bytes w')) [src b t])->P [some (.inst 0 0),some (.ref 1),some (.d (optD hi)),some (oc c),v] [src b r,.barr w] from
   key _ r c none [] none (Nat.lt_succ_self _) h' (by rw [List.length_nil,Nat.zero_add];have:=z▸h.le;exact this) (fun y e=>nomatch e) (z▸x) (z▸q)
  intro m
  induction m with
  | zero=>exact fun r c hi w v hm=>absurd hm (Nat.not_lt_zero _)
  | succ m ih =>
   intro r c hi w v hm h hl hb x q
   have nx:∀ (hi:Option Int) (w:Bs) (v:Option V),w.length+r.length<=1000000->(∀ y,hi=some y->0<=y/\y < 16)->(hexF r hi w=none->X synE)->(∀ w' t,hexF r hi w=some (w',t)->Suf b t->Q (.d (.bytes w')) [src b t]) ->
     CallOk S (d+3) (.fn 50) [.inst 0 0] [src b r,.barr w] (fun o hp=>P [some (.inst 0 0),some (.ref 1),some (.d (optD hi)),some o,v] hp) X:=fun hi w v hl hb x q=>by
    refine CallOk_at [0] (sure_ok Y h (fun z=>x (by rw [z];rfl)) fun c2 r2 z h2=>?_)
    subst z
    exact ih r2 c2 hi w v (Nat.lt_of_succ_lt_succ hm) h2 hl hb x q
   have hw:w.length < 1000000:=Nat.lt_of_le_of_lt (Nat.le_add_right _ _) hl
   refine hP _ _ P (fun a b x=>x) ?_
   cases c62:((c.toNat:Int) != 62) with
   | false =>
    have e:hexF (c::r) hi w=some (hi.casesOn w fun y=>w++[(16*y).toNat.toUInt8],r):=pkF (P:=fun x=>hexF (c::r) hi w=x) c62 rfl
    refine ifF c62 ⟨rfl,?_⟩
    cases hi with
    | none=>exact bytesB rfl (Nat.le_of_lt hw) ⟨⟨rfl,rfl⟩,q _ _ e h⟩
    | some y =>
     have hy:=hb y rfl
     have h0:0<=16*y/\16*y < 256:=by omega
     exact ⟨.inl (by decide),appB rfl h0.1 h0.2 hw ⟨rfl,bytesB rfl (snocL (n:=0) hw) ⟨⟨rfl,rfl⟩,q _ _ e h⟩⟩⟩
   | true =>
    have e:hexF (c::r) hi w=((hexN c).casesOn (cond (whiteB c) (hexF r hi w) none) fun x=>hi.casesOn (hexF r (some x) w) fun y=>hexF r none (w++[(16*y+x).toNat.toUInt8]):Option (Bs×Bs)):=pkT (P:=fun x=>hexF (c::r) hi w=x) c62 rfl
    refine ifT c62 (hex_ok Y ?_)
    cases hx:hexN c with
    | none =>
     rw [hx] at e
     refine ⟨rfl,white_ok Y ?_⟩
     cases hwc:whiteB c with
     | false =>
      rw [hwc] at e
      exact ⟨rfl,x e⟩
     | true =>
      rw [hwc] at e
      have e:hexF (c::r) hi w=hexF r hi w:=e
      rw [e] at x q
      exact ⟨rfl,rfl,nx hi w _ (Nat.le_of_lt hl) hb x q⟩
    | some y =>
     rw [hx] at e
     refine ⟨rfl,rfl,rfl,?_⟩
     cases hi with
     | none =>
      have e:hexF (c::r) none w=hexF r (some y) w:=e
      rw [e] at x q
      exact nx (some y) w _ (Nat.le_of_lt hl) (fun z hz=>Option.some.inj hz▸hexN_lt hx) x q
     | some u =>
      have e:hexF (c::r) (some u) w=hexF r none (w++[(16*u+y).toNat.toUInt8]):=e
      rw [e] at x q
      have hu:=hb u rfl
      have hy:=hexN_lt hx
      have h0:0<=16*u+y/\16*u+y < 256:=by omega
      exact ⟨rfl,.inl (by decide),appB rfl h0.1 h0.2 hw ⟨rfl,nx none (w++[(16*u+y).toNat.toUInt8]) _ (snocL hl) (fun z e=>nomatch e) x q⟩⟩))
end
end Mine.C
namespace Mine.C
noncomputable def textD (n:Int) (w:Bs):D := .obj 6 [.int n,.barr w,.bool false,.int 0]
noncomputable def rowD (n:Int) (l:List D):D := .obj 7 [.int n,.list l,.bool false,.int 0]
noncomputable def spanD (x:D) (k:Nat):D := .obj 8 [x,.int 0,.int k]
noncomputable def thingD (k:Nat) (x:D) (ex:Bool):D := .obj 5 [.str k,x,.bool ex,.int 3]
section
variable {S:Sx} {d n k:Nat} {hp:Hp} {w:Bs} {l:List D} {x:D} {i:Int} {ex:Bool} {Q:V->Hp->Prop} {X:Bs->Prop} (Y:Std S)
include Y
theorem spanNew (q:Q (.d (spanD x n)) []):CallOk S (d+2) (.cls 8) [.d x,.d (.int 0),.d (.int n)] [] Q X :=
 CallOk_drop 0 (by exact Nat.le_refl 0) (CallOk_shut (make_ok Y.cls (c26.run Y.fns rfl (by exact ⟨rfl,.mk (xs:=[x,.int 0,.int n]) rfl ⟨⟨rfl,rfl⟩,q⟩⟩))))
theorem thing2 (q:Q (.d (thingD k x false)) []):CallOk S (d+2) (.cls 5) [.d (.str k),.d x] [] Q X :=
 CallOk_drop 0 (by exact Nat.le_refl 0) (CallOk_shut (make_ok Y.cls (c23a.run Y.fns rfl (by exact ⟨rfl,.mk (xs:=[.str k,x,.bool false,.int 3]) rfl ⟨⟨rfl,rfl⟩,q⟩⟩))))
theorem thing3 (q:Q (.d (thingD k x ex)) []):CallOk S (d+2) (.cls 5) [.d (.str k),.d x,.d (.bool ex)] [] Q X :=
 CallOk_drop 0 (by exact Nat.le_refl 0) (CallOk_shut (make_ok Y.cls (c23b.run Y.fns rfl (by exact ⟨rfl,.mk (xs:=[.str k,x,.bool ex,.int 3]) rfl ⟨⟨rfl,rfl⟩,q⟩⟩))))
theorem thing4 (q:Q (.d (thingD k x ex)) []):CallOk S (d+2) (.cls 5) [.d (.str k),.d x,.d (.bool ex),.d (.int 3)] [] Q X :=
 CallOk_drop 0 (by exact Nat.le_refl 0) (CallOk_shut (make_ok Y.cls (c23.run Y.fns rfl (by exact ⟨rfl,.mk (xs:=[.str k,x,.bool ex,.int 3]) rfl ⟨⟨rfl,rfl⟩,q⟩⟩))))
theorem textNew (hw:w.length<=1000000) (q:Q (.d (textD i w)) []):CallOk S (d+2) (.cls 6) [.d (.int i),.d (.bytes w),.d (.bool false),.d (.int 0)] [] Q X :=
 CallOk_drop 0 (by exact Nat.le_refl 0) (CallOk_shut (CallOk_shutB (b:=w) (make_ok Y.cls (c24.run Y.fns rfl (by
  refine barr1 hw ?_
  exact ⟨rfl,.mk (a:=[.d (.int i)]) (b:=[.d (.bool false),.d (.int 0)]) rfl rfl (.mk (xs:=[.int i,.barr w,.bool false,.int 0]) rfl ⟨⟨rfl,rfl⟩,q⟩)⟩)))))
theorem rowNew (hl:l.length<=1000000) (q:Q (.d (rowD i l)) [.list l]):CallOk S (d+2) (.cls 7) [.d (.int i),.ref 0,.d (.bool false),.d (.int 0)] [.list l] Q X :=
 CallOk_drop 1 (by exact Nat.le_refl 1) (CallOk_shut (CallOk_shutL (l:=l) (make_ok Y.cls (c25.run Y.fns rfl (by
  refine listOk rfl hl ?_
  exact ⟨rfl,.mk (a:=[.d (.int i)]) (b:=[.d (.bool false),.d (.int 0)]) rfl rfl (.mk (xs:=[.int i,.list l,.bool false,.int 0]) rfl ⟨⟨rfl,rfl⟩,q⟩)⟩)))))
theorem intT_ok (q:Q (.d (thingD 63 (.int i) false)) []):CallOk S (d+3) (.fn 27) [.d (.int i)] [] Q X:=c27.run Y.fns rfl (by exact thing2 Y q)
theorem realT_ok (q:Q (.d (thingD 64 (.int i) false)) []):CallOk S (d+3) (.fn 28) [.d (.int i)] [] Q X:=c28.run Y.fns rfl (by exact thing2 Y q)
theorem nameT_ok (q:Q (.d (thingD 65 (.bytes w) ex)) []):CallOk S (d+3) (.fn 29) [.d (.bytes w),.d (.bool ex)] [] Q X:=c29.run Y.fns rfl (by exact thing3 Y q)
theorem stringT_ok (hw:w.length<=1000000) (q:Q (.d (thingD 48 (spanD (textD i w) w.length) false)) []):CallOk S (d+3) (.fn 31) [.d (textD i w)] [] Q X:=c31.run Y.fns rfl (by exact lenFB hw (spanNew Y (thing4 Y q)))
theorem rowT_ok (hl:l.length<=1000000) (q:Q (.d (thingD 66 (spanD (rowD i l) l.length) true)) []):CallOk S (d+3) (.fn 32) [.d (rowD i l),.d (.bool true)] [] Q X:=c32.run Y.fns rfl (by exact lenFL hl (spanNew Y (thing4 Y q)))
end
structure Mm where
 made:List (Int×D)
 used:Int
 last:Int
structure MOk (m:Mm) (k:Nat):Prop where
 made:m.made.length<=k
 used:0<=m.used/\m.used<=1000*k
 few:k<=900
noncomputable def limD:D := .obj 4 [.int 500,.int 20,.int 250,.int 15,.int 31,.int 65535,.int 65535,.int 65535,.int 127,.int 1500,.int 11,.int 15,.int 600,.int 16777216]
noncomputable def memN (m:Mm):O := .ns 3 [.d limD,.d (.bool false),.ref 1,.ref 2,.ref 3,.ref 4,.d (.int m.used),.d (.int 0),.d (.int m.last),.d (.int 0)]
noncomputable def memH (m:Mm):Hp:=[memN m,.list [],.list [],.idict m.made,.list []]
noncomputable def Mm.take (m:Mm) (c:Int):Mm:=⟨sto m.made (m.last+1) (.tup [.int c,.bool false,.int 0]),m.used+c,m.last+1⟩
theorem sto_len {α γ:Type} [DecidableEq α] {fs:List (α×γ)} {k:α} {v:γ}:(sto fs k v).length<=fs.length+1:=by
 unfold sto
 cases has fs k with
 | true=>exact Nat.le_succ_of_le (Nat.le_of_eq (List.length_map ..))
 | false=>exact Nat.le_of_eq (List.length_append ..)
theorem MOk.take {m:Mm} {k:Nat} {c:Int} (h:MOk m k) (hk:k < 900) (h0:0<=c) (h1:c<=1000):MOk (m.take c) (k+1) :=
 ⟨Nat.le_trans sto_len (Nat.succ_le_succ h.made),⟨Int.add_nonneg h.used.1 h0,by have:=h.used.2;show m.used+c<=_;omega⟩,hk⟩
section
variable {S:Sx} {d n k:Nat} {hp:Hp} {w:Bs} {l:List D} {x:D} {i c:Int} {ex:Bool} {m:Mm} {Q:V->Hp->Prop} {X:Bs->Prop} (Y:Std S)
include Y
theorem level_ok (q:Q (.d (.int 0)) (memH m)):CallOk S (d+3) (.fn 85) [.inst 3 0] (memH m) Q X:=c85.run Y.fns rfl (by exact ⟨rfl,⟨rfl,rfl⟩,Nat.zero_le _,q⟩)
theorem room_ok (h:MOk m k) (hc:c<=1000) (q:Q (.d .none) (memH m)):CallOk S (d+1) (.fn 87) [.inst 3 0,.d (.int c)] (memH m) Q X :=
 c87.run Y.fns rfl (by
  refine ifF (decide_eq_false (Int.not_lt.mpr ?_)) q
  have h1:=h.used.2
  have h2:=h.few
  show m.used+0+c<=16777216
  omega)
theorem take_ok (h:MOk m k) (hc:c<=1000) (q:Q (.d (.int (m.last+1))) (memH (m.take c))):CallOk S (d+4) (.fn 86) [.inst 3 0,.d (.int c)] (memH m) Q X :=
 c86.run Y.fns rfl (by
  refine room_ok Y h hc ⟨rfl,level_ok (m:=⟨m.made,m.used,m.last+1⟩) Y ?_⟩
  exact ⟨show 3<=1000 by decide,Nat.le_trans h.made (Nat.le_trans h.few (by decide)),q⟩)
theorem many_ok (h0:0<=i) (h1:i<=c) (q:Q (.d .none) hp):CallOk S (d+1) (.fn 114) [.d (.int i),.d (.int c)] hp Q X :=
 c114.run Y.fns rfl (by exact ifF (decide_eq_false (Int.not_lt.mpr h0)) (ifF (decide_eq_false (Int.not_lt.mpr h1)) q))
theorem textOf_ok (h:MOk m k) (hw:w.length<=1000) (q:Q (.d (textD (m.last+1) w)) (memH (m.take w.length))):CallOk S (d+5) (.fn 89) [.inst 3 0,.d (.bytes w)] (memH m) Q X :=
 c89.run Y.fns rfl (by
  have hz:w.length<=1000000000:=Nat.le_trans hw (by decide)
  have hi:(w.length:Int)<=1000:=Int.ofNat_le.mpr hw
  refine lenB hz (many_ok Y (Int.natCast_nonneg _) (Int.le_trans hi (by decide)) ⟨rfl,?_⟩)
  refine lenB hz (take_ok Y h hi ?_)
  refine level_ok (m:=m.take w.length) Y ?_
  exact CallOk_at [] (textNew Y (Nat.le_trans hw (by decide)) q))
end
end Mine.C
namespace Mine.C
section
variable {σ:Type} {b:List Stx} {d:Nat} {C:CallP} {K:Kt} {X:Bs->Prop} {st:Hp->Prop}
theorem for_run {α:Type} {g:α->Loc->Loc} (L:σ->Loc) (H:σ->Hp) (I:List α->σ->Prop) (hn:∀ s,I [] s->K.next (L s) (H s))
  (hs:∀ x r s,I (x::r) s->(∀ s',I r s'->forG g b d C K X st r (L s') (H s'))->Wss b d C (g x (L s)) (H s) ⟨fun loc hp=>st hp/\forG g b d C K X st r loc hp,K.next,fun loc hp=>st hp/\forG g b d C K X st r loc hp,K.ret⟩ X) (l:List α):∀ s,I l s->forG g b d C K X st l (L s) (H s):=by
 induction l with
 | nil=>exact hn
 | cons x r ih=>exact fun s i=>hs x r s i ih
theorem for_oct {g:D->Loc->Loc} (L:σ->Loc) (H:σ->Hp) (I:Bs->σ->Prop) (hn:∀ s,I [] s->K.next (L s) (H s))
  (hs:∀ c r s,I (c::r) s->(∀ s',I r s'->forG g b d C K X st (octs r) (L s') (H s'))->Wss b d C (g (.int c.toNat) (L s)) (H s) ⟨fun loc hp=>st hp/\forG g b d C K X st (octs r) loc hp,K.next,fun loc hp=>st hp/\forG g b d C K X st (octs r) loc hp,K.ret⟩ X) (l:Bs):∀ s,I l s->forG g b d C K X st (octs l) (L s) (H s):=by
 induction l with
 | nil=>exact hn
 | cons x r ih=>exact fun s i=>hs x r s i ih
noncomputable def numK (k:Nat) (b:Bs):List (Nat×UInt8):=(b.zipIdx k).map fun p=>(p.2,p.1)
theorem for_num {g:Nat×UInt8->Loc->Loc} (L:σ->Loc) (H:σ->Hp) (I:Nat->Bs->σ->Prop) (hn:∀ k s,I k [] s->K.next (L s) (H s))
  (hs:∀ k c r s,I k (c::r) s->(∀ s',I (k+1) r s'->forG g b d C K X st (numK (k+1) r) (L s') (H s'))->Wss b d C (g (k,c) (L s)) (H s) ⟨fun loc hp=>st hp/\forG g b d C K X st (numK (k+1) r) loc hp,K.next,fun loc hp=>st hp/\forG g b d C K X st (numK (k+1) r) loc hp,K.ret⟩ X) (l:Bs):∀ k s,I k l s->forG g b d C K X st (numK k l) (L s) (H s):=by
 induction l with
 | nil=>exact hn
 | cons x r ih=>exact fun k s i=>hs k x r s i (ih (k+1))
end
noncomputable def digN (c:UInt8):Option Int:=cond (decide ((48:Int)<=c.toNat)&&decide ((c.toNat:Int)<=57)) (some (c.toNat - 48)) (cond (decide ((65:Int)<=c.toNat)&&decide ((c.toNat:Int)<=90)) (some (c.toNat - 55)) (cond (decide ((97:Int)<=c.toNat)&&decide ((c.toNat:Int)<=122)) (some (c.toNat - 87)) none))
noncomputable def figG (base:Int) (b:Bs):Int->Option Int:=b.rec (fun a=>some a) fun c r ih a=>(digN c).casesOn none fun x=>cond (decide (x>=base)) none (ih (a*base+x))
noncomputable def figF (base:Int) (b:Bs):Option Int:=cond ((b.length:Int)==0) none (figG base b 0)
noncomputable def sgnW (n:Int):Int:=cond (decide (n % 4294967296<=2147483647)) (n % 4294967296) (n % 4294967296 - 4294967296)
noncomputable def numD (o:Option (Nat×Int)):D:=o.casesOn .none fun p => .tup [.str p.1,.int p.2]
noncomputable def radF (b:Bs) (k:Int):Option (Option (Nat×Int)):=(figF 10 (cutL b none (some k))).casesOn (some none) fun x=>cond (decide (k > 2)) (some none) (cond (decide ((2:Int)<=x)&&decide (x<=36)) ((figF x (cutL b (some (k+1)) none)).casesOn (some none) fun y=>cond (decide (y>=4294967296)) none (some (some (63,sgnW y)))) (some none))
section
variable {S:Sx} {d n k:Nat} {hp:Hp} {b:Bs} {i j base:Int} {c:UInt8} {Q:V->Hp->Prop} {X:Bs->Prop} (Y:Std S)
include Y
theorem dig_ok (q:Q (.d (optD (digN c))) hp):CallOk S (d+1) (.fn 7) [oc c] hp Q X :=
 c7.run Y.fns rfl (by
  refine chainC ?_
  cases h1:(decide ((48:Int)<=c.toNat)&&decide ((c.toNat:Int)<=57)) with
  | true=>exact pkT (P:=fun o=>Q (.d (optD o)) hp) h1 q
  | false =>
   have q:=pkF (P:=fun o=>Q (.d (optD o)) hp) h1 q
   refine chainC ?_
   cases h2:(decide ((65:Int)<=c.toNat)&&decide ((c.toNat:Int)<=90)) with
   | true=>exact pkT (P:=fun o=>Q (.d (optD o)) hp) h2 q
   | false =>
    have q:=pkF (P:=fun o=>Q (.d (optD o)) hp) h2 q
    refine chainC ?_
    cases h3:(decide ((97:Int)<=c.toNat)&&decide ((c.toNat:Int)<=122)) with
    | true=>exact pkT (P:=fun o=>Q (.d (optD o)) hp) h3 q
    | false=>exact pkF (P:=fun o=>Q (.d (optD o)) hp) h3 q)
theorem fig_ok (hz:b.length<=1000000000) (hb:base.natAbs < 2 ^ 63) (q:Q (.d (optD (figF base b))) hp):CallOk S (d+2) (.fn 14) [.d (.bytes b),.d (.int base)] hp Q X :=
 c14.run Y.fns rfl (by
  refine lenB hz ?_
  refine boolE (b:=((b.length:Int)==0)) (fun h0=>?_) fun h0=>by exact ifT h0 (pkT (P:=fun o=>Q (.d (optD o)) hp) h0 q)
  have q:=pkF (P:=fun o=>Q (.d (optD o)) hp) h0 q
  refine ifF h0 ?_
  refine for_oct (fun s:Int×Option V×Option V=>[some (.d (.bytes b)),some (.d (.int base)),some (.d (.int s.1)),s.2.1,s.2.2]) (fun s=>hp) (fun l s=>Q (.d (optD (figG base l s.1))) hp) (fun s q=>q) (fun c r s q ih=>?_) b (0,none,none) q
  refine dig_ok Y ?_
  cases hx:digN c with
  | none =>
   have q:Q (.d (optD ((digN c).casesOn none fun x=>cond (decide (x>=base)) none (figG base r (s.1*base+x))))) hp:=q
   rw [hx] at q
   exact ⟨rfl,q⟩
  | some x =>
   have q:Q (.d (optD ((digN c).casesOn none fun x=>cond (decide (x>=base)) none (figG base r (s.1*base+x))))) hp:=q
   rw [hx] at q
   refine ⟨rfl,?_⟩
   cases h:decide (x>=base) with
   | true=>exact orT' h (pkT (P:=fun o=>Q (.d (optD o)) hp) h q)
   | false=>exact orF h ⟨.inr hb,trivial,ih (s.1*base+x,_,_) (pkF (P:=fun o=>Q (.d (optD o)) hp) h q)⟩)
theorem sgn_ok (q:Q (.d (.int (sgnW i))) hp):CallOk S (d+1) (.fn 16) [.d (.int i)] hp Q X :=
 c16.run Y.fns rfl (by
  refine ⟨by decide,?_⟩
  cases h:decide (i % 4294967296<=2147483647) with
  | true=>exact ifT h (pkT (P:=fun o=>Q (.d (.int o)) hp) h q)
  | false=>exact ifF h (pkF (P:=fun o=>Q (.d (.int o)) hp) h q))
end
end Mine.C
namespace Mine.C
theorem cut_len {α:Type} {l:List α} {i j:Option Int}:(cutL l i j).length<=l.length:=Nat.le_trans (by unfold cutL;rw [List.length_drop];exact Nat.sub_le _ _) (List.length_take_le' _ _)
theorem chainN {a b:Bool} {A B:Prop} (h:cond (a&&b) B A):(a.casesOn A (cond ((!b)==true) A B):Prop):=by cases a<;>cases b<;>exact h
noncomputable def absV (v:Int):Int:=if v < 0 then -v else v
noncomputable def chkF (v:Int):Option Int:=cond (decide (absV v > 1000000000000000000000)) none (some v)
noncomputable def wholeF (n:Int):Option (Nat×Int):=cond (decide (-2147483648<=n)&&decide (n<=2147483647)) (some (63,n)) ((chkF (n*1000000)).casesOn none fun v=>some (64,v))
noncomputable def top1 (b:Bs):Bs:=cutL b none (some 1)
noncomputable def begI (b:Bs):Int:=cond (top1 b==[43]||(top1 b==[45]||false)) 1 0
noncomputable def minV (x y:Int):Int:=if y < x then y else x
noncomputable def expF (b:Bs):Option Int:=(figF 10 (cutL b (some (begI b)) none)).casesOn none fun x=>some (cond (top1 b==[45]) (-minV x 1000000) (minV x 1000000))
noncomputable def sclF (n t:Int):Option Int:=cond (n==0) (some 0) (cond (decide (t>=0)) (cond (decide (t > 32)) none (cond (Nat.blt n.natAbs (2 ^ 63)) (chkF (n*10 ^ t.toNat)) none)) none)
noncomputable def splG (s b:Bs):Nat->Option Nat:=b.rec (fun k=>none) fun c r ih k=>cond (octIn c.toNat s) (some k) (ih (k+1))
noncomputable def splP (b s:Bs):Bs×Option Bs:=(splG s b 0).casesOn (b,none) fun k=>(cutL b none (some k),some (cutL b (some (k+1)) none))
noncomputable def optB (o:Option Bs):D:=o.casesOn .none fun b => .bytes b
noncomputable def negI (n:Bool) (v:Int):Int:=cond n (-v) v
theorem ite_q {P:V->Prop} {b:Bool} {x y:V} (h:P (cond b x y)):(b.casesOn (P y) (P x):Prop):=by cases b<;>exact h
section
variable {S:Sx} {d n:Nat} {hp:Hp} {b s:Bs} {i j k v t:Int} {c:UInt8} {Q:V->Hp->Prop} {X:Bs->Prop} (Y:Std S)
include Y
theorem rad_ok {o:Option (Nat×Int)} (hz:b.length<=1000000) (hk:0<=k) (e:radF b k=some o) (q:Q (.d (numD o)) hp):CallOk S (d+3) (.fn 15) [.d (.bytes b),.d (.int k)] hp Q X :=
 c15.run Y.fns rfl (by
  have hz2:b.length<=16777216:=Nat.le_trans hz (by decide)
  have hc:∀ i j,(cutL b i j).length<=1000000000:=fun i j=>Nat.le_trans cut_len (Nat.le_trans hz (by decide))
  unfold radF at e
  refine ⟨hk,hz2,fig_ok Y (hc _ _) (by decide) ?_⟩
  cases hx:figF 10 (cutL b none (some k)) with
  | none=>rw [hx] at e;cases e;exact ⟨rfl,q⟩
  | some x =>
   rw [hx] at e
   refine ⟨rfl,?_⟩
   refine boolE (b:=decide (k > 2)) (fun h1=>?_) fun h1=>by cases pkT (P:=fun z=>z=some o) h1 e;exact orT' h1 q
   have e:=pkF (P:=fun z=>z=some o) h1 e
   refine orF h1 (chainN ?_)
   cases h2:(decide ((2:Int)<=x)&&decide (x<=36)) with
   | false=>cases pkF (P:=fun z=>z=some o) h2 e;exact q
   | true =>
    have e:=pkT (P:=fun z=>z=some o) h2 e
    have hx2:x.natAbs < 2 ^ 63:=by have:=of_decide_eq_true (Bool.and_eq_true_iff.mp h2).1;have:=of_decide_eq_true (Bool.and_eq_true_iff.mp h2).2;omega
    refine ⟨Int.add_nonneg hk (by decide),hz2,fig_ok Y (hc _ _) hx2 ?_⟩
    cases hy:figF x (cutL b (some (k+1)) none) with
    | none=>rw [hy] at e;cases e;exact ⟨rfl,q⟩
    | some y =>
     rw [hy] at e
     refine ⟨rfl,?_⟩
     refine boolE (b:=decide (y>=4294967296)) (fun h3=>?_) fun h3=>by exact nomatch pkT (P:=fun z=>z=some o) h3 e
     cases pkF (P:=fun z=>z=some o) h3 e
     exact ifF h3 (sgn_ok Y ⟨show 2<=1000 by decide,q⟩))
theorem chk_ok (e:chkF v=some j) (q:Q (.d (.int j)) hp):CallOk S (d+1) (.fn 11) [.d (.int v)] hp Q X :=
 c11.run Y.fns rfl (by
  refine absI ?_
  cases h:decide (absV v > 1000000000000000000000) with
  | true=>exact nomatch pkT (P:=fun z=>z=some j) h e
  | false=>cases pkF (P:=fun z=>z=some j) h e;exact ifF h q)
theorem size_ok (q:Q (.d (.bool (decide (-2147483648<=v)&&decide (v<=2147483647)))) hp):CallOk S (d+1) (.fn 10) [.d (.int v)] hp Q X :=
 c10.run Y.fns rfl (by exact and2 (P:=fun r=>Q (.d (.bool r)) hp) q)
theorem whole_ok {o:Nat×Int} (e:wholeF v=some o) (q:Q (.d (numD (some o))) hp):CallOk S (d+3) (.fn 13) [.d (.int v)] hp Q X :=
 c13.run Y.fns rfl (by
  refine size_ok Y ?_
  cases h:(decide (-2147483648<=v)&&decide (v<=2147483647)) with
  | true=>cases pkT (P:=fun z=>z=some o) h e;exact ⟨show 2<=1000 by decide,q⟩
  | false =>
   have e:=pkF (P:=fun z=>z=some o) h e
   refine c12.run Y.fns rfl ⟨.inr (by decide),?_⟩
   refine optE (o:=chkF (v*1000000)) (fun hx=>by rw [hx] at e;exact nomatch e) fun u hx=>?_
   rw [hx] at e;cases e
   exact chk_ok Y hx ⟨show 2<=1000 by decide,q⟩)
theorem top_lt (hz:b.length<=1000000):b.length<=16777216:=Nat.le_trans hz (by decide)
theorem exp_ok (hz:b.length<=1000000) (q:Q (.d (optD (expF b))) hp):CallOk S (d+3) (.fn 17) [.d (.bytes b)] hp Q X :=
 c17.run Y.fns rfl (by
  have hz2:=top_lt Y hz
  have hb:0<=begI b:=by unfold begI;cases (top1 b==[43]||(top1 b==[45]||false))<;>decide
  refine ⟨by decide,hz2,?_⟩
  refine ite_q (P:=fun v=>Wss (b17.drop 1) (d+2) (CallOk S) [some (.d (.bytes b)),some v,none,none] hp (Kr Q) X) (b:=top1 b==[43]||(top1 b==[45]||false)) (x := .d (.int 1)) (y := .d (.int 0)) ?_
  have ec:cond (top1 b==[43]||(top1 b==[45]||false)) (V.d (.int 1)) (.d (.int 0)) = .d (.int (begI b)):=by unfold begI;cases (top1 b==[43]||(top1 b==[45]||false))<;>rfl
  rw [ec]
  refine ⟨hb,hz2,fig_ok Y (Nat.le_trans cut_len (Nat.le_trans hz (by decide))) (by decide) ?_⟩
  unfold expF at q
  cases hx:figF 10 (cutL b (some (begI b)) none) with
  | none=>rw [hx] at q;exact ⟨rfl,q⟩
  | some x =>
   rw [hx] at q
   refine ⟨rfl,⟨rfl,by decide,by decide⟩,minI ⟨by decide,hz2,?_⟩⟩
   cases h:(top1 b==[45]) with
   | true=>exact ifT h (pkT (P:=fun z=>Q (.d (.int z)) hp) h q)
   | false=>exact ifF h (pkF (P:=fun z=>Q (.d (.int z)) hp) h q))
theorem scl_ok (e:sclF v t=some j) (q:Q (.d (.int j)) hp):CallOk S (d+2) (.fn 18) [.d (.int v),.d (.int t)] hp Q X :=
 c18.run Y.fns rfl (by
  refine boolE (b:=(v==0)) (fun h0=>?_) fun h0=>by cases pkT (P:=fun z=>z=some j) h0 e;exact ifT h0 q
  have e:=pkF (P:=fun z=>z=some j) h0 e
  refine ifF h0 ?_
  refine boolE (b:=decide (t>=0)) (fun h1=>by exact nomatch pkF (P:=fun z=>z=some j) h1 e) fun h1=>?_
  have e:=pkT (P:=fun z=>z=some j) h1 e
  refine ifT h1 ⟨.inl (by decide),?_⟩
  refine boolE (b:=decide (t > 32)) (fun h2=>?_) fun h2=>by exact nomatch pkT (P:=fun z=>z=some j) h2 e
  have h3:=of_decide_eq_true h1
  have h4:=of_decide_eq_false h2
  have e:=pkF (P:=fun z=>z=some j) h2 e
  refine ifF h2 ⟨⟨rfl,h3,Int.le_trans (Int.not_lt.mp h4) (by decide)⟩,?_⟩
  cases h5:Nat.blt v.natAbs (2 ^ 63) with
  | false=>exact nomatch pkF (P:=fun z=>z=some j) h5 e
  | true=>exact ⟨.inl (Nat.blt_eq.mp h5),chk_ok Y (pkT (P:=fun z=>z=some j) h5 e) q⟩)
theorem spl_ok (hz:b.length<=1000000) (q:Q (.d (.tup [.bytes (splP b s).1,optB (splP b s).2])) hp):CallOk S (d+1) (.fn 19) [.d (.bytes b),.d (.bytes s)] hp Q X :=
 c19.run Y.fns rfl (by
  have hz2:=top_lt Y hz
  have key:∀ o:Option Nat,splG s b 0=o->Q (.d (.tup [.bytes ((o.casesOn (b,none) fun k=>(cutL b none (some k),some (cutL b (some (k+1)) none)):Bs×Option Bs)).1,optB ((o.casesOn (b,none) fun k=>(cutL b none (some k),some (cutL b (some (k+1)) none)):Bs×Option Bs)).2])) hp:=fun o e=>by subst e;exact q
  refine ⟨rfl,?_⟩
  refine for_num (fun s':Option V×Option V=>[some (.d (.bytes b)),some (.d (.bytes s)),s'.1,s'.2]) (fun s'=>hp) (fun k l s'=>splG s b 0=splG s l k) ?_ ?_ b 0 (none,none) rfl
  ·exact fun k s' e=>⟨show 2<=1000 by decide,key none e⟩
  intro k c r s' e ih
  refine ⟨octLt c,?_⟩
  cases h:octIn c.toNat s with
  | true =>
   have e:=pkT (P:=fun z=>splG s b 0=z) h e
   exact ⟨Int.natCast_nonneg _,hz2,Int.add_nonneg (Int.natCast_nonneg _) (by decide),hz2,show 2<=1000 by decide,key _ e⟩
  | false =>
   exact ⟨trivial,ih (_,_) (pkF (P:=fun z=>splG s b 0=z) h e)⟩)
end
end Mine.C
namespace Mine.C
noncomputable def tensO (o:Option Bs):Option Int:=o.casesOn (some 0) fun x=>expF x
noncomputable def behB (o:Option Bs):Bs:=o.casesOn [] fun x=>x
noncomputable def relG (neg:Bool) (ex:Option Bs) (w:Bs) (r:Option Bs):Option (Option (Nat×Int)):=cond (ex.isNone&&r.isNone) (some none) ((tensO ex).casesOn (some none) fun t=>(figF 10 (w++behB r)).casesOn (some none) fun n=>(sclF (negI neg n) (t - (behB r).length+6)).casesOn none fun v=>some (some (64,v)))
noncomputable def relF (b:Bs) (neg:Bool):Option (Option (Nat×Int)):=relG neg (splP b [101,69]).2 (splP (splP b [101,69]).1 [46]).1 (splP (splP b [101,69]).1 [46]).2
noncomputable def hashG (b:Bs):Nat->Option Nat:=b.rec (fun k=>none) fun c r ih k=>cond ((c.toNat:Int)==35) (some k) (ih (k+1))
noncomputable def negB (b:Bs):Bool:=top1 b==[45]
noncomputable def numF (b:Bs):Option (Option (Nat×Int)):=(hashG b 0).casesOn ((figF 10 (cutL b (some (begI b)) none)).casesOn (relF (cutL b (some (begI b)) none) (negB b)) fun x=>(wholeF (negI (negB b) x)).casesOn none fun o=>some (some o)) fun k=>radF b k
theorem negV {n:Bool} {x:Int}:cond n (V.d (.int (-x))) (.d (.int x)) = .d (.int (negI n x)):=by cases n<;>rfl
theorem spl_len {b s:Bs}:(splP b s).1.length<=b.length/\(behB (splP b s).2).length<=b.length/\∀ x,(splP b s).2=some x->x.length<=b.length:=by
 unfold splP
 cases splG s b 0 with
 | none=>exact ⟨Nat.le_refl _,Nat.zero_le _,fun x e=>nomatch e⟩
 | some k=>exact ⟨cut_len,cut_len,fun x e=>Option.some.inj e▸cut_len⟩
section
variable {S:Sx} {d n:Nat} {hp:Hp} {b s w:Bs} {i j k v t:Int} {c:UInt8} {neg:Bool} {Q:V->Hp->Prop} {X:Bs->Prop} (Y:Std S)
include Y
theorem rel_ok {o:Option (Nat×Int)} (hz:b.length<=1000000) (e:relF b neg=some o) (q:Q (.d (numD o)) hp):CallOk S (d+4) (.fn 20) [.d (.bytes b),.d (.bool neg)] hp Q X :=
 c20.run Y.fns rfl (by
  refine spl_ok Y hz ⟨rfl,spl_ok Y (Nat.le_trans spl_len.1 hz) ⟨rfl,?_⟩⟩
  have l1:=spl_len (b:=b) (s:=[101,69])
  have l2:=spl_len (b:=(splP b [101,69]).1) (s:=[46])
  unfold relF at e
  generalize (splP b [101,69]).1=f at *
  generalize (splP b [101,69]).2=ex at *
  generalize (splP f [46]).1=u at *
  generalize (splP f [46]).2=r at *
  have hf:f.length<=1000000:=Nat.le_trans l1.1 hz
  have hr:(behB r).length<=1000000:=Nat.le_trans l2.2.1 hf
  have A:Wss (b20.drop 4) (d+3) (CallOk S) [some (.d (.bytes b)),some (.d (.bool neg)),some (.d (.bytes f)),some (.d (optB ex)),some (.d (.bytes u)),some (.d (optB r)),some (.d (optD (tensO ex))),none,none] hp (Kr Q) X->Wss (b20.drop 3) (d+3) (CallOk S) [some (.d (.bytes b)),some (.d (.bool neg)),some (.d (.bytes f)),some (.d (optB ex)),some (.d (.bytes u)),some (.d (optB r)),none,none,none] hp (Kr Q) X:=fun h=>by
   cases ex with
   | none=>exact ⟨rfl,h⟩
   | some x=>exact ⟨rfl,exp_ok Y (Nat.le_trans (l1.2.2 x rfl) hz) h⟩
  have B:Wss (b20.drop 5) (d+3) (CallOk S) [some (.d (.bytes b)),some (.d (.bool neg)),some (.d (.bytes f)),some (.d (optB ex)),some (.d (.bytes u)),some (.d (optB r)),some (.d (optD (tensO ex))),some (.d (.bytes (behB r))),none] hp (Kr Q) X->Wss (b20.drop 4) (d+3) (CallOk S) [some (.d (.bytes b)),some (.d (.bool neg)),some (.d (.bytes f)),some (.d (optB ex)),some (.d (.bytes u)),some (.d (optB r)),some (.d (optD (tensO ex))),none,none] hp (Kr Q) X:=fun h=>by
   cases r with
   | none=>exact ⟨rfl,h⟩
   | some x=>exact ⟨rfl,h⟩
  have G:(ex.isNone&&r.isNone)=false->Wss (b20.drop 3) (d+3) (CallOk S) [some (.d (.bytes b)),some (.d (.bool neg)),some (.d (.bytes f)),some (.d (optB ex)),some (.d (.bytes u)),some (.d (optB r)),none,none,none] hp (Kr Q) X:=fun hn=>by
   have e:=pkF (P:=fun z=>z=some o) hn e
   refine A (B ⟨?_,fig_ok Y ?_ (by decide) ?_⟩)
   ·exact Nat.le_trans (Nat.add_le_add (Nat.le_trans l2.1 hf) hr) (by decide)
   ·rw [List.length_append];exact Nat.le_trans (Nat.add_le_add (Nat.le_trans l2.1 hf) hr) (by decide)
   cases ht:tensO ex with
   | none=>rw [ht] at e;cases e;exact ⟨rfl,q⟩
   | some t =>
    rw [ht] at e
    refine ⟨rfl,?_⟩
    cases hx:figF 10 (u++behB r) with
    | none=>rw [hx] at e;cases e;exact ⟨rfl,q⟩
    | some n =>
     rw [hx] at e
     refine ⟨rfl,?_⟩
     have e:(sclF (negI neg n) (t - (behB r).length+6)).casesOn (motive:=fun _=>Option (Option (Nat×Int))) none (fun v=>some (some (64,v)))=some o:=e
     refine optE (o:=sclF (negI neg n) (t - (behB r).length+6)) (fun hs=>by rw [hs] at e;exact nomatch e) fun v hs=>?_
     rw [hs] at e;cases e
     cases neg with
     | true=>exact lenB (Nat.le_trans hr (by decide)) (scl_ok Y hs ⟨show 2<=1000 by decide,q⟩)
     | false=>exact lenB (Nat.le_trans hr (by decide)) (scl_ok Y hs ⟨show 2<=1000 by decide,q⟩)
  cases ex with
  | some x=>exact ⟨rfl,G rfl⟩
  | none =>
   cases r with
   | some x=>exact ⟨rfl,rfl,G rfl⟩
   | none=>cases e;exact ⟨rfl,rfl,q⟩)
theorem num_ok {o:Option (Nat×Int)} (hz:b.length<=1000000) (e:numF b=some o) (q:Q (.d (numD o)) hp):CallOk S (d+5) (.fn 21) [.d (.bytes b)] hp Q X :=
 c21.run Y.fns rfl (by
  have hz2:=top_lt Y hz
  refine ⟨rfl,?_⟩
  have key:∀ u,hashG b 0=u->(u.casesOn ((figF 10 (cutL b (some (begI b)) none)).casesOn (relF (cutL b (some (begI b)) none) (negB b)) fun x=>(wholeF (negI (negB b) x)).casesOn none fun o=>some (some o)) fun k=>radF b k:Option (Option (Nat×Int)))=some o:=fun u h=>by subst h;exact e
  refine for_num (fun s':Option V×Option V=>[some (.d (.bytes b)),s'.1,s'.2,none,none,none]) (fun s'=>hp) (fun k l s'=>hashG b 0=hashG l k) ?_ ?_ b 0 (none,none) rfl
  ·intro k s' e
   have e:=key none e
   have hb:0<=begI b:=by unfold begI;cases (top1 b==[43]||(top1 b==[45]||false))<;>decide
   refine ⟨by decide,hz2,?_⟩
   refine ite_q (P:=fun v=>Wss (b21.drop 2) (d+4) (CallOk S) [some (.d (.bytes b)),s'.1,s'.2,some v,none,none] hp (Kr Q) X) (b:=top1 b==[43]||(top1 b==[45]||false)) (x := .d (.int 1)) (y := .d (.int 0)) ?_
   have ec:cond (top1 b==[43]||(top1 b==[45]||false)) (V.d (.int 1)) (.d (.int 0)) = .d (.int (begI b)):=by unfold begI;cases (top1 b==[43]||(top1 b==[45]||false))<;>rfl
   rw [ec]
   refine ⟨by decide,hz2,hb,hz2,fig_ok Y (Nat.le_trans cut_len (Nat.le_trans hz (by decide))) (by decide) ?_⟩
   refine ⟨rfl,?_⟩
   cases hx:figF 10 (cutL b (some (begI b)) none) with
   | none =>
    rw [hx] at e
    exact ⟨hb,hz2,rel_ok Y (Nat.le_trans cut_len hz) e q⟩
   | some x =>
    rw [hx] at e
    have e:(wholeF (negI (negB b) x)).casesOn (motive:=fun _=>Option (Option (Nat×Int))) none (fun o=>some (some o))=some o:=e
    refine ite_q (P:=fun v=>CallOk S (d+4) (.fn 13) [v] hp Q X) (b:=negB b) (x := .d (.int (-x))) (y := .d (.int x)) ?_
    rw [negV]
    cases hw:wholeF (negI (negB b) x) with
    | none=>rw [hw] at e;exact nomatch e
    | some p=>rw [hw] at e;cases e;exact whole_ok Y hw q
  ·intro k c r s' e ih
   cases h:((c.toNat:Int)==35) with
   | true =>
    refine ifT h ?_
    exact rad_ok Y hz (Int.natCast_nonneg _) (key _ (pkT (P:=fun z=>hashG b 0=z) h e)) q
   | false =>
    refine ifF h ?_
    exact ⟨trivial,ih (_,_) (pkF (P:=fun z=>hashG b 0=z) h e)⟩)
end
noncomputable def decG (n:Nat):Int->List Int->Option (List Int):=n.rec (fun r a=>none) fun n ih r a=>cond (decide (r > 0)) (ih (r / 10) (a++[48+r % 10])) (some a)
noncomputable def restI (v:Int):Int:=cond (decide (v>=0)) v (-v)
noncomputable def decF (v:Int):Option Bs:=(decG 40 (restI v / 10) [48+restI v % 10]).casesOn none fun l=>some ((cond (decide (v < 0)) (l++[45]) l).reverse.map fun n=>n.toNat.toUInt8)
noncomputable def trG (n:Nat):Bs->Option Bs:=n.rec (fun b=>none) fun n ih b=>cond (decide ((b.length:Int) > 1)) (cond (((b.getD ((b.length:Int) - 1).toNat 0).toNat:Int)==48) (ih (cutL b none (some ((b.length:Int) - 1)))) (some b)) (some b)
noncomputable def figD (v:Int):Option Bs:=(decF (1000000+absV v % 1000000)).casesOn none fun a=>(trG 10 (cutL a (some 1) none)).casesOn none fun c=>(decF (absV v / 1000000)).casesOn none fun u=>cond (Nat.ble (a.length+(u.length+c.length)) 1000) (some (cond (decide (v < 0)) [45] []++u++[46]++c)) none
section
variable {S:Sx} {d n k:Nat} {hp:Hp} {b s w:Bs} {i j v t:Int} {c:UInt8} {neg:Bool} {Q:V->Hp->Prop} {X:Bs->Prop} (Y:Std S)
include Y
theorem dec_ok (e:decF v=some b) (q:Q (.d (.bytes b)) []):CallOk S (d+1) (.fn 8) [.d (.int v)] [] Q X :=
 CallOk_drop 0 (by exact Nat.le_refl 0) (c8.run Y.fns rfl (by
  refine ite_q (P:=fun u=>Wss (b8.drop 1) d (CallOk S) [some (.d (.int v)),some u,none] [] (Kr fun v hp=>(belV (fun i=>Nat.blt i 0) v=true/\(hp.take 0).all (belO fun i=>Nat.blt i 0)=true)/\Q v (hp.take 0)) X) (b:=decide (v>=0)) (x := .d (.int v)) (y := .d (.int (-v))) ?_
  have ec:cond (decide (v>=0)) (V.d (.int v)) (.d (.int (-v))) = .d (.int (restI v)):=by unfold restI;cases decide (v>=0)<;>rfl
  rw [ec]
  have m:∀ r:Int,0<=48+r % 10/\48+r % 10 < 256:=fun r=>by have:=Int.emod_nonneg r (show (10:Int)≠0 by decide);have:=Int.emod_lt_of_pos r (show (0:Int) < 10 by decide);omega
  refine ⟨by decide,show 1<=1000 by decide,⟨by decide,by decide⟩,?_⟩
  intro P hP
  have fin:∀ (l:List Int) (t:Int),l.length<=1000->(∀ x∈l,0<=x/\x < 256)->b=(cond (decide (v < 0)) (l++[45]) l).reverse.map (fun n=>n.toNat.toUInt8)->Wss (b8.drop 4) d (CallOk S) [some (.d (.int v)),some (.d (.int t)),some (.ref 0)] [.list (l.map .int)] (Kr fun v hp=>(belV (fun i=>Nat.blt i 0) v=true/\(hp.take 0).all (belO fun i=>Nat.blt i 0)=true)/\Q v (hp.take 0)) X:=fun l t hl hm eb=>by
   have out:∀ l:List Int,l.length<=1001->(∀ x∈l,0<=x/\x < 256)->b=l.reverse.map (fun n=>n.toNat.toUInt8)->CallOk S d (.bi 1) [.ref 1] [.list (l.map .int),.list ((l.map D.int).reverse)] (fun v hp=>(belV (fun i=>Nat.blt i 0) v=true/\(hp.take 0).all (belO fun i=>Nat.blt i 0)=true)/\Q v (hp.take 0)) X:=fun l hl hm eb =>
    bytesI (ns:=l.reverse) (by rw [List.map_reverse];rfl) (by rw [List.length_reverse];exact Nat.le_trans hl (by decide)) (fun x m=>hm x (List.mem_reverse.mp m)) ⟨⟨rfl,rfl⟩,eb▸q⟩
   have hz:∀ l:List Int,l.length<=1001->(l.map D.int).length<=16777216:=fun l h=>by rw [List.length_map];exact Nat.le_trans h (by decide)
   cases h:decide (v < 0) with
   | true =>
    rw [h] at eb
    refine ifT h (appD rfl (by rw [List.length_map];exact Nat.le_trans hl (by decide)) ⟨rfl,?_⟩)
    have e2:l.map D.int++[D.int 45]=(l++[45]).map D.int:=by rw [List.map_append];rfl
    have l2:(l++[45]).length<=1001:=by rw [List.length_append];exact Nat.succ_le_succ hl
    rw [e2]
    exact ⟨hz _ l2,out (l++[45]) l2 (fun x m=>(List.mem_append.mp m).elim (hm x) fun m=>by rw [List.mem_singleton.mp m];decide) eb⟩
   | false =>
    rw [h] at eb
    have l2:=Nat.le_succ_of_le hl
    exact ifF h ⟨hz _ l2,out l l2 hm eb⟩
  suffices key:∀ (n:Nat) (r:Int) (acc l:List Int),acc.length+n<=1000->(∀ x∈acc,0<=x/\x < 256)->decG n r acc=some l->b=(cond (decide (v < 0)) (l++[45]) l).reverse.map (fun n=>n.toNat.toUInt8)->P [some (.d (.int v)),some (.d (.int r)),some (.ref 0)] [.list (acc.map .int)] by
   unfold decF at e
   refine optE (o:=decG 40 (restI v / 10) [48+restI v % 10]) (fun hg=>by rw [hg] at e;exact nomatch e) fun l hg=>?_
   rw [hg] at e
   exact key 40 _ [48+restI v % 10] l (show 41<=1000 by decide) (fun x hx=>by rw [List.mem_singleton.mp hx];exact m _) hg (Option.some.inj e).symm
  intro n
  induction n with
  | zero=>exact fun r acc l h1 h2 h3=>nomatch h3
  | succ n ih =>
   intro r acc l h1 h2 h3 h4
   refine hP _ _ P (fun a b x=>x) ?_
   cases h:decide (r > 0) with
   | true =>
    have h3:=pkT (P:=fun z=>z=some l) h h3
    refine ifT h ⟨by decide,appD rfl (by rw [List.length_map];exact Nat.le_trans (Nat.le_add_right _ _) (Nat.le_trans h1 (by decide))) ⟨rfl,⟨by decide,by decide⟩,?_⟩⟩
    have e2:acc.map D.int++[D.int (48+r % 10)]=(acc++[48+r % 10]).map D.int:=by rw [List.map_append];rfl
    have:=ih (r / 10) (acc++[48+r % 10]) l (snocL h1) (fun x hx=>(List.mem_append.mp hx).elim (h2 x) fun hx=>by rw [List.mem_singleton.mp hx];exact m _) h3 h4
    rw [<- e2] at this
    exact this
   | false =>
    cases pkF (P:=fun z=>z=some l) h h3
    exact ifF h (fin acc r (Nat.le_trans (Nat.le_add_right _ _) h1) h2 h4)))
end
end Mine.C
namespace Mine.C
inductive Nd
 | int (i:Int) | real (i:Int) | name (w:Bs) (ex:Bool) | str (w:Bs) | proc (l:List Nd)
inductive NdV:Nd->D->Prop
 | int (i:Int):NdV (.int i) (thingD 63 (.int i) false)
 | real (i:Int):NdV (.real i) (thingD 64 (.int i) false)
 | name (w:Bs) (ex:Bool):NdV (.name w ex) (thingD 65 (.bytes w) ex)
 | str (n:Int) (w:Bs):NdV (.str w) (thingD 48 (spanD (textD n w) w.length) false)
 | proc (n:Int) (l:List Nd) (vs:List D):vs.length=l.length->(∀ (i:Nat) (x:Nd) (v:D),l[i]?=some x->vs[i]?=some v->NdV x v)->NdV (.proc l) (thingD 66 (spanD (rowD n vs) vs.length) true)
structure NdVs (l:List Nd) (vs:List D):Prop where
 len:vs.length=l.length
 at_:∀ (i:Nat) (x:Nd) (v:D),l[i]?=some x->vs[i]?=some v->NdV x v
noncomputable def sH (m:Mm) (b s:Bs):Hp:=[memN m,.list [],.list [],.idict m.made,.list [],.ns 1 [.inst 3 0],src b s]
theorem MOk.succ {m:Mm} {k:Nat} (h:MOk m k) (hk:k < 900):MOk m (k+1):=⟨Nat.le_succ_of_le h.made,⟨h.used.1,by have:=h.used.2;omega⟩,hk⟩
noncomputable def undE:Bs:=[117,110,100,101,102,105,110,101,100]
noncomputable def regF (w:Bs):Option Nd:=(numF w).casesOn none fun o=>o.casesOn (cond (decide ((w.length:Int) > 127)) none (some (.name w true))) fun p=>some (cond (p.1==63) (.int p.2) (.real p.2))
inductive Rs | ok (nd:Nd) (s:Bs) | err (e:Bs)
noncomputable def slashF (s:Bs):Option Rs:=s.casesOn none fun c r=>cond ((c.toNat:Int)==47) (some (.err undE)) (cond (decide (((wordF s).1.length:Int) > 127)) none (some (.ok (.name (wordF s).1 false) (wordF s).2)))
noncomputable def strR (o:Option (Bs×Bs)):Option Rs:=o.casesOn (some (.err synE)) fun p=>cond (Nat.ble p.1.length 1000) (some (.ok (.str p.1) p.2)) none
noncomputable def pointF (s:Bs):Option Rs:=s.casesOn (some (.err synE)) fun c r=>cond ((c.toNat:Int)==60) (some (.ok (.name [60,60] true) r)) (cond ((c.toNat:Int)==126) none (strR (hexF s none [])))
noncomputable def closeF (s:Bs):Option Rs:=s.casesOn none fun c r=>cond ((c.toNat:Int) != 62) none (some (.ok (.name [62,62] true) r))
noncomputable def plainF (n:Nat) (c:UInt8) (r:Bs):Option Rs:=cond ((c.toNat:Int)==47) (slashF r) (cond ((c.toNat:Int)==40) ((strF n 1 [] r).casesOn none strR) (cond ((c.toNat:Int)==60) (pointF r) (cond ((c.toNat:Int)==62) (closeF r)
 (cond ((c.toNat:Int)==91||(c.toNat:Int)==93) (some (.ok (.name [c] true) r)) (cond ((c.toNat:Int)==41) none ((regF (wordF (c::r)).1).casesOn none fun nd=>some (.ok nd (wordF (c::r)).2)))))))
section
variable {S:Sx} {d n k:Nat} {hp:Hp} {b s w r t:Bs} {l:List D} {nds:List Nd} {i j v:Int} {c:UInt8} {m:Mm} {ex:Bool} {o:Rs} {nd:Nd} {Q:V->Hp->Prop} {X:Bs->Prop} (Y:Std S)
include Y
theorem nameS_ok (hw:(w.length:Int)<=127) (q:Q (.d (thingD 65 (.bytes w) ex)) []):CallOk S (d+4) (.fn 57) [.d (.bytes w),.d (.bool ex)] [] Q X :=
 c57.run Y.fns rfl (by exact lenB (Nat.le_trans (Int.ofNat_le.mp hw) (by decide)) (ifF (decide_eq_false (Int.not_lt.mpr hw)) (nameT_ok Y q)))
theorem reg_ok (hz:w.length<=1000000) (e:regF w=some nd) (q:∀ v,NdV nd v->Q (.d v) []):CallOk S (d+6) (.fn 58) [.d (.bytes w)] [] Q X :=
 c58.run Y.fns rfl (by
  unfold regF at e
  refine optE (o:=numF w) (fun hn=>by rw [hn] at e;exact nomatch e) fun o hn=>?_
  rw [hn] at e
  refine num_ok Y hz hn ⟨rfl,?_⟩
  cases o with
  | none =>
   cases h:decide ((w.length:Int) > 127) with
   | true=>exact nomatch pkT (P:=fun z=>z=some nd) h e
   | false=>cases pkF (P:=fun z=>z=some nd) h e;exact nameS_ok Y (Int.not_lt.mp (of_decide_eq_false h)) (q _ (.name w true))
  | some p =>
   have e:=Option.some.inj e
   refine ⟨⟨by decide,by decide⟩,?_⟩
   cases h:(p.1==63) with
   | true=>cases pkT (P:=fun z=>z=nd) h e;exact ifT h ⟨⟨by decide,by decide⟩,intT_ok Y (q _ (.int p.2))⟩
   | false=>cases pkF (P:=fun z=>z=nd) h e;exact ifF h ⟨⟨by decide,by decide⟩,realT_ok Y (q _ (.real p.2))⟩)
theorem rowOf_ok (h:MOk m k) (hl:l.length<=100) (q:Q (.d (rowD (m.last+1) l)) (memH (m.take (8*l.length))++[.list l])):CallOk S (d+5) (.fn 90) [.inst 3 0,.ref 5] (memH m++[.list l]) Q X :=
 c90.run Y.fns rfl (by
  have hz:l.length<=1000000:=Nat.le_trans hl (by decide)
  have hi:(l.length:Int)<=100:=Int.ofNat_le.mpr hl
  have hc:(8:Int)*l.length<=1000:=by omega
  refine isIntL rfl (lenL rfl hz (many_ok Y (Int.natCast_nonneg _) (Int.le_trans hi (by decide)) ⟨rfl,?_⟩))
  refine lenL rfl hz ⟨.inl (by decide),?_⟩
  refine CallOk_at [0,1,2,3,4] (take_ok Y h hc ?_)
  refine CallOk_at [0,1,2,3,4] (level_ok (m:=m.take (8*l.length)) Y ?_)
  exact CallOk_at [5] (rowNew Y hz q))
theorem string_ok (h:MOk m k) (hk:k < 900) (hw:w.length<=1000) (q:∀ v m',NdV (.str w) v->MOk m' (k+1)->Q (.d v) (sH m' b s)):CallOk S (d+6) (.fn 61) [.inst 1 5,.d (.bytes w)] (sH m b s) Q X :=
 c61.run Y.fns rfl (by
  refine CallOk_at [0,1,2,3,4] (textOf_ok Y h hw ?_)
  exact CallOk_at [] (stringT_ok Y (Nat.le_trans hw (by decide)) (q _ _ (.str _ w) (h.take hk (Int.natCast_nonneg _) (Int.ofNat_le.mpr hw)))))
theorem proc_ok (h:MOk m k) (hk:k < 900) (hl:l.length<=100) (hv:NdVs nds l) (q:∀ v m',NdV (.proc nds) v->MOk m' (k+1)->Q (.d v) (sH m' b s++[.list l])):CallOk S (d+6) (.fn 62) [.inst 1 5,.ref 7,.d (.bool false)] (sH m b s++[.list l]) Q X :=
 c62.run Y.fns rfl (by
  refine CallOk_at [0,1,2,3,4,7] (rowOf_ok Y h hl ?_)
  exact CallOk_at [] (rowT_ok Y (Nat.le_trans hl (by decide)) (q _ _ (.proc _ nds l hv.len hv.at_) (h.take hk (by omega) (by have:=Int.ofNat_le.mpr hl;omega)))))
end
end Mine.C
namespace Mine.C
theorem word_len {s:Bs}:(wordF s).1.length<=s.length:=by
 induction s with
 | nil=>exact Nat.le_refl _
 | cons c r ih =>
  show (cond (blankB c) (([] : Bs),cond ((c.toNat:Int)==13) (skipFeed r) r) (cond (delimB c) ([],c::r) (c::(wordF r).1,(wordF r).2))).1.length<=r.length+1
  cases blankB c with
  | true=>exact Nat.zero_le _
  | false=>cases delimB c with
   | true=>exact Nat.zero_le _
   | false=>exact Nat.succ_le_succ ih
section
variable {S:Sx} {d n k:Nat} {hp:Hp} {b s w r t:Bs} {l:List D} {nds:List Nd} {i j v:Int} {c:UInt8} {m:Mm} {ex:Bool} {o:Rs} {nd:Nd} {Q:V->Hp->Prop} {X:Bs->Prop} (Y:Std S)
include Y
theorem once_ok (x:X undE):CallOk S (d+3) (.fn 59) [.d (.bytes w),.d .none] hp Q X:=c59.run Y.fns rfl (by exact ⟨rfl,rfl,rfl,x⟩)
theorem word_at (h:Suf b s) (q:Suf b (wordF s).2->Q (.d (.bytes (wordF s).1)) (sH m b (wordF s).2)):CallOk S (d+3) (.fn 49) [.inst 0 6] (sH m b s) Q X:=CallOk_at [6] (word_ok Y h q)
theorem name_at (hw:(w.length:Int)<=127) (q:Q (.d (thingD 65 (.bytes w) ex)) (sH m b s)):CallOk S (d+4) (.fn 57) [.d (.bytes w),.d (.bool ex)] (sH m b s) Q X:=CallOk_at [] (nameS_ok Y hw q)
theorem slash_ok (h:Suf b r) (e:slashF r=some o) (x:∀ a,o = .err a->X a) (q:∀ nd t v,o = .ok nd t->Suf b t->NdV nd v->Q (.d v) (sH m b t)):CallOk S (d+5) (.fn 63) [.inst 1 5,.inst 0 6,.d .none] (sH m b r) Q X :=
 c63.run Y.fns rfl (by
  refine CallOk_at [6] (next_ok Y h ?_)
  cases r with
  | nil=>exact nomatch e
  | cons c r =>
   cases h47:((c.toNat:Int)==47) with
   | true =>
    have e:=Option.some.inj (pkT (P:=fun z=>z=some o) h47 e)
    refine ifT h47 (word_at Y h.tail fun k=>?_)
    exact once_ok Y (x _ e.symm)
   | false =>
    have e:=pkF (P:=fun z=>z=some o) h47 e
    refine ifF h47 ⟨rfl,CallOk_at [6] (back_ok (c:=c) Y ⟨rfl,?_⟩)⟩
    refine word_at Y h fun k=>?_
    cases h127:decide (((wordF (c::r)).1.length:Int) > 127) with
    | true=>exact nomatch pkT (P:=fun z=>z=some o) h127 e
    | false=>exact name_at Y (Int.not_lt.mp (of_decide_eq_false h127)) (q _ _ _ (Option.some.inj (pkF (P:=fun z=>z=some o) h127 e)).symm k (.name _ false)))
theorem point_ok (h:Suf b r) (hm:MOk m k) (hk:k < 900) (e:pointF r=some o) (x:∀ a,o = .err a->X a) (q:∀ nd t v m',o = .ok nd t->Suf b t->NdV nd v->MOk m' (k+1)->Q (.d v) (sH m' b t)):CallOk S (d+7) (.fn 64) [.inst 1 5,.inst 0 6] (sH m b r) Q X :=
 c64.run Y.fns rfl (by
  refine CallOk_at [6] (sure_ok Y h (fun z=>x _ (by subst z;exact (Option.some.inj e).symm)) fun c r2 z hr=>?_)
  subst z
  cases h60:((c.toNat:Int)==60) with
  | true =>
   have e:=Option.some.inj (pkT (P:=fun z=>z=some o) h60 e)
   refine ifT h60 ?_
   exact CallOk_at [] (nameT_ok Y (q _ _ _ m e.symm hr (.name _ true) (hm.succ hk)))
  | false =>
   have e:=pkF (P:=fun z=>z=some o) h60 e
   refine ifF h60 ?_
   refine boolE (b:=((c.toNat:Int)==126)) (fun h126=>?_) fun h126=>by exact nomatch pkT (P:=fun z=>z=some o) h126 e
   have e:=pkF (P:=fun z=>z=some o) h126 e
   refine ifF h126 ?_
   refine CallOk_at [6] (back_ok (c:=c) Y ⟨rfl,?_⟩)
   refine CallOk_at [6] (hexs_ok Y h (fun z=>x _ ?_) fun w t z ht=>?_)
   ·rw [z] at e;exact (Option.some.inj e).symm
   ·rw [z] at e
    cases hw:Nat.ble w.length 1000 with
    | false=>exact nomatch pkF (P:=fun z=>z=some o) hw e
    | true=>exact string_ok Y hm hk (Nat.le_of_ble_eq_true hw) fun v m' hv hm'=>q _ _ _ _ (Option.some.inj (pkT (P:=fun z=>z=some o) hw e)).symm ht hv hm')
theorem close_ok (h:Suf b r) (e:closeF r=some o) (q:∀ nd t v,o = .ok nd t->Suf b t->NdV nd v->Q (.d v) (sH m b t)):CallOk S (d+4) (.fn 65) [.inst 1 5,.inst 0 6] (sH m b r) Q X :=
 c65.run Y.fns rfl (by
  refine CallOk_at [6] (next_ok Y h ?_)
  cases r with
  | nil=>exact nomatch e
  | cons c r =>
   refine boolE (b:=((c.toNat:Int) != 62)) (fun h62=>?_) fun h62=>by exact nomatch pkT (P:=fun z=>z=some o) h62 e
   refine ifF h62 ?_
   exact CallOk_at [] (nameT_ok Y (q _ _ _ (Option.some.inj (pkF (P:=fun z=>z=some o) h62 e)).symm h.tail (.name _ true))))
theorem plain_ok (h:Suf b (c::r)) (hn:n<=1000000) (hm:MOk m k) (hk:k < 900) (e:plainF n c r=some o) (x:∀ a,o = .err a->X a) (q:∀ nd t v m',o = .ok nd t->Suf b t->NdV nd v->MOk m' (k+1)->Q (.d v) (sH m' b t)):CallOk S (d+8) (.fn 66) [.inst 1 5,.inst 0 6,oc c,.d .none] (sH m b r) Q X :=
 CallOk_drop 7 (by exact Nat.le_refl 7) (c66.run Y.fns rfl (by
  have hm1:=hm.succ hk
  have q:∀ nd t v m',o = .ok nd t->Suf b t->NdV nd v->MOk m' (k+1)->(belV (fun i=>Nat.blt i 7) (.d v)=true/\((sH m' b t).take 7).all (belO fun i=>Nat.blt i 7)=true)/\Q (.d v) ((sH m' b t).take 7):=fun nd t v m' a b c d=>⟨⟨rfl,rfl⟩,q nd t v m' a b c d⟩
  have br:((c.toNat:Int)==91||(c.toNat:Int)==93)=true->o = .ok (.name [c] true) r->CallOk S (d+7) (.bi 1) [.ref 7] (sH m b r++[.list [.int c.toNat]]) (fun v hp=>CallOk S (d+7) (.fn 29) [v,.d (.bool true)] hp (fun v hp=>(belV (fun i=>Nat.blt i 7) v=true/\(hp.take 7).all (belO fun i=>Nat.blt i 7)=true)/\Q v (hp.take 7)) X) X:=fun h1 eo=>by
   refine bytesI (ns:=[(c.toNat:Int)]) rfl (by show 1<=1000000;decide) (fun x hx=>by rw [List.mem_singleton.mp hx];exact octLt c) ?_
   rw [List.map_singleton,oct_back]
   exact CallOk_at [] (nameT_ok Y (q _ r _ m eo h.tail (.name _ true) hm1))
  refine boolE (b:=((c.toNat:Int)==47)) (fun h47=>?_) fun h47=>by exact ifT h47 (slash_ok Y h.tail (pkT (P:=fun z=>z=some o) h47 e) x fun nd t v eo k nv=>q nd t v m eo k nv hm1)
  have e:=pkF (P:=fun z=>z=some o) h47 e
  refine ifF h47 ?_
  cases h40:((c.toNat:Int)==40) with
  | true =>
   have e:=pkT (P:=fun z=>z=some o) h40 e
   refine ifT h40 ?_
   refine optE (o:=strF n 1 [] r) (fun hs=>by rw [hs] at e;exact nomatch e) fun u hs=>?_
   rw [hs] at e
   refine CallOk_at [6] (str_ok Y h.tail hn hs (fun z=>x _ ?_) fun w t z ht=>?_)
   ·subst z;exact (Option.some.inj e).symm
   ·subst z
    cases hw:Nat.ble w.length 1000 with
    | false=>exact nomatch pkF (P:=fun z=>z=some o) hw e
    | true=>exact string_ok Y hm hk (Nat.le_of_ble_eq_true hw) fun v m' hv hm'=>q _ _ _ _ (Option.some.inj (pkT (P:=fun z=>z=some o) hw e)).symm ht hv hm'
  | false =>
  have e:=pkF (P:=fun z=>z=some o) h40 e
  refine ifF h40 ?_
  refine boolE (b:=((c.toNat:Int)==60)) (fun h60=>?_) fun h60=>by exact ifT h60 (point_ok Y h.tail hm hk (pkT (P:=fun z=>z=some o) h60 e) x q)
  have e:=pkF (P:=fun z=>z=some o) h60 e
  refine ifF h60 ?_
  refine boolE (b:=((c.toNat:Int)==62)) (fun h62=>?_) fun h62=>by exact ifT h62 (close_ok Y h.tail (pkT (P:=fun z=>z=some o) h62 e) fun nd t v eo k nv=>q nd t v m eo k nv hm1)
  have e:=pkF (P:=fun z=>z=some o) h62 e
  refine ifF h62 ?_
  have e91:∀ h1:((c.toNat:Int)==91||(c.toNat:Int)==93)=true,o = .ok (.name [c] true) r:=fun h1=>(Option.some.inj (pkT (P:=fun z=>z=some o) h1 e)).symm
  cases h91:((c.toNat:Int)==91) with
  | true =>
   have h1:((c.toNat:Int)==91||(c.toNat:Int)==93)=true:=by rw [h91];rfl
   exact orT' h91 ⟨show 1<=1000 by decide,br h1 (e91 h1)⟩
  | false =>
  refine orF h91 ?_
  cases h93:((c.toNat:Int)==93) with
  | true =>
   have h1:((c.toNat:Int)==91||(c.toNat:Int)==93)=true:=by rw [h91,h93];rfl
   exact orT' h93 ⟨show 1<=1000 by decide,br h1 (e91 h1)⟩
  | false =>
  refine orF h93 ?_
  have h1:((c.toNat:Int)==91||(c.toNat:Int)==93)=false:=by rw [h91,h93];rfl
  have e:=pkF (P:=fun z=>z=some o) h1 e
  refine boolE (b:=((c.toNat:Int)==41)) (fun h41=>?_) fun h41=>by exact nomatch pkT (P:=fun z=>z=some o) h41 e
  have e:=pkF (P:=fun z=>z=some o) h41 e
  refine ifF h41 ?_
  refine CallOk_at [6] (back_ok (c:=c) Y ⟨rfl,?_⟩)
  refine word_at Y h fun k=>?_
  have wl:(wordF (c::r)).1.length<=1000000:=Nat.le_trans word_len h.le
  refine optE (o:=regF (wordF (c::r)).1) (fun hr=>by rw [hr] at e;exact nomatch e) fun nd hr=>?_
  rw [hr] at e
  exact CallOk_at [] (reg_ok Y wl hr fun v nv=>q _ _ _ m (Option.some.inj e).symm k nv hm1)))
end
end Mine.C
namespace Mine.C
inductive Rt | none | ok (nd:Nd) (s:Bs) (n:Nat) | err (e:Bs)
noncomputable def tokH (f n:Nat) (ih:List (List Nd)->Bs->Option Rt) (st:List (List Nd)) (o:Option (UInt8×Bs)):Option Rt:=o.casesOn (some (st.casesOn .none fun a b => .err synE)) fun p=>cond ((p.1.toNat:Int)==123) (ih ([]::st) p.2)
 (cond ((p.1.toNat:Int)==125) (st.casesOn Option.none fun top st'=>cond (Nat.ble top.length 100) (st'.casesOn (some (.ok (.proc top) p.2 n)) fun nx st''=>ih ((nx++[.proc top])::st'') p.2) Option.none)
  ((plainF f p.1 p.2).casesOn Option.none fun r=>r.casesOn (fun nd t=>st.casesOn (some (.ok nd t n)) fun top st'=>ih ((top++[nd])::st') t) fun e=>some (.err e)))
noncomputable def tokF (f n:Nat):List (List Nd)->Bs->Option Rt:=n.rec (fun st s=>Option.none) fun n ih st s=>(firstF f s).casesOn Option.none (tokH f n ih st)
noncomputable def isOf (js:List Nat):List Nat:=(js.map (·+8)).reverse
noncomputable def tH (m:Mm) (b s:Bs) (is:List Nat) (ls:Hp):Hp:=memN m :: .list [] :: .list [] :: .idict m.made :: .list [] :: .ns 1 [.inst 3 0]::src b s :: .refs is::ls
structure TkI (b:Bs) (K:Nat) (st:List (List Nd)) (s:Bs) (m:Mm) (n:Nat) (js:List Nat) (ls:Hp):Prop where
 suf:Suf b s
 mok:∃ k,MOk m k/\k+n<=K
 nodup:js.Nodup
 at_:All2 (fun j nds=>∃ vs,ls[j]?=some (.list vs)/\NdVs nds vs) js st
 liv:ls.all live=true
 few:st.length+n<=900
 fewer:∀ x∈st,x.length+n<=900
section
variable {S:Sx} {d:Nat} {f0 f:V} {vs0 vs:List V} {hp0 hp:Hp} {Q0 Q:V->Hp->Prop} {X:Bs->Prop}
theorem CallOk_in (js:List Nat) (h:CallOk S d f0 vs0 hp0 (fun v hp'=>hp'.length=js.length/\Q (renV (rho js hp.length) v) (putAll (js.zip (hp'.map (renO (rho js hp.length)))) hp)) X) (hn:decide js.Nodup=true) (he:Sees js hp hp0) (ho:hp.all live=true)
  (hf:renV (rho js hp.length) f0=f:=by rfl) (hv:vs0.map (renV (rho js hp.length))=vs:=by rfl):CallOk S d f vs hp Q X :=
 CallOk_place js (of_decide_eq_true hn) he (fun i m e=>Bool.false_ne_true (List.all_eq_true.mp ho _ (List.mem_of_getElem? e))) hf hv h fun v hp' q=>by
  unfold place
  rw [List.drop_eq_nil_iff.mpr (by rw [List.length_map];exact Nat.le_of_eq q.1),List.append_nil]
  exact q.2
end
section
variable {b s t:Bs} {K n j:Nat} {st:List (List Nd)} {top:List Nd} {m m':Mm} {js:List Nat} {ls:Hp} {x:O} {nd:Nd} {v:D} {vs:List D}
theorem NdVs.nil:NdVs [] []:=⟨rfl,fun i x v e=>nomatch e⟩
theorem NdVs.snoc {l:List Nd} (h:NdVs l vs) (k:NdV nd v):NdVs (l++[nd]) (vs++[v]):=⟨by rw [List.length_append,List.length_append,h.len];rfl,fun i x u e1 e2=>by
 by_cases hi:i < l.length
 ·rw [List.getElem?_append_left hi] at e1
  rw [List.getElem?_append_left (h.len▸hi)] at e2
  exact h.at_ i x u e1 e2
 ·rw [List.getElem?_append_right (Nat.not_lt.mp hi)] at e1
  rw [List.getElem?_append_right (h.len▸Nat.not_lt.mp hi),h.len] at e2
  rw [List.mem_singleton.mp (List.mem_of_getElem? e1),List.mem_singleton.mp (List.mem_of_getElem? e2)];exact k⟩
theorem NdV.obj (h:NdV nd v):∃ xs,v = .obj 5 xs:=by cases h<;>exact ⟨_,rfl⟩
theorem all_snoc {ls:Hp} (h:ls.all live=true) (l:live x=true):(ls++[x]).all live=true:=by rw [List.all_append,h,List.all_cons,l];rfl
theorem all_set {ls:Hp} (h:ls.all live=true) (l:live x=true):(ls.set j x).all live=true:=List.all_eq_true.mpr fun y m=>by
 rcases List.mem_or_eq_of_mem_set m with m | rfl
 ·exact List.all_eq_true.mp h y m
 ·exact l
theorem TkI.grow (h:TkI b K st s m n js ls) (l:live x=true):TkI b K st s m n js (ls++[x]) :=
 ⟨h.suf,h.mok,h.nodup,h.at_.imp fun j nds q=>q.imp fun vs q=>⟨(List.getElem?_append_left (List.getElem?_eq_some_iff.mp q.1).1).trans q.1,q.2⟩,all_snoc h.liv l,h.few,h.fewer⟩
theorem TkI.less (h:TkI b K st s m (n+1) js ls):TkI b K st s m n js ls :=
 ⟨h.suf,h.mok.imp fun k q=>⟨q.1,Nat.le_of_succ_le q.2⟩,h.nodup,h.at_,h.liv,Nat.le_of_succ_le h.few,fun x m=>Nat.le_of_succ_le (h.fewer x m)⟩
theorem TkI.mem (h:TkI b K st s m n js ls) (hs:Suf b t) (hm:∃ k,MOk m' k/\k+n<=K):TkI b K st t m' n js ls:=⟨hs,hm,h.nodup,h.at_,h.liv,h.few,h.fewer⟩
theorem TkI.in_ (h:TkI b K st s m n js ls):∀ i∈js,i < ls.length:=by
 have a:=h.at_
 clear h
 induction js generalizing st with
 | nil=>exact fun i m=>nomatch m
 | cons j js ih =>
  cases st with
  | nil=>exact nomatch a
  | cons x st =>
   cases (show IsCons .. from a) with | mk a1 a2 =>
   exact fun i m=>(List.mem_cons.mp m).elim (fun e=>e▸a1.elim fun vs q=>(List.getElem?_eq_some_iff.mp q.1).1) (ih a2 i)
theorem TkI.push (h:TkI b K st s m (n+1) js ls):TkI b K ([]::st) s m n (ls.length::js) (ls++[.list []]) :=
 have g:=(h.less).grow (x := .list []) rfl
 ⟨g.suf,g.mok,List.nodup_cons.mpr ⟨fun m=>Nat.lt_irrefl _ (h.in_ _ m),h.nodup⟩,.mk ⟨[],List.getElem?_concat_length,.nil⟩ g.at_,g.liv,by have:=h.few;show st.length+1+n<=900;omega,fun x m=>(List.mem_cons.mp m).elim (fun e=>by subst e;exact Nat.le_trans (Nat.le_add_left _ _) (Nat.zero_add n▸g.few)) (g.fewer x)⟩
theorem set_other {js:List Nat} {st:List (List Nd)} (hj:j∉js) (a:All2 (fun j nds=>∃ vs,ls[j]?=some (.list vs)/\NdVs nds vs) js st):All2 (fun i nds=>∃ vs,(ls.set j x)[i]?=some (.list vs)/\NdVs nds vs) js st:=by
 induction js generalizing st with
 | nil=>exact a
 | cons i js ih =>
  cases st with
  | nil=>exact nomatch a
  | cons y st =>
   cases (show IsCons .. from a) with | mk a1 a2 =>
   have h1:=not_or.mp fun z=>hj (List.mem_cons.mpr z)
   exact .mk (a1.imp fun vs q=>⟨(List.getElem?_set_ne h1.1).trans q.1,q.2⟩) (ih h1.2 a2)
theorem TkI.pop (h:TkI b K (top::st) s m n (j::js) ls) (l:live x=true):TkI b K st s m n js (ls.set j x):=by
 cases (show IsCons .. from h.at_) with | mk a1 a2 =>
 have nd:=List.nodup_cons.mp h.nodup
 exact ⟨h.suf,h.mok,nd.2,set_other nd.1 a2,all_set h.liv l,Nat.le_trans (Nat.add_le_add_right (Nat.le_succ _) n) h.few,fun x m=>h.fewer x (.tail _ m)⟩
theorem TkI.add (h:TkI b K (top::st) s m n (j::js) ls) (h2:top.length+(n+1)<=900) (hv:NdVs top vs) (k:NdV nd v):TkI b K ((top++[nd])::st) s m n (j::js) (ls.set j (.list (vs++[v]))):=by
 have hj:=h.in_ j (.head _)
 cases (show IsCons .. from h.at_) with | mk a1 a2 =>
 have nd:=List.nodup_cons.mp h.nodup
 exact ⟨h.suf,h.mok,h.nodup,.mk ⟨_,List.getElem?_set_self hj,hv.snoc k⟩ (set_other nd.1 a2),all_set h.liv rfl,h.few,fun x m=>(List.mem_cons.mp m).elim (fun e=>by rw [e];exact snocL h2) fun m=>h.fewer x (.tail _ m)⟩
theorem isOf_cons:isOf (j::js)=isOf js++[j+8]:=by unfold isOf;rw [List.map_cons,List.reverse_cons]
theorem isOf_len:(isOf js).length=js.length:=by unfold isOf;rw [List.length_reverse,List.length_map]
theorem isOf_empty:(isOf (j::js)).isEmpty=false:=by rw [isOf_cons];cases isOf js<;>rfl
theorem TkI.len (h:TkI b K st s m n js ls):(isOf js).length<=900:=by rw [isOf_len,<- h.at_.length];exact Nat.le_trans (Nat.le_add_right _ _) h.few
theorem opt_mk {α:Type} {o:Option α} {k:α->Prop} {x:α} (h:o=some x) (q:k x):opt o k:=by rw [h];exact q
end
end Mine.C
namespace Mine.C
noncomputable def bT:List Stx:=[ifS (andT (cmpT isNotN (lX 6) (tX .none)) [cmpT eqE (lX 4) (lstX [])]) [retS (lX 6)] [],ifS (cmpT isNotN (lX 6) (tX (.none))) [exprS (methX mApp (itemX itLast (lX 4) (negX (tX (.int 1)))) [lX 6])] [],asgS 5 (kX (gX 77 (.fn 48) rfl) [lX 1])]
theorem nd8 {j:Nat}:decide ([0,1,2,3,4,5,6,j+8] : List Nat).Nodup=true:=decide_eq_true (by simp)
theorem asE_new {m:Mm} {b s:Bs} {is:List Nat} {ls:Hp} {k:Bool->Prop} (q:k is.isEmpty):asE (.ref 7) (.ref (tH m b s is ls).length) (tH m b s is ls++[.list []]) k:=by
 show atRs (tH m b s is ls++[.list []]) 7 fun x=>atL (tH m b s is ls++[.list []]) (tH m b s is ls).length fun y=>y=[]/\k x.isEmpty
 refine atO_mk (x := .refs is) rfl ?_
 show atL (tH m b s is ls++[.list []]) (tH m b s is ls).length fun y=>y=[]/\k is.isEmpty
 exact atO_mk (x := .list []) List.getElem?_concat_length ⟨rfl,q⟩
theorem eqE_new {m:Mm} {b s:Bs} {is:List Nat} {ls:Hp} {k:Bool->Prop} (q:k is.isEmpty):eqE.W (.ref 7) (.ref (tH m b s is ls).length) (tH m b s is ls++[.list []]) k:=asE_new q
theorem neE_new {m:Mm} {b s:Bs} {is:List Nat} {ls:Hp} {k:Bool->Prop} (q:k (!is.isEmpty)):neE.W (.ref 7) (.ref (tH m b s is ls).length) (tH m b s is ls++[.list []]) k:=asE_new (k:=fun r=>k !r) q
theorem mApp_at {hp:Hp} {i:Nat} {x:O} {k:V->Prop} (e:hp[i]?=some x) (l:isLst x=true) (q:k (.bi 10)):mApp.W (.ref i) hp k:=by
 show atO hp i fun x=>cond (isLst x) (k (.bi 10)) False
 refine atO_mk e ?_
 rw [l];exact q
section
variable {S:Sx} {d n k f K:Nat} {hp:Hp} {b s w r t:Bs} {l:List D} {nds:List Nd} {c:UInt8} {m:Mm} {res:Rt} {nd:Nd} {Q:V->Hp->Prop} {X:Bs->Prop} (Y:Std S)
include Y
theorem token_ok (h:Suf b s) (hm:MOk m k) (hk:k+n<=K) (hK:K<=900) (hf:f<=1000000) (e:tokF f n [] s=some res) (x:∀ a,res = .err a->X a) (q0:∀ m' k',res = .none->MOk m' k'->k'<=K->Q (.d .none) (sH m' b []))
  (q1:∀ nd t n' v m' k',res = .ok nd t n'->Suf b t->NdV nd v->MOk m' k'->k'+n'<=K->Q (.d v) (sH m' b t)):CallOk S (d+9) (.fn 67) [.inst 1 5,.inst 0 6,.d (.bool false),.d .none] (sH m b s) Q X :=
 CallOk_drop 7 (by exact Nat.le_refl 7) (c67.run Y.fns rfl (by
  cases n with
  | zero=>exact nomatch e
  | succ n =>
  have e:(firstF f s).casesOn (motive:=fun _=>Option Rt) Option.none (tokH f n (tokF f n) [])=some res:=e
  refine optE (o:=firstF f s) (fun e1=>by rw [e1] at e;exact nomatch e) fun o e1=>?_
  rw [e1] at e
  refine CallOk_in (hp:=tH m b s (isOf []) []) [6] (first_ok Y h e1 fun hs=>⟨rfl,?_⟩) rfl rfl rfl
  intro P hP
  suffices step:∀ n,(∀ (st:List (List Nd)) (s:Bs) (m:Mm) (js:List Nat) (ls:Hp) (v5 v6:Option V),TkI b K st s m n js ls->tokF f n st s=some res->CallOk S (d+8) (.fn 48) [.inst 0 6] (tH m b s (isOf js) ls) (fun o hp=>P [some (.inst 1 5),some (.inst 0 6),some (.d (.bool false)),some (.d .none),some (.ref 7),some o,v6] hp) X) ->
    ∀ (st:List (List Nd)) (o:Option (UInt8×Bs)) (m:Mm) (js:List Nat) (ls:Hp) (v6:Option V),TkI b K st (firstU o) m (n+1) js ls->tokH f n (tokF f n) st o=some res->P [some (.inst 1 5),some (.inst 0 6),some (.d (.bool false)),some (.d .none),some (.ref 7),some (.d (firstD o)),v6] (tH m b (firstS o) (isOf js) ls) by
   have key:∀ (n:Nat) (st:List (List Nd)) (o:Option (UInt8×Bs)) (m:Mm) (js:List Nat) (ls:Hp) (v6:Option V),TkI b K st (firstU o) m (n+1) js ls->tokH f n (tokF f n) st o=some res->P [some (.inst 1 5),some (.inst 0 6),some (.d (.bool false)),some (.d .none),some (.ref 7),some (.d (firstD o)),v6] (tH m b (firstS o) (isOf js) ls):=by
    intro n
    induction n with
    | zero=>exact step 0 fun st s m js ls v5 v6 I e=>nomatch e
    | succ n ih =>
     refine step (n+1) fun st s m js ls v5 v6 I e=>?_
     have e:(firstF f s).casesOn (motive:=fun _=>Option Rt) Option.none (tokH f n (tokF f n) st)=some res:=e
     refine optE (o:=firstF f s) (fun e1=>by rw [e1] at e;exact nomatch e) fun o e1=>?_
     rw [e1] at e
     exact CallOk_in [6] (first_ok Y I.suf e1 fun hs=>⟨rfl,ih st o m js ls v6 (I.mem hs I.mok) e⟩) rfl rfl I.liv
   exact key n [] o m [] [] none ⟨hs,⟨k,hm,hk⟩,List.nodup_nil,rfl,rfl,by rw [List.length_nil,Nat.zero_add];exact Nat.le_trans (Nat.le_trans (Nat.le_add_left _ _) hk) hK,fun x m=>nomatch m⟩ e
  intro n nx
  have tail:∀ (N:Loc->Hp->Prop) (st:List (List Nd)) (t:Bs) (m:Mm) (js:List Nat) (ls:Hp) (v5:Option V) (v:D) (nd:Nd),TkI b K st t m n js ls->(∀ x∈st,x.length+(n+1)<=900)->NdV nd v->(st.casesOn (some (.ok nd t n)) fun top st'=>tokF f n ((top++[nd])::st') t:Option Rt)=some res ->
    Wss bT (d+8) (CallOk S) [some (.inst 1 5),some (.inst 0 6),some (.d (.bool false)),some (.d .none),some (.ref 7),v5,some (.d v)] (tH m b t (isOf js) ls) ⟨P,N,P,fun v hp=>(belV (fun i=>Nat.blt i 7) v=true/\(hp.take 7).all (belO fun i=>Nat.blt i 7)=true)/\Q v (hp.take 7)⟩ X:=fun N st t m js ls v5 v nd I h2 hv e=>by
   obtain ⟨xs,rfl⟩:=hv.obj
   refine ⟨rfl,Nat.zero_le _,eqE_new ?_⟩
   cases st with
   | nil =>
    cases (show js=[] from by cases js with | nil=>rfl | cons j js=>exact nomatch I.at_.length)
    cases e
    obtain ⟨k',hm',hk'⟩:=I.mok
    exact ⟨⟨rfl,rfl⟩,q1 _ _ _ _ _ _ rfl I.suf hv hm' hk'⟩
   | cons top st =>
    cases js with
    | nil=>exact nomatch I.at_
    | cons j js =>
    have I2:=I.grow (x := .list []) rfl
    cases (show IsCons .. from I2.at_) with | mk a1 a2 =>
    obtain ⟨vs,ea,ha⟩:=a1
    refine andF isOf_empty ?_
    refine ⟨rfl,rfl,Nat.lt_of_le_of_lt I.len (by decide),?_⟩
    refine opt_mk (x:=j+8) (by rw [isOf_cons];exact List.getLast?_concat) ?_
    refine mApp_at (i:=j+8) (x := .list vs) ea rfl ?_
    refine appD (p:=j+8) (xs:=vs) (z := .obj 5 xs) ea ?_ ⟨rfl,?_⟩
    ·rw [ha.len];exact Nat.le_trans (Nat.le_add_right _ _) (Nat.le_trans (h2 top (.head _)) (by decide))
    exact nx _ t m (j::js) _ v5 _ (I2.add (h2 top (.head _)) ha hv) e
  intro st o m js ls v6 I e
  refine hP _ _ P (fun a b x=>x) ⟨rfl,?_⟩
  cases o with
  | none =>
   refine ⟨Nat.zero_le _,neE_new ?_⟩
   cases st with
   | nil =>
    cases (show js=[] from by cases js with | nil=>rfl | cons j js=>exact nomatch I.at_.length)
    cases e
    obtain ⟨k',hm',hk'⟩:=I.mok
    exact ⟨⟨rfl,rfl⟩,q0 _ _ rfl hm' (Nat.le_trans (Nat.le_add_right _ _) hk')⟩
   | cons top st =>
    cases js with
    | nil=>exact nomatch I.at_
    | cons j js=>exact ifT (congrArg not isOf_empty) ⟨rfl,x _ (Option.some.inj e).symm⟩
  | some p =>
   obtain ⟨c,r⟩:=p
   have Ir:TkI b K st r m (n+1) js ls:=I.mem I.suf.tail I.mok
   cases c123:((c.toNat:Int)==123) with
   | true =>
    have e:=pkT (P:=fun z=>z=some res) c123 e
    refine ifT c123 ⟨Nat.zero_le _,?_⟩
    refine appR rfl (Nat.le_trans I.len (by decide)) ⟨rfl,⟨rfl,rfl,?_⟩⟩
    have:=nx ([]::st) r m (ls.length::js) (ls++[.list []]) (some (oc c)) (some (.d .none)) Ir.push e
    rw [isOf_cons] at this
    exact this
   | false =>
   have e:=pkF (P:=fun z=>z=some res) c123 e
   refine ifF c123 ?_
   cases c125:((c.toNat:Int)==125) with
   | true =>
    have e:=pkT (P:=fun z=>z=some res) c125 e
    refine ifT c125 ⟨Nat.zero_le _,eqE_new ?_⟩
    cases st with
    | nil=>exact nomatch e
    | cons top st =>
     cases js with
     | nil=>exact nomatch I.at_
     | cons j js =>
     have e:cond (Nat.ble top.length 100) (st.casesOn (some (.ok (.proc top) r n)) fun nx st''=>tokF f n ((nx++[.proc top])::st'') r) Option.none=some res:=e
     have I2:=Ir.grow (x := .list []) rfl
     cases (show IsCons .. from I2.at_) with | mk a1 a2 =>
     obtain ⟨vs,ea,ha⟩:=a1
     refine boolE (b:=Nat.ble top.length 100) (fun h100=>by exact nomatch pkF (P:=fun z=>z=some res) h100 e) fun h100=>?_
     have e:=pkT (P:=fun z=>z=some res) h100 e
     obtain ⟨k',hm',hk'⟩:=I.mok
     refine ifF isOf_empty ?_
     refine popER (i:=j+8) (xs:=isOf js) (by show some (O.refs (isOf (j::js)))=_;rw [isOf_cons]) (Nat.lt_of_le_of_lt (m:=900) (by have:=I.len;rw [isOf_cons,List.length_append] at this;exact Nat.le_of_succ_le this) (by decide)) ?_
     refine CallOk_in [0,1,2,3,4,5,6,j+8] (proc_ok (nds:=top) Y hm' (by omega) (by rw [ha.len];exact Nat.le_of_ble_eq_true h100) ha fun v m' hv hm2=>⟨rfl,?_⟩) nd8 (by show [_,_,_,_,_,_,_,(ls++[O.list []])[j]?]=_;rw [ea];rfl) (show (ls++[O.list []]).all live=true from I2.liv)
     exact tail _ st r m' js _ _ v (.proc top) (((I2.less).pop (x := .list vs) rfl).mem Ir.suf ⟨k'+1,hm2,by omega⟩) (fun x m=>I.fewer x (.tail _ m)) hv e
   | false =>
   have e:=pkF (P:=fun z=>z=some res) c125 e
   refine ifF c125 ?_
   obtain ⟨k',hm',hk'⟩:=I.mok
   refine optE (o:=plainF f c r) (fun hp=>by rw [hp] at e;exact nomatch e) fun u hp=>?_
   rw [hp] at e
   refine CallOk_in [0,1,2,3,4,5,6] (plain_ok Y I.suf hf hm' (by omega) hp (fun a z=>?_) fun nd t v m' z ht hv hm2=>⟨rfl,?_⟩) rfl rfl I.liv
   ·subst z;exact x _ (Option.some.inj e).symm
   ·subst z
    exact tail _ st t m' js ls _ v nd ((Ir.mem ht I.mok).less.mem ht ⟨k'+1,hm2,by omega⟩) (fun x m=>by have:=I.fewer x m;omega) hv e))
end
end Mine.C
namespace Mine.C
inductive Rl | ok (l:List Nd) | err (e:Bs)
noncomputable def thsF (f i:Nat):Nat->Bs->List Nd->Option Rl:=i.rec (fun n s a=>none) fun i ih n s a=>(tokF f n [] s).casesOn none fun r=>r.casesOn (some (.ok a)) (fun nd t n'=>ih n' t (a++[nd])) fun e=>some (.err e)
inductive LH (b:Bs) (f K:Nat) (res:Rl):Nat->V->Hp->Prop
 | stop {i k:Nat} {l:List Nd} {vs:List D} {m:Mm}:res = .ok l->NdVs l vs->MOk m k->k<=K->LH b f K res i (.d .none) (sH m b []++[.list vs])
 | go {i k n:Nat} {a:List Nd} {nd:Nd} {xs vs:List D} {t:Bs} {m:Mm}:Suf b t->MOk m k->k+n<=K->NdVs a vs->NdV nd (.obj 5 xs)->a.length+(i+1)<=900->thsF f i n t (a++[nd])=some res->LH b f K res (i+1) (.d (.obj 5 xs)) (sH m b t++[.list vs])
section
variable {S:Sx} {d n k f i K:Nat} {hp:Hp} {b s w r t:Bs} {m:Mm} {a:List Nd} {vs:List D} {res:Rl} {Q:V->Hp->Prop} {X:Bs->Prop} (Y:Std S)
include Y
theorem tok_at (h:Suf b s) (hm:MOk m k) (hk:k+n<=K) (hK:K<=900) (hf:f<=1000000) (ha:NdVs a vs) (hl:a.length+i<=900) (e:thsF f i n s a=some res) (x:∀ a,res = .err a->X a):CallOk S (d+9) (.fn 67) [.inst 1 5,.inst 0 6,.d (.bool false),.d .none] (sH m b s++[.list vs]) (LH b f K res i) X:=by
 cases i with
 | zero=>exact nomatch e
 | succ i =>
  have e:(tokF f n [] s).casesOn (motive:=fun _=>Option Rl) none (fun r=>r.casesOn (some (.ok a)) (fun nd t n'=>thsF f i n' t (a++[nd])) fun e=>some (.err e))=some res:=e
  refine optE (o:=tokF f n [] s) (fun ht=>by rw [ht] at e;exact nomatch e) fun r ht=>?_
  rw [ht] at e
  refine CallOk_at [0,1,2,3,4,5,6] (token_ok Y h hm hk hK hf ht (fun z er=>?_) (fun m' k' er hm' hk'=>?_) fun nd t n' v m' k' er hts hv hm' hk'=>?_)
  ·subst er;exact x _ (Option.some.inj e).symm
  ·subst er;exact .stop (Option.some.inj e).symm ha hm' hk'
  ·subst er
   obtain ⟨xs,rfl⟩:=hv.obj
   exact .go hts hm' hk' ha hv hl e
theorem things_ok (h:Suf b s) (hm:MOk m k) (hk:k+n<=K) (hK:K<=900) (hf:f<=1000000) (hi:i<=900) (e:thsF f i n s []=some res) (x:∀ a,res = .err a->X a)
  (q:∀ l vs m' k',res = .ok l->NdVs l vs->MOk m' k'->k'<=K->Q (.ref 7) (sH m' b []++[.list vs])):CallOk S (d+10) (.fn 68) [.inst 1 5,.inst 0 6,.d (.bool false),.d .none] (sH m b s) Q X :=
 c68.run Y.fns rfl (by
  refine ⟨Nat.zero_le _,CallOk_mono (tok_at Y h hm hk hK hf .nil (by rw [List.length_nil,Nat.zero_add];exact hi) e x) (fun o hp lh P hP=>?_) fun b x=>x⟩
  suffices key:∀ i o hp,LH b f K res i o hp->P [some (.inst 1 5),some (.inst 0 6),some (.d (.bool false)),some (.d .none),some (.ref 7),some o] hp from key i o hp lh
  intro i
  induction i with
  | zero =>
   intro o hp lh
   cases lh with | stop er ha hm' hk'=>exact hP _ _ P (fun a b x=>x) ⟨rfl,q _ _ _ _ er ha hm' hk'⟩
  | succ i ih =>
   intro o hp lh
   cases lh with
   | stop er ha hm' hk'=>exact hP _ _ P (fun a b x=>x) ⟨rfl,q _ _ _ _ er ha hm' hk'⟩
   | go hs hm' hk' ha hv hl e =>
    refine hP _ _ P (fun a b x=>x) ⟨rfl,appD rfl ?_ ⟨rfl,CallOk_mono (tok_at Y hs hm' hk' hK hf (ha.snoc hv) (snocL hl) e x) (fun o hp lh=>ih o hp lh) fun b x=>x⟩⟩
    rw [ha.len];exact Nat.le_trans (Nat.le_add_right _ _) (Nat.le_trans hl (by decide)))
theorem scannerNew (q:Q (.inst 1 5) (memH m++[.ns 1 [.inst 3 0]])):CallOk S (d+2) (.cls 1) [.inst 3 0] (memH m) Q X:=make_ok Y.cls (c60.run Y.fns rfl (by exact ⟨rfl,q⟩))
theorem sourceNew (q:Q (.inst 0 0) [src b b]):CallOk S (d+2) (.cls 0) [.d (.bytes b)] [] Q X :=
 make_ok Y.cls (c41.run Y.fns rfl (by
  unfold src at q
  rw [Int.sub_self] at q
  exact ⟨rfl,q⟩))
theorem scanThings_ok (hb:b.length<=1000000) (hm:MOk m k) (hk:k+n<=K) (hK:K<=900) (hf:f<=1000000) (hi:i<=900) (e:thsF f i n b []=some res) (x:∀ a,res = .err a->X a)
  (q:∀ l vs m' k',res = .ok l->NdVs l vs->MOk m' k'->k'<=K->Q (.ref 7) (sH m' b []++[.list vs])):CallOk S (d+11) (.fn 70) [.d (.bytes b),.inst 3 0] (memH m) Q X :=
 c70.run Y.fns rfl (by
  refine scannerNew Y ?_
  refine CallOk_at [] (sourceNew Y ?_)
  exact things_ok Y ⟨List.suffix_refl _,hb⟩ hm hk hK hf hi e x q)
end
end Mine.C
namespace Mine.C
theorem and1 {P:Bool->Prop} {b:Bool} (h:P b):cond (b==false) (P false) (P true):=by cases b<;>exact h
theorem comp_map {α:Type} {elt:Ex} {out:Loc} {d:Nat} {C:CallP} {st:Hp->Prop} {Q:V->Hp->Prop} {hp:Hp} {fx fy:α->D} (hs:st hp) {l:List α}:∀ {acc:List D},(∀ a∈l,∀ Q':V->Hp->Prop,Q' (.d (fy a)) hp->elt.W d C (some (.d (fx a))::out) hp Q' fun b=>False)->Q (.ref hp.length) (hp++[.list (acc++l.map fy)])->compG none elt out d C st Q (l.map fx) acc hp:=by
 induction l with
 | nil=>intro acc h q;rw [show acc++List.map fy []=acc from List.append_nil _] at q;exact q
 | cons a l ih =>
  intro acc h q
  refine h a (.head _) _ ⟨hs,ih (fun b m=>h b (.tail _ m)) ?_⟩
  rw [List.append_assoc];exact q
theorem look_map {α β γ:Type} [BEq α] {f:β->γ} {k:α} {l:List (α×β)}:(l.map fun p=>(p.1,f p.2)).lookup k=(l.lookup k).map f:=by
 induction l with
 | nil=>rfl
 | cons p r ih =>
  rw [List.map_cons,List.lookup_cons,List.lookup_cons]
  cases k==p.1 with
  | true=>rfl
  | false=>exact ih
noncomputable def escQ:List (Int×Bs):=[(10,[92,110]),(13,[92,114]),(9,[92,116]),(8,[92,98]),(12,[92,102]),(40,[92,40]),(41,[92,41]),(92,[92,92])]
noncomputable def octP (c:UInt8):List Int:=[92,48+(c.toNat:Int) / 64,48+(c.toNat:Int) / 8 % 8,48+(c.toNat:Int) % 8]
noncomputable def ofI (l:List Int):Bs:=l.map fun n=>n.toNat.toUInt8
noncomputable def escP (c:UInt8):Bs:=(escQ.lookup (c.toNat:Int)).casesOn (cond (decide ((32:Int)<=c.toNat)&&decide ((c.toNat:Int)<=126)) [c] (ofI (octP c))) fun b=>b
theorem octP_lt {c:UInt8}:∀ n∈octP c,0<=n/\n < 256:=fun n m=>of_decide_eq_true (List.all_eq_true.mp (octAll (p:=fun c=>(octP c).all fun n=>decide (0<=n/\n < 256)) (by decide +kernel) c) n m)
noncomputable def strP (w:Bs):Bs:=[40]++joinB [] (w.map escP)++[41]
noncomputable def atomB (nd:Nd):Option Bs:=nd.casesOn decF figD (fun w ex=>cond (Nat.ble w.length 1000) (some (cond ex w ([47]++w))) none) (fun w=>cond (Nat.ble w.length 1000&&Nat.ble (joinB [] (w.map escP)).length 100000) (some (strP w)) none) fun l=>none
theorem cut_all {α:Type} {l:List α}:cutL l (some 0) (some (0+(l.length:Int)))=l:=by
 show List.drop 0 (l.take (min (0+(l.length:Int)).toNat l.length))=l
 rw [Int.zero_add,Int.toNat_natCast,Nat.min_self,List.take_length];rfl
section
variable {S:Sx} {d n k:Nat} {hp:Hp} {b s w:Bs} {i v:Int} {x:D} {ex:Bool} {l:List D} {c:UInt8} {nd:Nd} {Q:V->Hp->Prop} {X:Bs->Prop} (Y:Std S)
include Y
theorem isNum_ok (q:Q (.d (.bool (k==63||k==64))) hp):CallOk S (d+1) (.fn 34) [.d (thingD k x ex)] hp Q X:=c34.run Y.fns rfl (by exact or2 (P:=fun b=>Q (.d (.bool b)) hp) q)
theorem isArr_ok (q:Q (.d (.bool (k==66||k==67))) hp):CallOk S (d+1) (.fn 35) [.d (thingD k x ex)] hp Q X:=c35.run Y.fns rfl (by exact or2 (P:=fun b=>Q (.d (.bool b)) hp) q)
theorem isProc_ok (q:Q (.d (.bool (ex&&(k==66||k==67)))) hp):CallOk S (d+2) (.fn 36) [.d (thingD k x ex)] hp Q X :=
 c36.run Y.fns rfl (by
  cases ex with
  | false=>exact q
  | true=>exact isArr_ok Y (and1 (P:=fun b=>Q (.d (.bool b)) hp) q))
theorem octets_ok (hw:w.length<=1000) (q:Q (.d (.bytes w)) []):CallOk S (d+1) (.fn 39) [.d (spanD (textD i w) w.length)] [] Q X :=
 CallOk_drop 0 (by exact Nat.le_refl 0) (c39.run Y.fns rfl (by
  refine ⟨⟨by decide,Int.add_nonneg (by decide) (Int.natCast_nonneg _),Nat.le_trans hw (by decide)⟩,bytesB rfl (Nat.le_trans cut_len (Nat.le_trans hw (by decide))) ⟨⟨rfl,rfl⟩,?_⟩⟩
  rw [cut_all];exact q))
theorem thingsOf_ok (hl:l.length<=1000) (q:Q (.ref 0) [.list l]):CallOk S (d+1) (.fn 40) [.d (spanD (rowD i l) l.length)] [] Q X :=
 c40.run Y.fns rfl (by
  refine ⟨by decide,Int.add_nonneg (by decide) (Int.natCast_nonneg _),Nat.le_trans hl (by decide),?_⟩
  rw [cut_all];exact q)
theorem escP_ok (q:Q (.d (.bytes (escP c))) []):CallOk S (d+1) (.fn 71) [oc c] [] Q X :=
 CallOk_drop 0 (by exact Nat.le_refl 0) (c71.run Y.fns rfl (by
  have hl:(escQ.map fun p=>(p.1,D.bytes p.2)).lookup (c.toNat:Int)=(escQ.lookup (c.toNat:Int)).map D.bytes:=look_map
  have q:Q (.d (.bytes ((escQ.lookup (c.toNat:Int)).casesOn (cond (decide ((32:Int)<=c.toNat)&&decide ((c.toNat:Int)<=126)) [c] (ofI (octP c))) fun b=>b))) []:=q
  cases he:escQ.lookup (c.toNat:Int) with
  | some b =>
   rw [he] at q hl
   refine ifT (b:=((escQ.map fun p=>(p.1,D.bytes p.2)).lookup (c.toNat:Int)).isSome) (by rw [hl];rfl) ?_
   refine opt_mk hl ?_
   exact ⟨⟨rfl,rfl⟩,q⟩
  | none =>
   rw [he] at q hl
   refine ifF (b:=((escQ.map fun p=>(p.1,D.bytes p.2)).lookup (c.toNat:Int)).isSome) (by rw [hl];rfl) (chainC ?_)
   cases h:(decide ((32:Int)<=c.toNat)&&decide ((c.toNat:Int)<=126)) with
   | true =>
    have q:=pkT (P:=fun z=>Q (.d (.bytes z)) []) h q
    refine ⟨show 1<=1000 by decide,bytesI (ns:=[(c.toNat:Int)]) rfl (show 1<=1000000 by decide) (fun x hx=>by rw [List.mem_singleton.mp hx];exact octLt c) ⟨⟨rfl,rfl⟩,?_⟩⟩
    rw [List.map_singleton,oct_back];exact q
   | false =>
    have q:=pkF (P:=fun z=>Q (.d (.bytes z)) []) h q
    exact ⟨⟨by decide,by decide⟩,⟨by decide,by decide⟩,by decide,by decide,show 4<=1000 by decide,bytesI (ns:=octP c) rfl (show 4<=1000000 by decide) octP_lt ⟨⟨rfl,rfl⟩,q⟩⟩))
theorem strP_ok (hw:w.length<=1000) (hj:(joinB [] (w.map escP)).length<=100000) (q:Q (.d (.bytes (strP w))) []):CallOk S (d+2) (.fn 72) [.d (.bytes w)] [] Q X :=
 CallOk_drop 0 (by exact Nat.le_refl 0) (c72.run Y.fns rfl (by
  refine ⟨rfl,Nat.lt_of_le_of_lt (m:=1000) (by unfold octs;rw [List.length_map];exact hw) (by decide),?_⟩
  refine comp_map (fx:=fun c:UInt8=>D.int c.toNat) (fy:=fun c => .bytes (escP c)) trivial (fun c m Q' q'=>CallOk_in [] (escP_ok Y ⟨rfl,q'⟩) rfl rfl rfl) ?_
  refine joinOk (bs:=w.map escP) (by rw [List.map_map];rfl) (Nat.le_trans hj (by decide)) ?_
  have h1:([40] : Bs).length+(joinB [] (w.map escP)).length<=16777216:=Nat.le_trans (Nat.add_le_add_left hj _) (by decide)
  refine ⟨h1,?_,⟨rfl,rfl⟩,q⟩
  rw [List.length_append]
  exact Nat.le_trans (Nat.add_le_add_right (Nat.add_le_add_left hj _) _) (by decide)))
end
end Mine.C
namespace Mine.C
theorem comp_all {elt:Ex} {out:Loc} {d:Nat} {C:CallP} {st:Hp->Prop} {Q:V->Hp->Prop} {hp:Hp} (hs:st hp) {xs:List D}:∀ {ys acc:List D},All2 (fun x y=>∀ Q':V->Hp->Prop,Q' (.d y) hp->elt.W d C (some (.d x)::out) hp Q' fun b=>False) xs ys->Q (.ref hp.length) (hp++[.list (acc++ys)])->compG none elt out d C st Q xs acc hp:=by
 induction xs with
 | nil=>intro ys acc h q;cases (show ys=[] from h);rw [List.append_nil] at q;exact q
 | cons x xs ih =>
  intro ys acc h q
  cases (show IsCons .. from h) with | mk h1 h2 =>
  refine h1 _ ⟨hs,ih h2 ?_⟩
  rw [List.append_assoc];exact q
noncomputable def mapO {α β:Type} (f:α->Option β) (l:List α):Option (List β):=l.rec (some []) fun x r ih=>(f x).casesOn none fun b=>ih.casesOn none fun bs=>some (b::bs)
noncomputable def procB (bs:List Bs):Bs:=joinB [32] (([[123]]++bs)++[[125]])
noncomputable def tokB (n:Nat):Nd->Option Bs:=n.rec (fun nd=>none) fun n ih nd=>nd.casesOn (fun i=>atomB (.int i)) (fun i=>atomB (.real i)) (fun w ex=>atomB (.name w ex)) (fun w=>atomB (.str w)) fun l=>(mapO ih l).casesOn none fun bs=>cond (Nat.ble l.length 100&&Nat.ble (procB bs).length 100000) (some (procB bs)) none
theorem NdVs.cons {x:Nd} {l:List Nd} {v:D} {vs:List D} (h:NdVs (x::l) (v::vs)):NdV x v/\NdVs l vs:=⟨h.at_ 0 _ _ rfl rfl,⟨Nat.succ.inj h.len,fun i x v e1 e2=>h.at_ (i+1) x v e1 e2⟩⟩
theorem mapO_len {α β:Type} {f:α->Option β} {l:List α}:∀ {bs:List β},mapO f l=some bs->bs.length=l.length:=by
 induction l with
 | nil=>intro bs e;cases e;rfl
 | cons x l ih =>
  intro bs e
  have e:(f x).casesOn (motive:=fun _=>Option (List β)) none (fun b=>(mapO f l).casesOn none fun bs=>some (b::bs))=some bs:=e
  refine optE (o:=f x) (fun h=>by rw [h] at e;exact nomatch e) fun b h=>?_
  rw [h] at e
  have e:(mapO f l).casesOn (motive:=fun _=>Option (List β)) none (fun bs=>some (b::bs))=some bs:=e
  cases h2:mapO f l with
  | none=>rw [h2] at e;exact nomatch e
  | some bs'=>rw [h2] at e;cases e;exact congrArg Nat.succ (ih h2)
theorem mapO_all {f:Nd->Option Bs} {R:D->D->Prop} {l:List Nd} (h:∀ x v b,NdV x v->f x=some b->R v (.bytes b)):∀ {vs:List D} {bs:List Bs},NdVs l vs->mapO f l=some bs->All2 R vs (bs.map D.bytes):=by
 induction l with
 | nil=>intro vs bs hv e;cases e;cases List.length_eq_zero_iff.mp hv.len;rfl
 | cons x l ih =>
  intro vs bs hv e
  cases vs with
  | nil=>exact nomatch hv.len
  | cons v vs =>
  have e:(f x).casesOn (motive:=fun _=>Option (List Bs)) none (fun b=>(mapO f l).casesOn none fun bs=>some (b::bs))=some bs:=e
  refine optE (o:=f x) (fun hx=>by rw [hx] at e;exact nomatch e) fun b hx=>?_
  rw [hx] at e
  have e:(mapO f l).casesOn (motive:=fun _=>Option (List Bs)) none (fun bs=>some (b::bs))=some bs:=e
  cases h2:mapO f l with
  | none=>rw [h2] at e;exact nomatch e
  | some bs'=>rw [h2] at e;cases e;exact .mk (h x v b hv.cons.1 hx) (ih hv.cons.2 h2)
section
variable {S:Sx} {d n k:Nat} {hp:Hp} {b s w:Bs} {i v:Int} {x:D} {ex:Bool} {l:List D} {c:UInt8} {nd:Nd} {Q:V->Hp->Prop} {X:Bs->Prop} (Y:Std S)
include Y
theorem figI_ok (e:decF v=some w) (q:Q (.d (.bytes w)) []):CallOk S (d+2) (.fn 22) [.d (.str 63),.d (.int v)] [] Q X:=c22.run Y.fns rfl (by exact dec_ok Y e q)
theorem figR_ok (e:figD v=some w) (q:Q (.d (.bytes w)) []):CallOk S (d+2) (.fn 22) [.d (.str 64),.d (.int v)] [] Q X :=
 c22.run Y.fns rfl (by
  unfold figD at e
  refine optE (o:=decF (1000000+absV v % 1000000)) (fun ha=>by rw [ha] at e;exact nomatch e) fun a ha=>?_
  rw [ha] at e
  have e:(trG 10 (cutL a (some 1) none)).casesOn (motive:=fun _=>Option Bs) none (fun c=>(decF (absV v / 1000000)).casesOn none fun u=>cond (Nat.ble (a.length+(u.length+c.length)) 1000) (some (cond (decide (v < 0)) [45] []++u++[46]++c)) none)=some w:=e
  refine optE (o:=trG 10 (cutL a (some 1) none)) (fun ht=>by rw [ht] at e;exact nomatch e) fun c ht=>?_
  rw [ht] at e
  have e:(decF (absV v / 1000000)).casesOn (motive:=fun _=>Option Bs) none (fun u=>cond (Nat.ble (a.length+(u.length+c.length)) 1000) (some (cond (decide (v < 0)) [45] []++u++[46]++c)) none)=some w:=e
  refine optE (o:=decF (absV v / 1000000)) (fun hu=>by rw [hu] at e;exact nomatch e) fun u hu=>?_
  rw [hu] at e
  refine boolE (b:=Nat.ble (a.length+(u.length+c.length)) 1000) (fun hb=>by exact nomatch pkF (P:=fun z=>z=some w) hb e) fun hb=>?_
  cases pkT (P:=fun z=>z=some w) hb e
  have hl:=Nat.le_of_ble_eq_true hb
  have hal:a.length<=1000:=Nat.le_trans (Nat.le_add_right _ _) hl
  have huc:u.length+c.length<=1000:=Nat.le_trans (Nat.le_add_left _ _) hl
  refine absI ⟨by decide,dec_ok Y ha ⟨by decide,Nat.le_trans hal (by decide),fun P hP=>?_⟩⟩
  have fin:Wss (b22.drop 4) (d+1) (CallOk S) [some (.d (.str 64)),some (.d (.int v)),some (.d (.int (absV v))),some (.d (.bytes c))] [] (Kr Q) X:=by
   have hx:∀ x:Bs,x.length<=1->x.length+u.length<=16777216/\(x++u).length+1<=16777216/\(x++u++[46]).length+c.length<=16777216:=fun x h=>by
    rw [List.length_append (bs:=[46]),List.length_append]
    show _/\_/\x.length+u.length+1+c.length<=_
    omega
   cases h:decide (v < 0) with
   | true =>
    rw [h] at q
    have g:=hx [45] (Nat.le_refl 1)
    exact ifT h ⟨⟨by decide,by decide⟩,dec_ok Y hu ⟨g.1,g.2.1,g.2.2,q⟩⟩
   | false =>
    rw [h] at q
    have g:=hx [] (Nat.zero_le 1)
    exact ifF h ⟨⟨by decide,by decide⟩,dec_ok Y hu ⟨g.1,g.2.1,g.2.2,q⟩⟩
  suffices key:∀ n (z:Bs),z.length<=1000->trG n z=some c->P [some (.d (.str 64)),some (.d (.int v)),some (.d (.int (absV v))),some (.d (.bytes z))] [] from key 10 _ (Nat.le_trans cut_len hal) ht
  intro n
  induction n with
  | zero=>exact fun z hz e=>nomatch e
  | succ n ih =>
   intro z hz e
   have hz2:z.length<=16777216:=Nat.le_trans hz (by decide)
   have hz3:z.length<=1000000000:=Nat.le_trans hz (by decide)
   refine hP _ _ P (fun a b x=>x) (lenB hz3 ?_)
   refine boolE (b:=decide ((z.length:Int) > 1)) (fun h1=>by cases pkF (P:=fun y=>y=some c) h1 e;exact andF h1 fin) fun h1=>?_
   have e:=pkT (P:=fun y=>y=some c) h1 e
   have h2:=of_decide_eq_true h1
   refine andT' h1 (lenB hz3 ⟨⟨by omega,by omega,hz2⟩,?_⟩)
   cases h3:(((z.getD ((z.length:Int) - 1).toNat 0).toNat:Int)==48) with
   | false=>cases pkF (P:=fun y=>y=some c) h3 e;exact andF h3 fin
   | true=>exact andT' h3 (lenB hz3 ⟨by omega,hz2,ih _ (Nat.le_trans cut_len hz) (pkT (P:=fun y=>y=some c) h3 e)⟩))
theorem atom_ok {v:D} (hv:NdV nd v) (e:atomB nd=some b) (q:Q (.d (.bytes b)) []):CallOk S (d+4) (.fn 73) [.d v] [] Q X :=
 c73.run Y.fns rfl (by
  cases hv with
  | int i=>exact isNum_ok Y (figI_ok Y e q)
  | real i=>exact isNum_ok Y (figR_ok Y e q)
  | name w ex =>
   refine isNum_ok Y ?_
   have e:cond (Nat.ble w.length 1000) (some (cond ex w ([47]++w))) none=some b:=e
   refine boolE (b:=Nat.ble w.length 1000) (fun hw=>by exact nomatch pkF (P:=fun z=>z=some b) hw e) fun hw=>?_
   cases pkT (P:=fun z=>z=some b) hw e
   cases ex with
   | true=>exact q
   | false=>exact ⟨Nat.le_trans (Nat.add_le_add_left (Nat.le_of_ble_eq_true hw) _) (by decide),q⟩
  | str n w =>
   refine isNum_ok Y ?_
   have e:cond (Nat.ble w.length 1000&&Nat.ble (joinB [] (w.map escP)).length 100000) (some (strP w)) none=some b:=e
   refine boolE (b:=(Nat.ble w.length 1000&&Nat.ble (joinB [] (w.map escP)).length 100000)) (fun hw=>by exact nomatch pkF (P:=fun z=>z=some b) hw e) fun hw=>?_
   cases pkT (P:=fun z=>z=some b) hw e
   have h:=Bool.and_eq_true_iff.mp hw
   exact octets_ok Y (Nat.le_of_ble_eq_true h.1) (strP_ok Y (Nat.le_of_ble_eq_true h.1) (Nat.le_of_ble_eq_true h.2) q)
  | proc=>exact nomatch e)
end
end Mine.C
namespace Mine.C
section
variable {S:Sx} (Y:Std S)
include Y
theorem ptok (n:Nat):∀ {d:Nat} {nd:Nd} {v:D} {b:Bs} {Q:V->Hp->Prop} {X:Bs->Prop},NdV nd v->tokB n nd=some b->Q (.d (.bytes b)) []->CallOk S (d+n+5) (.fn 74) [.d v] [] Q X:=by
 induction n with
 | zero=>exact fun hv e q=>nomatch e
 | succ n ih =>
  intro d nd v b Q X hv e q
  refine CallOk_drop 0 (by exact Nat.le_refl 0) (c74.run (d:=d+n+5) Y.fns rfl ?_)
  have q:(belV (fun i=>Nat.blt i 0) (.d (.bytes b))=true/\(([] : Hp).take 0).all (belO fun i=>Nat.blt i 0)=true)/\Q (.d (.bytes b)) (([] : Hp).take 0):=⟨⟨rfl,rfl⟩,q⟩
  cases hv with
  | int i=>exact isProc_ok Y (atom_ok (d:=d+n+1) Y (.int i) e q)
  | real i=>exact isProc_ok Y (atom_ok (d:=d+n+1) Y (.real i) e q)
  | str m w=>exact isProc_ok Y (atom_ok (d:=d+n+1) Y (.str m w) e q)
  | name w ex =>
   cases ex with
   | false=>exact isProc_ok Y (atom_ok (d:=d+n+1) Y (.name w false) e q)
   | true =>
    refine isProc_ok Y ?_
    have e2:cond (Nat.ble w.length 1000) (some w) none=some b:=e
    have ew:w=b:=by
     cases hw:Nat.ble w.length 1000 with
     | false=>exact nomatch pkF (P:=fun z=>z=some b) hw e2
     | true=>exact Option.some.inj (pkT (P:=fun z=>z=some b) hw e2)
    cases hs:(w==[91]||(w==[93]||(w==[60,60]||(w==[62,62]||false)))) with
    | true=>refine andT' hs ?_;exact ew▸q
    | false=>exact andF hs (atom_ok (d:=d+n+1) Y (.name w true) e q)
  | proc i l vs hl hv =>
   refine isProc_ok Y ?_
   have e:(mapO (tokB n) l).casesOn (motive:=fun _=>Option Bs) none (fun bs=>cond (Nat.ble l.length 100&&Nat.ble (procB bs).length 100000) (some (procB bs)) none)=some b:=e
   refine optE (o:=mapO (tokB n) l) (fun hm=>by rw [hm] at e;exact nomatch e) fun bs hm=>?_
   rw [hm] at e
   refine boolE (b:=(Nat.ble l.length 100&&Nat.ble (procB bs).length 100000)) (fun hg=>by exact nomatch pkF (P:=fun z=>z=some b) hg e) fun hg=>?_
   cases pkT (P:=fun z=>z=some b) hg e
   have g:=Bool.and_eq_true_iff.mp hg
   have h1:vs.length<=100:=hl▸Nat.le_of_ble_eq_true g.1
   have hb:bs.length<=100:=mapO_len hm▸Nat.le_of_ble_eq_true g.1
   have hy:(bs.map D.bytes).length<=100:=by rw [List.length_map];exact hb
   refine ⟨show 1<=1000 by decide,rfl,?_⟩
   refine CallOk_at [] (thingsOf_ok Y (Nat.le_trans h1 (by decide)) ?_)
   refine ⟨Nat.lt_of_le_of_lt h1 (by decide),?_⟩
   refine comp_all (ys:=bs.map D.bytes) (by exact rfl) ?_ ?_
   ·exact mapO_all (f:=tokB n) (fun x v b nv ev Q' q'=>by exact CallOk_in [] (ih (d:=d) nv ev ⟨rfl,q'⟩) rfl rfl rfl) ⟨hl,hv⟩ hm
   refine ⟨Nat.le_trans (Nat.add_le_add_left hy 1) (by decide),show 1<=1000 by decide,?_,?_⟩
   ·rw [List.length_append];exact Nat.le_trans (Nat.add_le_add_right (Nat.add_le_add_left hy 1) 1) (by decide)
   exact joinOk (bs:=([[123]]++bs)++[[125]]) (by rw [List.map_append,List.map_append];rfl) (Nat.le_trans (Nat.le_of_ble_eq_true g.2) (by decide)) q
end
end Mine.C
namespace Mine.C
structure PS where
 rows:List Bs
 held:Bs
noncomputable def PS.fin (p:PS):PS:=cond (!(p.held==[])) ⟨p.rows++[p.held],[]⟩ p
noncomputable def PS.add (p:PS) (tok:Bs) (ind:Int):PS:=⟨p.rows,cond (p.held==[]) (List.replicate ind.toNat 32++tok) (p.held++[32]++tok)⟩
noncomputable def PS.put (w:Int) (p:PS) (tok:Bs) (ind:Int):PS:=(cond (!(p.held==[])) (cond (decide ((p.held.length:Int)+1+tok.length > w)) p.fin p) p).add tok ind
noncomputable def PS.alone (p:PS) (tok:Bs) (ind:Int):PS:=⟨p.fin.rows++[List.replicate ind.toNat 32++tok],p.fin.held⟩
structure PS.Ok (p:PS):Prop where
 rows:p.rows.length<=9000
 held:p.held.length<=200000
noncomputable def rowN (w:Int) (p:PS):O := .ns 2 [.d (.int w),.ref 1,.d (.bytes p.held)]
noncomputable def rowH (w:Int) (p:PS):Hp:=[rowN w p,.list (p.rows.map .bytes)]
theorem fin_ok {p:PS} (h:p.Ok):p.fin.rows.length<=9001/\p.fin.held.length<=200000:=by
 unfold PS.fin
 cases (!(p.held==[])) with
 | true=>exact ⟨snocL (n:=0) (Nat.succ_le_succ h.rows),Nat.zero_le _⟩
 | false=>exact ⟨Nat.le_succ_of_le h.rows,h.held⟩
section
variable {S:Sx} {d:Nat} {tok:Bs} {w ind:Int} {p:PS} {Q:V->Hp->Prop} {X:Bs->Prop} (Y:Std S)
include Y
theorem end_ok (hp:p.Ok) (q:Q (.d .none) (rowH w p.fin)):CallOk S (d+1) (.fn 76) [.inst 2 0] (rowH w p) Q X :=
 c76.run Y.fns rfl (by
  refine boolE (b:=(!(p.held==[]))) (fun h=>by exact ifF h (pkF (P:=fun z=>Q (.d .none) (rowH w z)) h q)) fun h=>?_
  have q:=pkT (P:=fun z=>Q (.d .none) (rowH w z)) h q
  have e:rowH w ⟨p.rows++[p.held],[]⟩=[rowN w ⟨p.rows,[]⟩,.list (p.rows.map .bytes++[.bytes p.held])]:=by unfold rowH;rw [List.map_append];rfl
  rw [e] at q
  exact ifT h (appD rfl (by rw [List.length_map];exact Nat.le_trans hp.rows (by decide)) ⟨rfl,q⟩))
theorem add_ok (hp:p.held.length<=200000) (ht:tok.length<=100000) (hi:0<=ind/\ind<=1000) (q:Q (.d .none) (rowH w (p.add tok ind))) :
  Wss (b77.drop 1) d (CallOk S) [some (.inst 2 0),some (.d (.bytes tok)),some (.d (.int ind))] (rowH w p) (Kr Q) X:=by
 have hr:(List.replicate ind.toNat (32:UInt8)).length<=1000:=by rw [List.length_replicate];omega
 refine boolE (b:=(p.held==[])) (fun h=>?_) fun h=>by exact ifT h ⟨⟨rfl,hi⟩,Nat.le_trans (Nat.add_le_add hr ht) (by decide),pkT (P:=fun z=>Q (.d .none) (rowH w ⟨p.rows,z⟩)) h q⟩
 refine ifF h ⟨Nat.le_trans (Nat.add_le_add_right hp 1) (by decide),?_,pkF (P:=fun z=>Q (.d .none) (rowH w ⟨p.rows,z⟩)) h q⟩
 rw [List.length_append]
 exact Nat.le_trans (Nat.add_le_add (Nat.add_le_add_right hp 1) ht) (by decide)
theorem put_ok (hp:p.Ok) (ht:tok.length<=100000) (hi:0<=ind/\ind<=1000) (q:Q (.d .none) (rowH w (p.put w tok ind))):CallOk S (d+2) (.fn 77) [.inst 2 0,.d (.bytes tok),.d (.int ind)] (rowH w p) Q X :=
 c77.run Y.fns rfl (by
  refine boolE (b:=(!(p.held==[]))) (fun h=>by exact andF h (add_ok Y hp.held ht hi (pkF (P:=fun z=>Q (.d .none) (rowH w (PS.add z tok ind))) h q))) fun h=>?_
  have q:=pkT (P:=fun z=>Q (.d .none) (rowH w (PS.add z tok ind))) h q
  refine andT' h (lenB (Nat.le_trans hp.held (by decide)) (lenB (Nat.le_trans ht (by decide)) ?_))
  cases h2:decide ((p.held.length:Int)+1+tok.length > w) with
  | false=>exact andF h2 (add_ok Y hp.held ht hi (pkF (P:=fun z=>Q (.d .none) (rowH w (PS.add z tok ind))) h2 q))
  | true=>exact andT' h2 (end_ok Y hp ⟨rfl,add_ok Y (fin_ok hp).2 ht hi (pkT (P:=fun z=>Q (.d .none) (rowH w (PS.add z tok ind))) h2 q)⟩))
theorem alone_ok (hp:p.Ok) (ht:tok.length<=100000) (hi:0<=ind/\ind<=1000) (q:Q (.d .none) (rowH w (p.alone tok ind))):CallOk S (d+2) (.fn 78) [.inst 2 0,.d (.bytes tok),.d (.int ind)] (rowH w p) Q X :=
 c78.run Y.fns rfl (by
  have hr:(List.replicate ind.toNat (32:UInt8)).length<=1000:=by rw [List.length_replicate];omega
  have e:rowH w (p.alone tok ind)=[rowN w p.fin,.list (p.fin.rows.map .bytes++[.bytes (List.replicate ind.toNat 32++tok)])]:=by unfold rowH PS.alone;rw [List.map_append];rfl
  rw [e] at q
  refine end_ok Y hp ⟨rfl,⟨rfl,hi⟩,Nat.le_trans (Nat.add_le_add hr ht) (by decide),appD rfl (by rw [List.length_map];exact Nat.le_trans (fin_ok hp).1 (by decide)) ⟨rfl,q⟩⟩)
end
end Mine.C
namespace Mine.C
noncomputable def foldO {α β:Type} (f:α->β->Option β) (l:List α):β->Option β:=l.rec (fun p=>some p) fun x r ih p=>(f x p).casesOn none ih
noncomputable def isProcN (nd:Nd):Bool:=nd.casesOn (fun a=>false) (fun a=>false) (fun a b=>false) (fun a=>false) fun l=>true
noncomputable def kids (nd:Nd):List Nd:=nd.casesOn (fun a=>[]) (fun a=>[]) (fun a b=>[]) (fun a=>[]) fun l=>l
noncomputable def okB (p:PS) (tok:Bs) (ind:Int):Bool:=(Nat.ble p.rows.length 9000&&Nat.ble p.held.length 200000)&&(Nat.ble tok.length 100000&&decide (0<=ind/\ind<=1000))
noncomputable def nodeF (ih:List Nd->Int->Int->PS->Option PS) (w ind dp:Int) (nd:Nd) (p:PS):Option PS:=(tokB 6 nd).casesOn none fun tok=>cond (okB p tok ind) (cond (!isProcN nd||(decide (dp<=0)||decide (ind+tok.length<=w))) (some (p.put w tok ind))
 (cond (Nat.ble (kids nd).length 1000) ((ih (kids nd) (ind+2) (dp - 1) (p.alone [123] ind)).casesOn none fun p'=>cond (okB p' [125] ind) (some (p'.alone [125] ind)) none) none)) none
noncomputable def prettyF (n:Nat) (w:Int):List Nd->Int->Int->PS->Option PS:=n.rec (fun l ind dp p=>none) fun n ih l ind dp p=>foldO (nodeF ih w ind dp) l p
theorem okB_on {p:PS} {tok:Bs} {ind:Int} (h:okB p tok ind=true):p.Ok/\tok.length<=100000/\(0<=ind/\ind<=1000) :=
 have h1:=Bool.and_eq_true_iff.mp h
 have h2:=Bool.and_eq_true_iff.mp h1.1
 have h3:=Bool.and_eq_true_iff.mp h1.2
 ⟨⟨Nat.le_of_ble_eq_true h2.1,Nat.le_of_ble_eq_true h2.2⟩,Nat.le_of_ble_eq_true h3.1,of_decide_eq_true h3.2⟩
theorem proc_of {nd:Nd} {v:D} (h:NdV nd v) (k:isProcN nd=true):∃ i ks,v=thingD 66 (spanD (rowD i ks) ks.length) true/\NdVs (kids nd) ks:=by
 cases h with
 | proc i l vs a b=>exact ⟨i,vs,rfl,a,b⟩
 | _=>exact no k
theorem nd3 {j:Nat}:decide ([0,1,j+3] : List Nat).Nodup=true:=decide_eq_true (by simp)
theorem for_runN {σ α:Type} {g:α->Loc->Loc} {b:List Stx} {d:Nat} {C:CallP} {K:Kt} {X:Bs->Prop} {st:Hp->Prop} (L:σ->Loc) (H:σ->Hp) (I:List α->σ->Prop) (hn:∀ s,I [] s->K.next (L s) (H s))
  (hs:∀ (N B:Loc->Hp->Prop) (R:V->Hp->Prop) x r s,I (x::r) s->(∀ s',I r s'->st (H s')->N (L s') (H s'))->Wss b d C (g x (L s)) (H s) ⟨N,B,N,R⟩ X) (l:List α):∀ s,I l s->forG g b d C K X st l (L s) (H s) :=
 for_run L H I hn (fun x r s i ih=>hs _ _ _ x r s i fun s' i' z=>⟨z,ih s' i'⟩) l
theorem for_octN {σ:Type} {g:D->Loc->Loc} {b:List Stx} {d:Nat} {C:CallP} {K:Kt} {X:Bs->Prop} {st:Hp->Prop} (L:σ->Loc) (H:σ->Hp) (I:Bs->σ->Prop) (hn:∀ s,I [] s->K.next (L s) (H s))
  (hs:∀ (N B:Loc->Hp->Prop) (R:V->Hp->Prop) c r s,I (c::r) s->(∀ s',I r s'->st (H s')->N (L s') (H s'))->Wss b d C (g (.int c.toNat) (L s)) (H s) ⟨N,B,N,R⟩ X) (l:Bs):∀ s,I l s->forG g b d C K X st (octs l) (L s) (H s) :=
 for_oct L H I hn (fun c r s i ih=>hs _ _ _ c r s i fun s' i' z=>⟨z,ih s' i'⟩) l
section
variable {S:Sx} {d:Nat} {tok:Bs} {w ind:Int} {p:PS} {Q:V->Hp->Prop} {X:Bs->Prop} (Y:Std S)
include Y
theorem isProcV {nd:Nd} {v:D} {hp:Hp} (hv:NdV nd v) (q:Q (.d (.bool (isProcN nd))) hp):CallOk S (d+2) (.fn 36) [.d v] hp Q X:=by
 cases hv with
 | name u ex=>cases ex<;>exact isProc_ok Y q
 | _=>exact isProc_ok Y q
theorem pthings (n:Nat):∀ {d:Nat} {l:List Nd} {vs:List D} {ind dp:Int} {p p':PS} {Q:V->Hp->Prop} {X:Bs->Prop},NdVs l vs->prettyF n w l ind dp p=some p'->Q (.d .none) (rowH w p'++[.list vs])->CallOk S (d+n+11) (.fn 79) [.inst 2 0,.ref 2,.d (.int ind),.d (.int dp)] (rowH w p++[.list vs]) Q X:=by
 induction n with
 | zero=>exact fun hv e q=>nomatch e
 | succ n ihn =>
  intro d l vs ind dp p p' Q X hv e q
  refine CallOk_drop 3 (by exact Nat.le_refl 3) (c79.run (d:=d+n+11) Y.fns rfl ?_)
  refine for_runN (σ:=Hp×PS×Option V×Option V) (fun s=>[some (.inst 2 0),some (.ref 2),some (.d (.int ind)),some (.d (.int dp)),s.2.2.1,s.2.2.2]) (fun s=>rowN w s.2.1 :: .list (s.2.1.rows.map .bytes) :: .list vs::s.1)
   (fun xs s=>∃ l,NdVs l xs/\s.1.all live=true/\foldO (nodeF (prettyF n w) w ind dp) l s.2.1=some p') ?_ ?_ vs ([],p,none,none) ⟨l,hv,rfl,e⟩
  ·rintro ⟨gs,p,v4,v5⟩ ⟨l,hv,hl,e⟩
   cases List.length_eq_zero_iff.mp hv.len.symm
   cases e
   exact ⟨⟨rfl,rfl⟩,q⟩
  ·rintro N B R x r ⟨gs,p,v4,v5⟩ ⟨l,hv,hl,e⟩ ih
   cases l with
   | nil=>exact nomatch hv.len
   | cons nd l =>
   have nv:=hv.cons
   have e:(nodeF (prettyF n w) w ind dp nd p).casesOn (motive:=fun _=>Option PS) none (foldO (nodeF (prettyF n w) w ind dp) l)=some p':=e
   refine optE (o:=nodeF (prettyF n w) w ind dp nd p) (fun en=>by rw [en] at e;exact nomatch e) fun p1 en=>?_
   rw [en] at e
   unfold nodeF at en
   refine optE (o:=tokB 6 nd) (fun et=>by rw [et] at en;exact nomatch en) fun tok et=>?_
   rw [et] at en
   refine boolE (b:=okB p tok ind) (fun eo=>nomatch pkF (P:=fun z=>z=some p1) eo en) fun eo=>?_
   have en:=pkT (P:=fun z=>z=some p1) eo en
   obtain ⟨o1,o2,o3⟩:=okB_on eo
   have go:∀ gs':Hp,gs'.all live=true->∀ v4 v5,_:=fun gs' hg v4 v5=>ih (gs',p1,v4,v5) ⟨l,nv.2,hg,e⟩ rfl
   refine CallOk_in [] (ptok (d:=d+n) Y 6 nv.1 et ⟨rfl,?_⟩) rfl rfl hl
   refine isProcV Y nv.1 ?_
   cases hp:isProcN nd with
   | false =>
    rw [hp] at en;cases en
    exact CallOk_in [0,1] (put_ok Y o1 o2 o3 ⟨rfl,rfl,go gs hl _ _⟩) rfl rfl hl
   | true =>
   rw [hp] at en
   cases h1:decide (dp<=0) with
   | true =>
    rw [h1] at en;cases en
    exact orT' h1 (CallOk_in [0,1] (put_ok Y o1 o2 o3 ⟨rfl,rfl,go gs hl _ _⟩) rfl rfl hl)
   | false =>
   rw [h1] at en
   refine orF h1 (lenB (Nat.le_trans o2 (by decide)) ?_)
   cases h2:decide (ind+tok.length<=w) with
   | true =>
    rw [h2] at en;cases en
    exact orT' h2 (CallOk_in [0,1] (put_ok Y o1 o2 o3 ⟨rfl,rfl,go gs hl _ _⟩) rfl rfl hl)
   | false =>
   rw [h2] at en
   have en:cond (Nat.ble (kids nd).length 1000) ((prettyF n w (kids nd) (ind+2) (dp - 1) (p.alone [123] ind)).casesOn none fun p'=>cond (okB p' [125] ind) (some (p'.alone [125] ind)) none) none=some p1:=en
   refine boolE (b:=Nat.ble (kids nd).length 1000) (fun hk=>nomatch pkF (P:=fun z=>z=some p1) hk en) fun hk=>?_
   have en:=pkT (P:=fun z=>z=some p1) hk en
   refine optE (o:=prettyF n w (kids nd) (ind+2) (dp - 1) (p.alone [123] ind)) (fun ek=>by rw [ek] at en;exact nomatch en) fun p2 ek=>?_
   rw [ek] at en
   have en:cond (okB p2 [125] ind) (some (p2.alone [125] ind)) none=some p1:=en
   refine boolE (b:=okB p2 [125] ind) (fun eo2=>nomatch pkF (P:=fun z=>z=some p1) eo2 en) fun eo2=>?_
   cases pkT (P:=fun z=>z=some p1) eo2 en
   obtain ⟨q1,q2,q3⟩:=okB_on eo2
   obtain ⟨i,ks,rfl,hks⟩:=proc_of nv.1 hp
   refine orF h2 (CallOk_in [0,1] (alone_ok (tok:=[123]) Y o1 (show 1<=100000 by decide) o3 ⟨rfl,rfl,?_⟩) rfl rfl hl)
   refine CallOk_at [] (thingsOf_ok Y (hks.len▸Nat.le_of_ble_eq_true hk) ?_) (ho:=hl)
   have hl2:(gs++[O.list ks]).all live=true:=all_snoc hl rfl
   show CallOk S _ _ _ (rowN w (p.alone [123] ind) :: .list ((p.alone [123] ind).rows.map .bytes) :: .list vs::(gs++[O.list ks])) _ _
   refine CallOk_in [0,1,gs.length+3] (ihn hks ek ⟨rfl,rfl,?_⟩) nd3 (by show [_,_,(gs++[O.list ks])[gs.length]?]=_;rw [List.getElem?_concat_length];rfl) hl2
   show CallOk S _ _ _ (rowN w p2 :: .list (p2.rows.map .bytes) :: .list vs::((gs++[O.list ks]).set gs.length (.list ks))) _ _
   exact CallOk_in [0,1] (alone_ok (tok:=[125]) Y q1 q2 q3 ⟨rfl,rfl,go ((gs++[O.list ks]).set gs.length (.list ks)) (all_set hl2 rfl) _ _⟩) rfl rfl (all_set hl2 rfl)
end
end Mine.C
namespace Mine.C
noncomputable def pageOf (p:PS):Bs:=joinB [] (p.fin.rows.map fun r=>r++[10])
noncomputable def goodP (p:PS):Bool:=(Nat.ble p.rows.length 9000&&Nat.ble p.held.length 200000)&&((p.fin.rows.all fun r=>Nat.ble r.length 1000000)&&Nat.ble (pageOf p).length 1000000)
noncomputable def pageF (N:Nat) (w dp:Int) (l:List Nd):Option Bs:=(prettyF N w l 0 dp ⟨[],[]⟩).casesOn none fun p=>cond (goodP p) (some (pageOf p)) none
theorem pageF_on {N:Nat} {w dp:Int} {l:List Nd} {pg:Bs} (h:pageF N w dp l=some pg):∃ p,prettyF N w l 0 dp ⟨[],[]⟩=some p/\goodP p=true/\pg=pageOf p:=by
 unfold pageF at h
 cases eq:prettyF N w l 0 dp ⟨[],[]⟩ with
 | none=>rw [eq] at h;exact nomatch h
 | some p =>
  rw [eq] at h
  cases hg:goodP p with
  | false=>exact nomatch pkF (P:=fun z=>z=some pg) hg h
  | true=>exact ⟨p,rfl,hg,(Option.some.inj (pkT (P:=fun z=>z=some pg) hg h)).symm⟩
theorem good_on {p:PS} (h:goodP p=true):p.Ok/\(∀ r∈p.fin.rows,r.length<=1000000)/\(pageOf p).length<=1000000 :=
 have g1:=Bool.and_eq_true_iff.mp h
 have g2:=Bool.and_eq_true_iff.mp g1.1
 have g3:=Bool.and_eq_true_iff.mp g1.2
 ⟨⟨Nat.le_of_ble_eq_true g2.1,Nat.le_of_ble_eq_true g2.2⟩,fun r m=>Nat.le_of_ble_eq_true (List.all_eq_true.mp g3.1 r m),Nat.le_of_ble_eq_true g3.2⟩
section
variable {S:Sx} {d k n K f i N:Nat} {b tok:Bs} {w ind dp:Int} {p:PS} {m:Mm} {res:Rl} {Q:V->Hp->Prop} {X:Bs->Prop} (Y:Std S)
include Y
theorem rowsNew (q:Q (.inst 2 0) (rowH w ⟨[],[]⟩)):CallOk S (d+2) (.cls 2) [.d (.int w)] [] Q X:=make_ok Y.cls (c75.run Y.fns rfl (by exact ⟨Nat.zero_le _,rfl,q⟩))
theorem limNew (q:Q (.d limD) []):CallOk S (d+2) (.cls 4) [] [] Q X :=
 CallOk_drop 0 (by exact Nat.le_refl 0) (CallOk_shut (make_ok Y.cls (c81.run Y.fns rfl (by exact ⟨rfl,.mk (xs:=[.int 500,.int 20,.int 250,.int 15,.int 31,.int 65535,.int 65535,.int 65535,.int 127,.int 1500,.int 11,.int 15,.int 600,.int 16777216]) rfl ⟨⟨rfl,rfl⟩,q⟩⟩))))
theorem memNew (q:Q (.inst 3 0) (memH ⟨[],0,0⟩)):CallOk S (d+2) (.cls 3) [.d limD] [] Q X:=make_ok Y.cls (c83.run Y.fns rfl (by exact ⟨Nat.zero_le _,Nat.zero_le _,Nat.zero_le _,rfl,q⟩))
theorem pretty_ok (hb:b.length<=1000000) (hm:MOk m k) (hk:k+n<=K) (hK:K<=900) (hf:f<=1000000) (hi:i<=900) (e:thsF f i n b []=some res) (x:∀ a,res = .err a->X a)
  (q:∀ l,res = .ok l->∃ pg,pageF N w dp l=some pg/\∀ m',Q (.d (.bytes pg)) (memH m')):CallOk S (d+N+12) (.fn 80) [.d (.bytes b),.inst 3 0,.d (.int w),.d (.int dp)] (memH m) Q X :=
 CallOk_drop 5 (by exact Nat.le_refl 5) (c80.run Y.fns rfl (by
  refine CallOk_at [] (rowsNew Y ?_)
  refine CallOk_at [0,1,2,3,4] (scanThings_ok (d:=d+N) Y hb hm hk hK hf hi e x fun l vs m' k' er hv hm' hk'=>?_)
  obtain ⟨pg,ep,q⟩:=q l er
  obtain ⟨p,eq,hg,rfl⟩:=pageF_on ep
  obtain ⟨hp,hr,hz⟩:=good_on hg
  show CallOk S (d+N+11) (.fn 79) [.inst 2 5,.ref 9,.d (.int 0),.d (.int dp)] [memN m',.list [],.list [],.idict m'.made,.list [],.ns 2 [.d (.int w),.ref 6,.d (.bytes [])],.list [],.ns 1 [.inst 3 0],src b [],.list vs] _ _
  refine CallOk_at [5,6,9] (pthings (p:=⟨[],[]⟩) Y N hv eq ⟨rfl,?_⟩)
  show CallOk S (d+N+11) (.fn 76) [.inst 2 5] [memN m',.list [],.list [],.idict m'.made,.list [],.ns 2 [.d (.int w),.ref 6,.d (.bytes p.held)],.list (p.rows.map .bytes),.ns 1 [.inst 3 0],src b [],.list vs] _ _
  refine CallOk_at [5,6] (end_ok Y hp ⟨rfl,rfl,?_⟩)
  refine ⟨Nat.lt_of_le_of_lt (m:=9001) (by rw [List.length_map];exact (fin_ok hp).1) (by decide),?_⟩
  refine comp_map (hp:=[memN m',.list [],.list [],.idict m'.made,.list [],.ns 2 [.d (.int w),.ref 6,.d (.bytes p.fin.held)],.list (p.fin.rows.map .bytes),.ns 1 [.inst 3 0],src b [],.list vs]) (fx:=D.bytes) (fy:=fun r => .bytes (r++[10])) (by exact rfl) (fun r mr Q' q'=>⟨Nat.le_trans (Nat.add_le_add_right (hr r mr) 1) (by decide),q'⟩) ?_
  exact joinOk (bs:=p.fin.rows.map fun r=>r++[10]) (by rw [List.map_map];rfl) hz ⟨⟨rfl,rfl⟩,q m'⟩))
end
end Mine.C
namespace Mine.C
noncomputable def posI (pg s:Bs):Int:=(pg.length:Int) - s.length
theorem pos_end {pg:Bs}:decide (posI pg [] < (pg.length:Int))=false:=decide_eq_false (by unfold posI;rw [List.length_nil];show ¬ (pg.length:Int) - 0 < _;rw [Int.sub_zero];exact Int.lt_irrefl _)
theorem pos_more {pg r:Bs} {c:UInt8}:decide (posI pg (c::r) < (pg.length:Int))=true:=decide_eq_true (Int.sub_lt_self _ (Int.ofNat_lt.mpr (Nat.succ_pos _)))
theorem pos_step {pg r:Bs} {c:UInt8}:posI pg (c::r)+1=posI pg r:=src_step
theorem pos_nn {pg s:Bs} (h:Suf pg s):0<=posI pg s:=Int.sub_nonneg.mpr (Int.ofNat_le.mpr h.suf.length_le)
theorem pos_app {pg a s:Bs}:posI pg (a++s)+a.length=posI pg s:=by unfold posI;rw [List.length_append,Int.natCast_add];omega
theorem pos_cut {pg s:Bs} {n:Nat} (h:Suf pg s):cutL pg (some (posI pg s)) (some (posI pg s+n))=s.take n:=by
 obtain ⟨a,rfl⟩:=h.suf
 have e:posI (a++s) s=(a.length:Nat):=by unfold posI;rw [List.length_append,Int.natCast_add];omega
 rw [e]
 show List.drop (a.length:Int).toNat ((a++s).take (min ((a.length:Int)+n).toNat (a++s).length))=_
 rw [<- Int.natCast_add,Int.toNat_natCast,Int.toNat_natCast,List.drop_take,List.drop_left,List.length_append,Nat.add_min_add_left,Nat.add_sub_cancel_left]
 exact List.take_eq_take_min.symm
theorem pos_get {pg r:Bs} {c:UInt8} (h:Suf pg (c::r)):(0<=posI pg (c::r)/\posI pg (c::r) < pg.length/\pg.length<=16777216)/\pg.getD (posI pg (c::r)).toNat 0=c:=by
 have g:=suf_get h.suf
 have e:(pg.length:Int) - r.length - 1=posI pg (c::r):=src_back
 rw [e] at g
 exact ⟨⟨g.1,g.2.1,Nat.le_trans h.len (by decide)⟩,g.2.2⟩
noncomputable def stopL:Bs:=[32,9,10,13,12,0,40,41,60,62,91,93,123,125,47,37]
noncomputable def spanF (s:Bs):Bs×Bs:=s.rec ([],[]) fun c r ih=>cond (!octIn c.toNat stopL) (c::ih.1,ih.2) ([],c::r)
section
variable {S:Sx} {d n k:Nat} {hp:Hp} {pg s r:Bs} {c:UInt8} {Q:V->Hp->Prop} {X:Bs->Prop} (Y:Std S)
include Y
theorem end1_ok (h:Suf pg s) (q:Q (.d (.int (posI pg (spanF s).2))) hp):CallOk S (d+1) (.fn 125) [.d (.bytes pg),.d (.int (posI pg s))] hp Q X :=
 c125.run Y.fns rfl (by
  intro P hP
  have hz:pg.length<=1000000000:=Nat.le_trans h.len (by decide)
  induction s with
  | nil=>exact hP _ _ P (fun a b x=>x) (lenB hz (andF pos_end q))
  | cons c r ih =>
   refine hP _ _ P (fun a b x=>x) (lenB hz (andT' pos_more ⟨(pos_get h).1,?_⟩))
   rw [(pos_get h).2]
   refine ⟨octLt c,?_⟩
   refine boolE (b:=(!octIn c.toNat stopL)) (fun hs=>by exact andF hs (pkF (P:=fun z:Bs×Bs=>Q (.d (.int (posI pg z.2))) hp) hs q)) fun hs=>?_
   refine andT' hs ?_
   have q:=pkT (P:=fun z:Bs×Bs=>Q (.d (.int (posI pg z.2))) hp) hs q
   have:=ih h.tail q
   rw [<- pos_step (c:=c)] at this
   exact this)
end
end Mine.C
namespace Mine.C
noncomputable def lesL:Bs:=[110,114,116,98,102]
noncomputable def lesV:Bs:=[10,13,9,8,12]
noncomputable def octL:Bs:=[48,49,50,51,52,53,54,55]
noncomputable def lesK (c:UInt8):Nat:=(lesL.findIdx? (·==UInt8.ofNat (c.toNat:Int).toNat)).getD 0
noncomputable def oct3 (k:Nat):Int->Bs->Int×Bs:=k.rec (fun a s=>(a,s)) fun k ih a s=>s.casesOn (a,[]) fun c r=>cond (octIn c.toNat octL) (ih (a*8+c.toNat - 48) r) (a,c::r)
noncomputable def lawOct (c:UInt8) (r:Bs):Option Int×Bs:=cond (octIn c.toNat lesL) (some (lesV.getD (lesK c:Int).toNat 0).toNat,r) (cond (!octIn c.toNat octL) (cond ((c.toNat:Int)==10) none (some c.toNat),r) (some ((oct3 3 0 (c::r)).1 % 256),(oct3 3 0 (c::r)).2))
theorem lesK_ok {c:UInt8} (h:octIn c.toNat lesL=true):lesL.findIdx? (·==UInt8.ofNat (c.toNat:Int).toNat)=some (lesK c)/\(lesK c:Int) < 5:=by
 have:=octAll (p:=fun c => !(octIn c.toNat lesL)||((lesL.findIdx? (·==UInt8.ofNat (c.toNat:Int).toNat)).isSome&&decide ((lesK c:Int) < 5))) (by decide +kernel) c
 rw [h] at this
 have h1:=Bool.and_eq_true_iff.mp this
 obtain ⟨k,hk⟩:=Option.isSome_iff_exists.mp h1.1
 exact ⟨hk.trans (by unfold lesK;rw [hk];rfl),of_decide_eq_true h1.2⟩
theorem lawOct_lt {c:UInt8} {r:Bs} {x:Int} (h:(lawOct c r).1=some x):0<=x/\x < 256:=by
 have h:(cond (octIn c.toNat lesL) (some ((lesV.getD (lesK c:Int).toNat 0).toNat:Int),r) (cond (!octIn c.toNat octL) (cond ((c.toNat:Int)==10) none (some (c.toNat:Int)),r) (some ((oct3 3 0 (c::r)).1 % 256),(oct3 3 0 (c::r)).2))).1=some x:=h
 refine boolE (b:=octIn c.toNat lesL) (fun h1=>?_) fun h1=>by rw [h1] at h;cases h;exact octLt _
 rw [h1] at h
 refine boolE (b:=(!octIn c.toNat octL)) (fun h2=>by rw [h2] at h;cases h;exact ⟨Int.emod_nonneg _ (by decide),Int.emod_lt_of_pos _ (by decide)⟩) fun h2=>?_
 rw [h2] at h
 cases h3:((c.toNat:Int)==10) with
 | true=>rw [h3] at h;exact nomatch h
 | false=>rw [h3] at h;cases h;exact octLt c
section
variable {S:Sx} {d n k:Nat} {hp:Hp} {pg s r:Bs} {c:UInt8} {Q:V->Hp->Prop} {X:Bs->Prop} (Y:Std S)
include Y
theorem octet_ok (h:Suf pg (c::r)) (q:Suf pg (lawOct c r).2->Q (.d (.tup [optD (lawOct c r).1,.int (posI pg (lawOct c r).2)])) hp):CallOk S (d+1) (.fn 128) [.d (.bytes pg),.d (.int (posI pg (c::r)))] hp Q X :=
 c128.run Y.fns rfl (by
  have g:=(pos_get h).1
  have gv:=(pos_get h).2
  have t2:(2:Nat)<=1000:=by decide
  refine ⟨g,?_⟩
  rw [gv]
  refine ⟨octLt c,?_⟩
  cases h1:octIn c.toNat lesL with
  | true =>
   have q:=pkT (P:=fun z:Option Int×Bs=>Suf pg z.2->Q (.d (.tup [optD z.1,.int (posI pg z.2)])) hp) h1 q
   have hk:=lesK_ok h1
   refine ifT h1 ⟨g,?_⟩
   rw [gv]
   refine indexOk (by decide) (octLt c).1 (octLt c).2 hk.1 ⟨⟨Int.natCast_nonneg _,hk.2,by decide⟩,t2,?_⟩
   rw [pos_step];exact q h.tail
  | false =>
   have q:=pkF (P:=fun z:Option Int×Bs=>Suf pg z.2->Q (.d (.tup [optD z.1,.int (posI pg z.2)])) hp) h1 q
   refine ifF h1 ⟨g,?_⟩
   rw [gv]
   refine ⟨octLt c,?_⟩
   cases h2:(!octIn c.toNat octL) with
   | true =>
    have q:=pkT (P:=fun z:Option Int×Bs=>Suf pg z.2->Q (.d (.tup [optD z.1,.int (posI pg z.2)])) hp) h2 q
    refine ifT h2 ⟨g,?_⟩
    rw [gv]
    cases h3:((c.toNat:Int)==10) with
    | true =>
     refine ifT h3 ⟨t2,?_⟩
     rw [pos_step];exact pkT (P:=fun z=>Q (.d (.tup [optD z,.int (posI pg r)])) hp) h3 (q h.tail)
    | false =>
     refine ifF h3 ⟨g,t2,?_⟩
     rw [gv,pos_step];exact pkF (P:=fun z=>Q (.d (.tup [optD z,.int (posI pg r)])) hp) h3 (q h.tail)
   | false =>
    have q:=pkF (P:=fun z:Option Int×Bs=>Suf pg z.2->Q (.d (.tup [optD z.1,.int (posI pg z.2)])) hp) h2 q
    refine ifF h2 ⟨t2,rfl,fun P hP=>?_⟩
    suffices key:∀ (k:Nat) (a:Int) (s:Bs),Suf pg s->posI pg s+k=posI pg (c::r)+3->(Suf pg (oct3 k a s).2->Q (.d (.tup [.int ((oct3 k a s).1 % 256),.int (posI pg (oct3 k a s).2)])) hp)->P [some (.d (.bytes pg)),some (.d (.int (posI pg (c::r)))),some (.d (.bytes lesL)),some (.d (.int a)),some (.d (.int (posI pg s)))] hp from key 3 0 (c::r) h rfl q
    intro k
    induction k with
    | zero =>
     intro a s hs he q
     have h0:decide (posI pg s < posI pg (c::r)+3)=false:=decide_eq_false (by rw [<- he];exact Int.not_lt.mpr (Int.le_of_eq (Int.add_zero _)))
     exact hP _ _ P (fun a b x=>x) (andF h0 ⟨by decide,t2,q hs⟩)
    | succ k ih =>
     intro a s hs he q
     have h0:decide (posI pg s < posI pg (c::r)+3)=true:=decide_eq_true (by rw [<- he];exact Int.lt_add_of_pos_right _ (Int.natCast_pos.mpr (Nat.succ_pos k)))
     have hc:=pos_cut (n:=1) hs
     have nn:=pos_nn hs
     refine hP _ _ P (fun a b x=>x) (andT' h0 ⟨nn,Int.add_nonneg nn (by decide),Nat.le_trans hs.len (by decide),?_⟩)
     have hc:cutL pg (some (posI pg s)) (some (posI pg s+1))=s.take 1:=hc
     rw [hc]
     cases s with
     | nil=>exact ⟨by decide,t2,q hs⟩
     | cons c2 r2 =>
      refine ⟨(pos_get hs).1,?_⟩
      rw [(pos_get hs).2]
      refine ⟨octLt c2,?_⟩
      refine boolE (b:=octIn c2.toNat octL) (fun h4=>by exact andF h4 ⟨by decide,t2,pkF (P:=fun z:Int×Bs=>Suf pg z.2->Q (.d (.tup [.int (z.1 % 256),.int (posI pg z.2)])) hp) h4 q hs⟩) fun h4=>?_
      refine andT' h4 ⟨.inr (by decide),(pos_get hs).1,?_⟩
      rw [(pos_get hs).2]
      refine ⟨t2,rfl,?_⟩
      have:=ih (a*8+c2.toNat - 48) r2 hs.tail (by rw [<- pos_step (c:=c2) (r:=r2),<- he,Int.natCast_succ];omega) (pkT (P:=fun z:Int×Bs=>Suf pg z.2->Q (.d (.tup [.int (z.1 % 256),.int (posI pg z.2)])) hp) h4 q)
      rw [<- pos_step (c:=c2) (r:=r2)] at this
      exact this)
end
end Mine.C
namespace Mine.C
noncomputable def dpV (c:UInt8):Int:=cond ((c.toNat:Int)==40) 1 (cond ((c.toNat:Int)==41) (-1) 0)
noncomputable def optL1 (o:Option Int):List Int:=o.casesOn [] fun x=>[x]
noncomputable def ltF (n:Nat):Int->List Int->Bs->Option (Bs×Bs):=n.rec (fun dp a s=>none) fun n ih dp a s=>s.casesOn none fun c r=>cond ((c.toNat:Int)==92 && !r.isEmpty) (r.casesOn none fun c2 r2=>ih dp (a++optL1 (lawOct c2 r2).1) (lawOct c2 r2).2) (cond (dp+dpV c==0) (some (ofI a,r)) (ih (dp+dpV c) (a++[(c.toNat:Int)]) r))
theorem dpV_get (c:UInt8):(([(40,.int 1),(41,.int (-1))] : List (Int×D)).lookup (c.toNat:Int)).getD (.int 0) = .int (dpV c):=by
 unfold dpV
 rw [List.lookup_cons,List.lookup_cons]
 cases ((c.toNat:Int)==40) with
 | true=>rfl
 | false=>cases ((c.toNat:Int)==41)<;>rfl
theorem grow_at {hp:Hp} {p:Nat} {x y:O} (e:hp[p]?=some x):(hp++[y])[p]?=some x:=(List.getElem?_append_left (List.getElem?_eq_some_iff.mp e).1).trans e
theorem set_at {hp:Hp} {p:Nat} {x y:O} (e:hp[p]?=some x):(hp.set p y)[p]?=some y:=List.getElem?_set_self (List.getElem?_eq_some_iff.mp e).1
theorem mDg_at {hp:Hp} {i:Nat} {fs:List (Int×D)} {k:V->Prop} (e:hp[i]?=some (.idict fs)) (q:k (.bi 13)):mDg.W (.ref i) hp k:=by
 show atI hp i fun x=>k (.bi 13)
 exact atO_mk (x := .idict fs) e q
noncomputable def bW:List Stx:=[asgS 3 (bX addI (lX 3) (methX mDg (idctX [(40,.int 1),(41,.int (-1))]) [lX 4,tX (.int 0)])),ifS (cmpT eqI (lX 3) (tX (.int 0))) [retS (dtupX [kX (gX 129 (.bi 1) rfl) [lX 2],lX 1])] [],exprS (methX mApp (lX 2) [lX 4])]
theorem catL_at {hp:Hp} {p i:Nat} {a b:List D} {Q:V->Hp->Prop} (e:hp[p]?=some (.list a)) (f:hp[i]?=some (.list b)) (hz:a.length+b.length<=16777216) (q:Q (.ref hp.length) (hp++[.list (a++b)])):catL.W (.ref p) (.ref i) hp Q:=by
 show atL hp p fun x=>atL hp i fun y=>x.length+y.length<=16777216/\Q (.ref hp.length) (hp++[.list (x++y)])
 refine atO_mk e ?_
 show atL hp i fun y=>a.length+y.length<=16777216/\Q (.ref hp.length) (hp++[.list (a++y)])
 exact atO_mk f ⟨hz,q⟩
theorem map_snoc {a:List Int} {x:Int}:a.map D.int++[D.int x]=(a++[x]).map D.int:=by rw [List.map_append];rfl
section
variable {S:Sx} {d n k:Nat} {hp:Hp} {pg s r t w:Bs} {c:UInt8} {Q:V->Hp->Prop} {X:Bs->Prop} (Y:Std S)
include Y
theorem text_ok (h:Suf pg s) (hn:n<=1000000) (e:ltF n 1 [] s=some (w,t)) (q:Suf pg t->Q (.d (.tup [.bytes w,.int (posI pg t)])) []):CallOk S (d+2) (.fn 129) [.d (.bytes pg),.d (.int (posI pg s))] [] Q X :=
 CallOk_drop 0 (by exact Nat.le_refl 0) (c129.run Y.fns rfl (by
  have hz:pg.length<=1000000000:=Nat.le_trans h.len (by decide)
  have t2:(2:Nat)<=1000:=by decide
  refine ⟨Nat.zero_le _,rfl,fun P hP=>?_⟩
  suffices key:∀ (n:Nat) (dp:Int) (a:List Int) (s:Bs) (hp:Hp) (p:Nat) (v4:Option V),Suf pg s->a.length+n<=1000000->(∀ x∈a,0<=x/\x < 256)->hp[p]?=some (.list (a.map .int))->ltF n dp a s=some (w,t)->P [some (.d (.bytes pg)),some (.d (.int (posI pg s))),some (.ref p),some (.d (.int dp)),v4] hp from
   key n 1 [] s [.list []] 0 none h (by rw [List.length_nil,Nat.zero_add];exact hn) (fun x m=>nomatch m) rfl e
  intro n
  induction n with
  | zero=>exact fun dp a s hp p v4 h hl ha hp e=>nomatch e
  | succ n ih =>
   intro dp a s hp p v4 h hl ha hpa e
   cases s with
   | nil=>exact nomatch e
   | cons c r =>
   have hal:(a.map D.int).length<=1000000:=by rw [List.length_map];exact Nat.le_trans (Nat.le_add_right _ _) hl
   refine hP _ _ P (fun a b x=>x) (lenB hz (ifT pos_more ⟨(pos_get h).1,t2,rfl,?_⟩))
   rw [(pos_get h).2,pos_step]
   have norm:∀ N:Loc->Hp->Prop,((c.toNat:Int)==92 && !r.isEmpty)=false->Wss bW (d+1) (CallOk S) [some (.d (.bytes pg)),some (.d (.int (posI pg r))),some (.ref p),some (.d (.int dp)),some (oc c)] hp ⟨P,N,P,fun v hp=>(belV (fun i=>Nat.blt i 0) v=true/\(hp.take 0).all (belO fun i=>Nat.blt i 0)=true)/\Q v (hp.take 0)⟩ X:=fun N hc=>by
    have e:=pkF (P:=fun z=>z=some (w,t)) hc e
    have hpi:=grow_at (y:=O.idict [(40,.int 1),(41,.int (-1))]) hpa
    refine mDg_at (fs:=[(40,.int 1),(41,.int (-1))]) (k:=fun f=>CallOk S (d+1) f [.ref hp.length,oc c,.d (.int 0)] (hp++[O.idict [(40,D.int 1),(41,D.int (-1))]]) (fun v hp'=>asI v fun j=>Wss (bW.drop 1) (d+1) (CallOk S) [some (.d (.bytes pg)),some (.d (.int (posI pg r))),some (.ref p),some (.d (.int (dp+j))),some (oc c)] hp' ⟨P,N,P,fun v hp=>(belV (fun i=>Nat.blt i 0) v=true/\(hp.take 0).all (belO fun i=>Nat.blt i 0)=true)/\Q v (hp.take 0)⟩ X) X) List.getElem?_concat_length ?_
    refine getD2 List.getElem?_concat_length ?_
    rw [dpV_get]
    cases h0:(dp+dpV c==0) with
    | true =>
     cases pkT (P:=fun z=>z=some (w,t)) h0 e
     exact ifT h0 (bytesI hpi (by rw [List.length_map] at hal;exact hal) ha ⟨t2,⟨rfl,rfl⟩,q h.tail⟩)
    | false =>
     have e:=pkF (P:=fun z=>z=some (w,t)) h0 e
     refine ifF h0 (mApp_at (k:=fun f=>CallOk S (d+1) f [.ref p,oc c] (hp++[O.idict [(40,D.int 1),(41,D.int (-1))]]) (fun v hp'=>v = .d .none/\P [some (.d (.bytes pg)),some (.d (.int (posI pg r))),some (.ref p),some (.d (.int (dp+dpV c))),some (oc c)] hp') X) hpi rfl (appD hpi hal ⟨rfl,?_⟩))
     rw [map_snoc]
     exact ih _ _ r _ p _ h.tail (snocL hl) (fun x m=>(List.mem_append.mp m).elim (ha x) fun m=>by rw [List.mem_singleton.mp m];exact octLt c) (set_at hpi) e
   refine boolE (b:=((c.toNat:Int)==92)) (fun c92=>by exact andF c92 (norm _ (by rw [c92];rfl))) fun c92=>?_
   refine andT' c92 (lenB hz ?_)
   cases r with
   | nil=>exact andF pos_end (norm _ (by rw [c92];rfl))
   | cons c2 r2 =>
    have e:=pkT (P:=fun z=>z=some (w,t)) (show ((c.toNat:Int)==92 && !(c2::r2).isEmpty)=true by rw [c92];rfl) e
    have e:ltF n dp (a++optL1 (lawOct c2 r2).1) (lawOct c2 r2).2=some (w,t):=e
    refine andT' pos_more (octet_ok Y h.tail fun hs=>⟨rfl,rfl,?_⟩)
    cases ho:(lawOct c2 r2).1 with
    | none =>
     rw [ho] at e
     refine ⟨Nat.zero_le _,catL_at (grow_at hpa) List.getElem?_concat_length (Nat.le_trans hal (by decide)) ?_⟩
     exact ih _ _ _ _ _ _ hs (by rw [show a++optL1 none=a from List.append_nil _];exact Nat.le_trans (Nat.add_le_add_left (Nat.le_succ n) _) hl) (by rw [show a++optL1 none=a from List.append_nil _];exact ha) (by rw [List.append_nil,show a++optL1 none=a from List.append_nil _];exact List.getElem?_concat_length) e
    | some x =>
     rw [ho] at e
     refine ⟨show 1<=1000 by decide,catL_at (grow_at hpa) List.getElem?_concat_length (Nat.le_trans (Nat.add_le_add_right hal 1) (by decide)) ?_⟩
     have:=ih dp (a++[x]) _ _ _ (some (.d (.int x))) hs (snocL hl) (fun y m=>(List.mem_append.mp m).elim (ha y) fun m=>by rw [List.mem_singleton.mp m];exact lawOct_lt ho) (List.getElem?_concat_length (l:=hp++[O.list [.int x]])) e
     rw [<- map_snoc] at this
     exact this))
end
end Mine.C
namespace Mine.C
noncomputable def digL:Bs:=[48,49,50,51,52,53,54,55,56,57]
noncomputable def oddD (b:Bs):List D:=(b.filter fun c => !octIn c.toNat digL).map fun c => .int c.toNat
theorem comp_fil {t:Tx} {elt:Ex} {out:Loc} {d:Nat} {C:CallP} {st:Hp->Prop} {Q:V->Hp->Prop} {hp:Hp} {p:UInt8->Bool} (hs:st hp) {l:Bs}:∀ {acc:List D},(∀ (c:UInt8) (k:Bool->Hp->Prop),k (p c) hp->t.W d C (some (oc c)::out) hp k fun b=>False)->(∀ (c:UInt8) (Q':V->Hp->Prop),Q' (oc c) hp->elt.W d C (some (oc c)::out) hp Q' fun b=>False) ->
  Q (.ref hp.length) (hp++[.list (acc++(l.filter p).map fun c => .int c.toNat)])->compG (some t) elt out d C st Q (octs l) acc hp:=by
 induction l with
 | nil=>intro acc ht he q;rw [show List.map _ (List.filter p [])=([] : List D) from rfl,List.append_nil] at q;exact q
 | cons c l ih =>
  intro acc ht he q
  refine ht c _ ?_
  rw [List.filter_cons] at q
  cases h:p c with
  | true =>
   rw [h,if_pos rfl,List.map_cons] at q
   refine he c _ ⟨hs,ih ht he ?_⟩
   rw [List.append_assoc];exact q
  | false =>
   rw [h,if_neg Bool.false_ne_true] at q
   exact ⟨hs,ih ht he q⟩
noncomputable def partP (b:Bs):Bs×Bs:=(b.findIdx? (·==46)).casesOn (b,[]) fun i=>(b.take i,b.drop (i+1))
theorem partB_eq {b:Bs}:∃ p,partB b 46=[.bytes (partP b).1,.bytes p,.bytes (partP b).2]:=by
 unfold partB partP
 cases b.findIdx? (·==46) with
 | none=>exact ⟨_,rfl⟩
 | some i=>exact ⟨_,rfl⟩
theorem partP_len {b:Bs}:(partP b).1.length<=b.length/\(partP b).2.length<=b.length:=by
 unfold partP
 cases b.findIdx? (·==46) with
 | none=>exact ⟨Nat.le_refl _,Nat.zero_le _⟩
 | some i=>exact ⟨List.length_take_le' _ _,by show (b.drop (i+1)).length<=_;rw [List.length_drop];exact Nat.sub_le _ _⟩
noncomputable def lrG (l:Bs):Int->Int:=l.rec (fun a=>a) fun c r ih a=>ih (a*10+c.toNat - 48)
noncomputable def bare1 (b:Bs):Bs:=cond (top1 b==[45]) (cutL b (some 1) none) b
noncomputable def lrR (n:Bool) (g t:Bs):Option Int:=cond (g==[]||(!(oddD g).isEmpty||decide ((t.length:Int) > 6))) none (some (negI n (lrG (g++List.replicate (6 - (t.length:Int)).toNat 48) 0)))
noncomputable def lrF (b:Bs):Option Int:=lrR (top1 (partP b).1==[45]) (bare1 (partP b).1++(partP b).2) (partP b).2
section
variable {S:Sx} {d n k:Nat} {hp:Hp} {pg s r t w:Bs} {c:UInt8} {Q:V->Hp->Prop} {X:Bs->Prop} (Y:Std S)
include Y
theorem real_ok (hz:w.length<=1000) (q:Q (.d (optD (lrF w))) []):CallOk S (d+1) (.fn 126) [.d (.bytes w)] [] Q X :=
 CallOk_drop 0 (by exact Nat.le_refl 0) (c126.run Y.fns rfl (by
  have q:(belV (fun i=>Nat.blt i 0) (.d (optD (lrF w)))=true/\(([] : Hp).take 0).all (belO fun i=>Nat.blt i 0)=true)/\Q (.d (optD (lrF w))) (([] : Hp).take 0):=⟨⟨by cases lrF w<;>rfl,rfl⟩,q⟩
  refine partOk (Nat.le_trans hz (by decide)) ?_
  obtain ⟨p,e⟩:=partB_eq (b:=w)
  have hl:=partP_len (b:=w)
  rw [e]
  unfold lrF at q
  generalize (partP w).1=h at *
  generalize (partP w).2=t at *
  have hh:h.length<=1000:=Nat.le_trans hl.1 hz
  have ht:t.length<=1000:=Nat.le_trans hl.2 hz
  have hb:(bare1 h).length<=1000:=by
   unfold bare1
   cases (top1 h==[45]) with
   | true=>exact Nat.le_trans cut_len hh
   | false=>exact hh
  refine ⟨rfl,by decide,Nat.le_trans hh (by decide),?_⟩
  have A:Wss (b126.drop 3) d (CallOk S) [some (.d (.bytes w)),some (.d (.bytes h)),some (.d (.bytes p)),some (.d (.bytes t)),some (.d (.bool (top1 h==[45]))),some (.d (.bytes (bare1 h++t))),none,none] [] (Kr fun v hp=>(belV (fun i=>Nat.blt i 0) v=true/\(hp.take 0).all (belO fun i=>Nat.blt i 0)=true)/\Q v (hp.take 0)) X->Wss (b126.drop 2) d (CallOk S) [some (.d (.bytes w)),some (.d (.bytes h)),some (.d (.bytes p)),some (.d (.bytes t)),some (.d (.bool (top1 h==[45]))),none,none,none] [] (Kr fun v hp=>(belV (fun i=>Nat.blt i 0) v=true/\(hp.take 0).all (belO fun i=>Nat.blt i 0)=true)/\Q v (hp.take 0)) X:=fun H=>by
   have hc:=Nat.le_trans (Nat.add_le_add hb ht) (show 1000+1000<=16777216 by decide)
   unfold bare1 at H hc
   cases hn:(top1 h==[45]) with
   | true=>rw [hn] at H hc;exact ⟨by decide,Nat.le_trans hh (by decide),hc,H⟩
   | false=>rw [hn] at H hc;exact ⟨hc,H⟩
  refine A ?_
  have hg:(bare1 h++t).length<=2000:=by rw [List.length_append];exact Nat.add_le_add hb ht
  generalize (top1 h==[45])=neg at *
  generalize bare1 h++t=g at *
  cases h1:(g==[]) with
  | true =>
   unfold lrR at q
   rw [h1] at q
   exact orT' h1 q
  | false =>
  refine orF h1 ⟨rfl,Nat.lt_of_le_of_lt (m:=2000) (by unfold octs;rw [List.length_map];exact hg) (by decide),?_⟩
  refine comp_fil (p:=fun c => !octIn c.toNat digL) (by exact trivial) (fun c k hk=>⟨octLt c,hk⟩) (fun c Q' q'=>q') ⟨Nat.zero_le _,?_⟩
  unfold lrR at q
  rw [h1] at q
  refine boolE (b:=(!(oddD g).isEmpty)) (fun h2=>?_) fun h2=>by rw [h2] at q;exact orT' h2 q
  rw [h2] at q
  refine orF h2 (lenB (Nat.le_trans ht (by decide)) ?_)
  refine boolE (b:=decide ((t.length:Int) > 6)) (fun h3=>?_) fun h3=>by rw [h3] at q;exact orT' h3 q
  rw [h3] at q
  have h6:=of_decide_eq_false h3
  have h7:0<=6 - (t.length:Int)/\6 - (t.length:Int)<=1000:=by omega
  have h8:g.length+(List.replicate (6 - (t.length:Int)).toNat (48:UInt8)).length<=16777216:=by rw [List.length_replicate];omega
  refine orF h3 (lenB (Nat.le_trans ht (by decide)) ⟨⟨rfl,h7⟩,h8,?_⟩)
  refine for_octN (fun s:Int×Option V=>[some (.d (.bytes w)),some (.d (.bytes h)),some (.d (.bytes p)),some (.d (.bytes t)),some (.d (.bool neg)),some (.d (.bytes g)),s.2,some (.d (.int s.1))]) (fun s=>[.list (oddD g),.list []]) (fun l s=>lrG l s.1=lrG (g++List.replicate (6 - (t.length:Int)).toNat 48) 0) ?_ ?_ _ (0,none) rfl
  ·intro s e
   have e:s.1=lrG (g++List.replicate (6 - (t.length:Int)).toNat 48) 0:=e
   have q:(belV (fun i=>Nat.blt i 0) (.d (.int (negI neg (lrG (g++List.replicate (6 - (t.length:Int)).toNat 48) 0))))=true/\(([] : Hp).take 0).all (belO fun i=>Nat.blt i 0)=true)/\Q (.d (.int (negI neg (lrG (g++List.replicate (6 - (t.length:Int)).toNat 48) 0)))) (([] : Hp).take 0):=q
   rw [<- e] at q
   cases neg with
   | true=>exact q
   | false=>exact q
  ·intro N B R c r s e ih
   exact ⟨.inr (by decide),ih (s.1*10+c.toNat - 48,_) e trivial⟩))
end
end Mine.C
namespace Mine.C
noncomputable def bareF (w:Bs):Option D:=cond (!(bare1 w==[])&&(oddD (bare1 w)).isEmpty) ((lrF (w++[46])).casesOn none fun v=>some (.tup [.str 70,.int (v / 1000000)])) (cond (w.contains 46) ((lrF w).casesOn (some (.tup [.str 73,.bytes w])) fun v=>some (.tup [.str 64,.int v])) (some (.tup [.str 73,.bytes w])))
section
variable {S:Sx} {d n k:Nat} {hp:Hp} {pg s r t w:Bs} {x:D} {Q:V->Hp->Prop} {X:Bs->Prop} (Y:Std S)
include Y
theorem bareReal (hz:w.length<=1000) (ho:hp.all live=true) (q:Q (.d (optD (lrF w))) hp):CallOk S (d+1) (.fn 126) [.d (.bytes w)] hp Q X :=
 CallOk_in [] (real_ok Y hz ⟨rfl,by
  have e:renV (rho [] hp.length) (.d (optD (lrF w))) = .d (optD (lrF w)):=by cases lrF w<;>rfl
  rw [e];exact q⟩) rfl (by trivial) ho
theorem bare_ok (hz:w.length<=900) (e:bareF w=some x) (q:Q (.d x) []):CallOk S (d+2) (.fn 127) [.d (.bytes w)] [] Q X :=
 CallOk_drop 0 (by exact Nat.le_refl 0) (c127.run Y.fns rfl (by
  have hb:(bare1 w).length<=900:=by
   unfold bare1
   cases (top1 w==[45]) with
   | true=>exact Nat.le_trans cut_len hz
   | false=>exact hz
  have A:Wss (b127.drop 1) (d+1) (CallOk S) [some (.d (.bytes w)),some (.d (.bytes (bare1 w)))] [] (Kr fun v hp=>(belV (fun i=>Nat.blt i 0) v=true/\(hp.take 0).all (belO fun i=>Nat.blt i 0)=true)/\Q v (hp.take 0)) X->Wss b127 (d+1) (CallOk S) [some (.d (.bytes w)),none] [] (Kr fun v hp=>(belV (fun i=>Nat.blt i 0) v=true/\(hp.take 0).all (belO fun i=>Nat.blt i 0)=true)/\Q v (hp.take 0)) X:=fun H=>by
   unfold bare1 at H
   refine ⟨by decide,Nat.le_trans hz (by decide),?_⟩
   cases hn:(top1 w==[45]) with
   | true=>rw [hn] at H;exact ifT hn ⟨by decide,Nat.le_trans hz (by decide),H⟩
   | false=>rw [hn] at H;exact ifF hn H
  refine A ?_
  have t2:(2:Nat)<=1000:=by decide
  have rest:∀ hp:Hp,hp.all live=true->cond (w.contains 46) ((lrF w).casesOn (some (.tup [.str 73,.bytes w])) fun v=>some (.tup [.str 64,.int v])) (some (.tup [.str 73,.bytes w]))=some x->Wss (b127.drop 2) (d+1) (CallOk S) [some (.d (.bytes w)),some (.d (.bytes (bare1 w)))] hp (Kr fun v hp=>(belV (fun i=>Nat.blt i 0) v=true/\(hp.take 0).all (belO fun i=>Nat.blt i 0)=true)/\Q v (hp.take 0)) X:=fun hp ho e=>by
   refine ⟨rfl,?_⟩
   cases h3:(w.contains 46) with
   | false =>
    cases pkF (P:=fun z=>z=some x) h3 e
    exact andF rfl ⟨t2,⟨rfl,rfl⟩,q⟩
   | true =>
    have e:=pkT (P:=fun z=>z=some x) h3 e
    have hw:w.length<=1000:=Nat.le_trans hz (by decide)
    refine andT' rfl (bareReal Y hw ho ?_)
    cases h4:lrF w with
    | none =>
     rw [h4] at e
     cases e
     exact ⟨rfl,t2,⟨rfl,rfl⟩,q⟩
    | some v =>
     rw [h4] at e
     cases e
     refine ⟨rfl,bareReal Y hw ho ?_⟩
     rw [h4]
     exact ⟨t2,⟨rfl,rfl⟩,q⟩
  refine boolE (b:=(!(bare1 w==[]))) (fun h1=>by exact andF h1 (rest _ rfl (pkF (P:=fun z=>z=some x) (show (!(bare1 w==[])&&(oddD (bare1 w)).isEmpty)=false by rw [h1];rfl) e))) fun h1=>?_
  refine andT' h1 ⟨rfl,Nat.lt_of_le_of_lt (m:=900) (by unfold octs;rw [List.length_map];exact hb) (by decide),?_⟩
  refine comp_fil (p:=fun c => !octIn c.toNat digL) (by exact trivial) (fun c k hk=>⟨octLt c,hk⟩) (fun c Q' q'=>q') ⟨Nat.zero_le _,?_⟩
  refine boolE (b:=(oddD (bare1 w)).isEmpty) (fun h2=>by exact andF h2 (rest _ rfl (pkF (P:=fun z=>z=some x) (show (!(bare1 w==[])&&(oddD (bare1 w)).isEmpty)=false by rw [h1,h2];rfl) e))) fun h2=>?_
  have e:=pkT (P:=fun z=>z=some x) (show (!(bare1 w==[])&&(oddD (bare1 w)).isEmpty)=true by rw [h1,h2];rfl) e
  refine andT' h2 ⟨Nat.le_trans (Nat.add_le_add_right hz 1) (by decide),bareReal Y (by rw [List.length_append];exact Nat.le_trans (Nat.add_le_add_right hz 1) (by decide)) rfl ?_⟩
  cases h4:lrF (w++[46]) with
  | none=>rw [h4] at e;exact nomatch e
  | some v =>
   rw [h4] at e
   cases e
   exact ⟨⟨by decide,by decide⟩,t2,⟨rfl,rfl⟩,q⟩))
end
end Mine.C
namespace Mine.C
noncomputable def wsL:Bs:=[32,9,10,13]
noncomputable def brL:Bs:=[123,125,91,93]
noncomputable def badL:Bs:=[60,62,41,37]
noncomputable def wdD (k:Nat) (w:Bs):D := .tup [.str k,.bytes w]
noncomputable def brD:List (Int×D):=[(123,wdD 74 []),(125,wdD 75 [])]
noncomputable def brIt (c:UInt8):D:=(brD.lookup (c.toNat:Int)).getD (wdD 73 [c])
noncomputable def twoB (t:Bs):Bool:=t==[60,60]||(t==[62,62]||false)
noncomputable def bareG (w:Bs):Option D:=cond (Nat.ble w.length 900) (bareF w) none
noncomputable def rdF (f n:Nat):List D->Bs->Option (List D):=n.rec (fun a s=>none) fun n ih a s=>s.casesOn (some a) fun c r =>
 cond (octIn c.toNat wsL) (ih a r) (cond ((c.toNat:Int)==40) ((ltF f 1 [] r).casesOn none fun p=>ih (a++[wdD 71 p.1]) p.2) (cond ((c.toNat:Int)==47) (ih (a++[wdD 72 (spanF r).1]) (spanF r).2) (cond (octIn c.toNat brL) (ih (a++[brIt c]) r)
  (cond (twoB ((c::r).take 2)) (r.casesOn none fun c2 r2=>ih (a++[wdD 73 [c,c2]]) r2) (cond (octIn c.toNat badL) none ((bareG (spanF (c::r)).1).casesOn none fun x=>ih (a++[x]) (spanF (c::r)).2))))))
theorem span_app {s:Bs}:(spanF s).1++(spanF s).2=s:=by
 induction s with
 | nil=>rfl
 | cons c r ih =>
  show (cond (!octIn c.toNat stopL) (c::(spanF r).1,(spanF r).2) (([] : Bs),c::r)).1++(cond (!octIn c.toNat stopL) (c::(spanF r).1,(spanF r).2) (([] : Bs),c::r)).2=_
  cases (!octIn c.toNat stopL) with
  | true=>exact congrArg (c::·) ih
  | false=>rfl
theorem span_suf {pg s:Bs} (h:Suf pg s):Suf pg (spanF s).2:=⟨List.IsSuffix.trans ⟨_,span_app⟩ h.suf,h.len⟩
theorem span_cut {pg s:Bs} (h:Suf pg s):cutL pg (some (posI pg s)) (some (posI pg (spanF s).2))=(spanF s).1:=by
 have e:=pos_app (pg:=pg) (a:=(spanF s).1) (s:=(spanF s).2)
 have c:=pos_cut (n:=(spanF s).1.length) h
 rw [span_app] at e
 rw [e] at c
 exact c.trans ((congrArg (List.take _) span_app.symm).trans List.take_left)
section
variable {S:Sx} {d n k f:Nat} {hp:Hp} {pg s r t w:Bs} {x:D} {its:List D} {Q:V->Hp->Prop} {X:Bs->Prop} (Y:Std S)
include Y
theorem read_ok (hz:pg.length<=1000000) (hf:f<=1000000) (hn:n<=1000000) (e:rdF f n [] pg=some its) (q:Q (.ref 0) [.list its]):CallOk S (d+3) (.fn 130) [.d (.bytes pg)] [] Q X :=
 CallOk_drop 1 (by exact Nat.zero_le 1) (c130.run Y.fns rfl (by
  have hz9:pg.length<=1000000000:=Nat.le_trans hz (by decide)
  have hz6:pg.length<=16777216:=Nat.le_trans hz (by decide)
  have t2:(2:Nat)<=1000:=by decide
  refine ⟨Nat.zero_le _,rfl,fun P hP=>?_⟩
  suffices key:∀ (n:Nat) (a:List D) (s:Bs) (gs:Hp) (v3 v4 v5 v6:Option V),Suf pg s->a.length+n<=1000000->gs.all live=true->rdF f n a s=some its->P [some (.d (.bytes pg)),some (.ref 0),some (.d (.int (posI pg s))),v3,v4,v5,v6] (.list a::gs) from by
   have:=key n [] pg [] none none none none ⟨List.suffix_refl _,hz⟩ (by rw [List.length_nil,Nat.zero_add];exact hn) rfl e
   unfold posI at this
   rw [Int.sub_self] at this
   exact this
  intro n
  induction n with
  | zero=>exact fun a s gs v3 v4 v5 v6 h hl hg e=>nomatch e
  | succ n ih =>
   intro a s gs v3 v4 v5 v6 h hl hg e
   cases s with
   | nil =>
    cases e
    exact hP _ _ P (fun a b x=>x) (lenB hz9 (ifF pos_end ⟨⟨rfl,rfl⟩,q⟩))
   | cons c r =>
   have hal:a.length<=1000000:=Nat.le_trans (Nat.le_add_right _ _) hl
   refine hP _ _ P (fun a b x=>x) (lenB hz9 (ifT pos_more ⟨(pos_get h).1,?_⟩))
   rw [(pos_get h).2]
   refine ⟨octLt c,?_⟩
   cases h1:octIn c.toNat wsL with
   | true =>
    have e:=pkT (P:=fun z=>z=some its) h1 e
    refine ifT h1 ?_
    have:=ih a r gs (some (oc c)) v4 v5 v6 h.tail (Nat.le_trans (Nat.add_le_add_left (Nat.le_succ n) _) hl) hg e
    rw [<- pos_step (c:=c)] at this
    exact this
   | false =>
   have e:=pkF (P:=fun z=>z=some its) h1 e
   refine ifF h1 ?_
   have app:∀ (x:D) (s:Bs) (gs:Hp) (v3 v4 v5 v6:Option V),Suf pg s->gs.all live=true->rdF f n (a++[x]) s=some its->CallOk S (d+2) (.bi 10) [.ref 0,.d x] (.list a::gs) (fun v hp=>v = .d .none/\P [some (.d (.bytes pg)),some (.ref 0),some (.d (.int (posI pg s))),v3,v4,v5,v6] hp) X:=fun x s gs v3 v4 v5 v6 h hg e=>appD rfl hal ⟨rfl,ih (a++[x]) s gs v3 v4 v5 v6 h (snocL hl) hg e⟩
   cases h2:((c.toNat:Int)==40) with
   | true =>
    have e:=pkT (P:=fun z=>z=some its) h2 e
    refine ifT h2 ?_
    refine optE (o:=ltF f 1 [] r) (fun ht=>by rw [ht] at e;exact nomatch e) fun p ht=>?_
    rw [ht] at e
    have T:CallOk S (d+2) (.fn 129) [.d (.bytes pg),.d (.int (posI pg (c::r)+1))] (.list a::gs) (fun v hp=>Suf pg p.2/\v = .d (.tup [.bytes p.1,.int (posI pg p.2)])/\hp = .list a::gs) X:=by
     rw [pos_step]
     exact CallOk_in [] (text_ok Y h.tail hf ht fun hs=>⟨rfl,hs,rfl,rfl⟩) rfl (by trivial) hg
    refine CallOk_mono T (fun v hp hv=>?_) fun b x=>x
    obtain ⟨hs,e1,e2⟩:=hv
    subst e1 e2
    exact ⟨rfl,rfl,t2,app _ _ _ _ _ _ _ hs hg e⟩
   | false =>
   have e:=pkF (P:=fun z=>z=some its) h2 e
   refine ifF h2 ?_
   cases h3:((c.toNat:Int)==47) with
   | true =>
    have e:=pkT (P:=fun z=>z=some its) h3 e
    refine ifT h3 ?_
    have T:=span_cut h.tail
    rw [<- pos_step (c:=c)] at T
    have E:CallOk S (d+2) (.fn 125) [.d (.bytes pg),.d (.int (posI pg (c::r)+1))] (.list a::gs) (fun v hp=>v = .d (.int (posI pg (spanF r).2))/\hp = .list a::gs) X:=by
     rw [pos_step]
     exact end1_ok Y h.tail ⟨rfl,rfl⟩
    refine CallOk_mono E (fun v hp hv=>?_) fun b x=>x
    obtain ⟨e1,e2⟩:=hv
    subst e1 e2
    refine ⟨by rw [pos_step];exact pos_nn h.tail,pos_nn (span_suf h.tail),hz6,t2,?_⟩
    rw [T]
    exact app _ _ _ _ _ _ _ (span_suf h.tail) hg e
   | false =>
   have e:=pkF (P:=fun z=>z=some its) h3 e
   refine ifF h3 ⟨octLt c,?_⟩
   cases h4:octIn c.toNat brL with
   | true =>
    have e:=pkT (P:=fun z=>z=some its) h4 e
    have T:=pos_cut (n:=1) h
    have T:cutL pg (some (posI pg (c::r))) (some (posI pg (c::r)+1))=[c]:=T
    have l1:decide ((.list a::gs:Hp).length=(.list a::gs:Hp).length)=true:=decide_eq_true rfl
    refine ifT h4 (mDg_at (fs:=brD) (k:=fun f=>_) (List.getElem?_concat_length (l := .list a::gs)) ?_)
    refine ⟨pos_nn h,Int.add_nonneg (pos_nn h) (by decide),hz6,t2,?_⟩
    rw [T]
    have:=app (brIt c) r (gs++[.idict brD]) (some (oc c)) v4 v5 (some (.ref (.list a::gs:Hp).length)) h.tail (by rw [List.all_append,hg];rfl) e
    rw [<- pos_step (c:=c)] at this
    exact getD2 (List.getElem?_concat_length (l := .list a::gs)) this
   | false =>
   have e:=pkF (P:=fun z=>z=some its) h4 e
   have T:=pos_cut (n:=2) h
   have T:cutL pg (some (posI pg (c::r))) (some (posI pg (c::r)+2))=(c::r).take 2:=T
   refine ifF h4 ⟨pos_nn h,Int.add_nonneg (pos_nn h) (by decide),hz6,?_⟩
   rw [T]
   cases h5:twoB ((c::r).take 2) with
   | true =>
    have e:=pkT (P:=fun z=>z=some its) h5 e
    cases r with
    | nil=>exact nomatch e
    | cons c2 r2 =>
     refine ifT h5 ⟨pos_nn h,Int.add_nonneg (pos_nn h) (by decide),hz6,t2,?_⟩
     rw [T]
     have:=app (wdD 73 [c,c2]) r2 gs (some (oc c)) v4 v5 v6 h.tail.tail hg e
     rw [<- pos_step (c:=c2),<- pos_step (c:=c),Int.add_assoc] at this
     exact this
   | false =>
   have e:=pkF (P:=fun z=>z=some its) h5 e
   refine ifF h5 ⟨octLt c,?_⟩
   refine boolE (b:=octIn c.toNat badL) (fun h6=>?_) fun h6=>by exact nomatch pkT (P:=fun z=>z=some its) h6 e
   have e:=pkF (P:=fun z=>z=some its) h6 e
   refine ifF h6 ?_
   refine optE (o:=bareG (spanF (c::r)).1) (fun hw=>by rw [hw] at e;exact nomatch e) fun x hw=>?_
   rw [hw] at e
   unfold bareG at hw
   refine boolE (b:=Nat.ble (spanF (c::r)).1.length 900) (fun h7=>by rw [h7] at hw;exact nomatch hw) fun h7=>?_
   rw [h7] at hw
   refine end1_ok Y h ⟨pos_nn h,pos_nn (span_suf h),hz6,?_⟩
   rw [span_cut h]
   exact CallOk_in [] (bare_ok Y (Nat.le_of_ble_eq_true h7) hw ⟨rfl,app x _ gs _ v4 _ v6 (span_suf h) hg e⟩) rfl (by trivial) hg))
end
end Mine.C
namespace Mine.C
structure Dk where
 xs:List Int
 m:Int
 h:xs.length<=40
noncomputable def dkH (k:Dk):Hp:=[.list (k.xs.map .int),.sdict [(76,.ref 0),(77,.d (.int k.m))]]
section
variable {S:Sx} {d:Nat} {k:Dk} {n:Int} {vs:List D} {Q:V->Hp->Prop} {X:Bs->Prop} (Y:Std S)
include Y
theorem draw_ok (hn:0 < n/\n < 1000) (q:∀ i k',0<=i->i < n->Q (.d (.int i)) (dkH k')):CallOk S (d+1) (.fn 117) [.ref 1,.d (.int n)] (dkH k) Q X :=
 CallOk_drop 2 (by exact Nat.le_refl 2) (c117.run Y.fns rfl (by
  obtain ⟨xs,m,h⟩:=k
  have fin:∀ i k',0<=i->i < n->(Kr fun v hp=>(belV (fun i=>Nat.blt i 2) v=true/\(hp.take 2).all (belO fun i=>Nat.blt i 2)=true)/\Q v (hp.take 2)).ret (.d (.int i)) (dkH k'++[.list []]):=fun i k' h1 h2=>⟨⟨rfl,rfl⟩,q i k' h1 h2⟩
  cases xs with
  | nil =>
   exact ⟨Nat.zero_le _,.inr (by decide),by decide,show 2<=1000 by decide,by decide,hn.1,fin _ ⟨[],(m*4801+97) % 1000003,h⟩ (Int.emod_nonneg _ (Int.ne_of_gt hn.1)) (Int.emod_lt_of_pos _ hn.1)⟩
  | cons x xs =>
   have h1:xs.length<=40:=Nat.le_of_succ_le h
   exact ⟨Nat.zero_le _,pop0D rfl (Nat.lt_of_le_of_lt (m:=40) (by rw [List.length_map];exact h1) (by decide)) ⟨hn.1,fin _ ⟨xs,m,h1⟩ (Int.emod_nonneg _ (Int.ne_of_gt hn.1)) (Int.emod_lt_of_pos _ hn.1)⟩⟩))
theorem pickT_ok (hv:0 < vs.length/\vs.length < 1000) (q:∀ v k',v∈vs->Q (.d v) (dkH k')):CallOk S (d+2) (.fn 118) [.ref 1,.d (.tup vs)] (dkH k) Q X :=
 c118.run Y.fns rfl (by
  refine lenT (Nat.le_trans (Nat.le_of_lt hv.2) (by decide)) (draw_ok Y ⟨Int.natCast_pos.mpr hv.1,Int.ofNat_lt.mpr hv.2⟩ fun i k' h0 h1 => .inl ⟨⟨h0,Int.lt_trans h1 (Int.lt_trans (Int.ofNat_lt.mpr hv.2) (by decide))⟩,?_⟩)
  have e:=List.getElem?_eq_getElem (l:=vs) (i:=i.toNat) ((Int.toNat_lt h0).mpr h1)
  show opt vs[i.toNat]? _
  rw [e]
  exact q _ k' (List.mem_of_getElem? e))
theorem pickL_ok (hv:0 < vs.length/\vs.length < 1000) (q:∀ v k',v∈vs->Q (.d v) (dkH k'++[.list vs])):CallOk S (d+2) (.fn 118) [.ref 1,.ref 2] (dkH k++[.list vs]) Q X :=
 c118.run Y.fns rfl (by
  refine lenL rfl (Nat.le_trans (Nat.le_of_lt hv.2) (by decide)) (CallOk_in [0,1] (draw_ok (k:=k) Y ⟨Int.natCast_pos.mpr hv.1,Int.ofNat_lt.mpr hv.2⟩ fun i k' h0 h1=>⟨rfl,.inr ⟨⟨h0,Int.lt_trans h1 (Int.lt_trans (Int.ofNat_lt.mpr hv.2) (by decide))⟩,?_⟩⟩) rfl rfl rfl)
  have e:=List.getElem?_eq_getElem (l:=vs) (i:=i.toNat) ((Int.toNat_lt h0).mpr h1)
  show opt vs[i.toNat]? _
  rw [e]
  exact q _ k' (List.mem_of_getElem? e))
end
end Mine.C
namespace Mine.C
noncomputable def intIt (n:Int):D := .tup [.str 70,.int n]
noncomputable def realIt (n:Int):D := .tup [.str 64,.int n]
noncomputable def numL:List (Bs×Nd×D):=[([55],.int 7,intIt 7),([43,48,55],.int 7,intIt 7),([45,49,50],.int (-12),intIt (-12)),([49,54,35,102,70],.int 255,intIt 255),([50,35,49,48,49],.int 5,intIt 5),([49,46,53],.real 1500000,realIt 1500000),
 ([49,53,101,45,49],.real 1500000,realIt 1500000),([45,46,50,53],.real (-250000),realIt (-250000)),([51,46],.real 3000000,realIt 3000000),([48,46,48,48,48,48,48,49],.real 1,realIt 1),([51,48,48,48,48,48,48,48,48,48],.real 3000000000000000,realIt 3000000000000000),([49,101,51],.real 1000000000,realIt 1000000000)]
noncomputable def gapL:List Bs:=[[32],[10],[32,9],[32,37,32,97,32,114,101,109,97,114,107,32,40,120,125,32,47,121,10],[13,10],[37,13]]
noncomputable def nameL:List Bs:=[[97,100,100],[109,111,118,101,116,111],[97,46,98],[49,97],[45],[36,122],[115,101,116,114,103,98,99,111,108,111,114,97,110,100,109,111,114,101],[120]]
noncomputable def markL:List Bs:=[[91],[93],[60,60],[62,62]]
noncomputable def textL:List Bs:=[[],[97,41,98],[120,40,121,41,122],[116,119,111,32,119,111,114,100,115],[92],[10,9],[0,255,57],[97,32,114,97,116,104,101,114,32,108,111,110,103,32,116,101,120,116,32,111,102,32,109,97,110,121,32,115,105,103,110,115]]
noncomputable def cutB (l:List Int):Bs:=l.map fun n=>n.toNat.toUInt8
noncomputable def loI (c:UInt8):List Int:=[48+(c.toNat:Int) / 64,48+(c.toNat:Int) / 8 % 8,48+(c.toNat:Int) % 8]
noncomputable def loC (c:UInt8):Bs:=cond (octIn c.toNat [40,41,92]) (92::cutB [(c.toNat:Int)]) (cond (decide ((32:Int)<=c.toNat)&&decide ((c.toNat:Int) < 127)) (cutB [(c.toNat:Int)]) (92::cutB (loI c)))
noncomputable def loA (t:Bs):Bs->Bs:=t.rec (fun a=>a) fun c r ih a=>ih (a++loC c)
theorem loC_len (c:UInt8):(loC c).length<=4:=by
 unfold loC
 cases octIn c.toNat [40,41,92] with
 | true=>exact (by decide:2<=4)
 | false=>cases (decide ((32:Int)<=c.toNat)&&decide ((c.toNat:Int) < 127)) with
  | true=>exact (by decide:1<=4)
  | false=>exact (by decide:4<=4)
theorem loI_ok (c:UInt8):∀ n∈loI c,0<=n/\n < 256:=by
 have:=octAll (p:=fun c=>(loI c).all fun n=>decide (0<=n)&&decide (n < 256)) (by decide +kernel) c
 exact fun n m=>(Bool.and_eq_true_iff.mp (List.all_eq_true.mp this n m)).imp of_decide_eq_true of_decide_eq_true
section
variable {S:Sx} {d:Nat} {k:Dk} {t:Bs} {Q:V->Hp->Prop} {X:Bs->Prop} (Y:Std S)
include Y
theorem number_ok (q:∀ w nd it k',(w,nd,it)∈numL->Q (.d (.tup [.bytes w,it])) (dkH k')):CallOk S (d+3) (.fn 119) [.ref 1] (dkH k) Q X :=
 CallOk_drop 2 (by exact Nat.le_refl 2) (c119.run Y.fns rfl (by
  refine ⟨show 12<=1000 by decide,pickL_ok (k:=k) (vs:=numL.map fun p => .tup [.bytes p.1,p.2.2]) Y ⟨show 0 < 12 by decide,show 12 < 1000 by decide⟩ fun v k' hv=>?_⟩
  obtain ⟨p,hp,e⟩:=List.mem_map.mp hv
  subst e
  exact ⟨⟨rfl,rfl⟩,q p.1 p.2.1 p.2.2 k' hp⟩))
theorem gap_ok (q:∀ g k',g∈gapL->Q (.d (.bytes g)) (dkH k')):CallOk S (d+3) (.fn 122) [.ref 1] (dkH k) Q X :=
 CallOk_drop 2 (by exact Nat.le_refl 2) (c122.run Y.fns rfl (by
  refine ⟨show 6<=1000 by decide,pickL_ok (k:=k) (vs:=gapL.map .bytes) Y ⟨show 0 < 6 by decide,show 6 < 1000 by decide⟩ fun v k' hv=>?_⟩
  obtain ⟨p,hp,e⟩:=List.mem_map.mp hv
  subst e
  exact ⟨⟨rfl,rfl⟩,q p k' hp⟩))
theorem escaped_ok (hz:t.length<=1000) (q:Q (.d (.bytes (loA t []))) []):CallOk S (d+1) (.fn 120) [.d (.bytes t)] [] Q X :=
 CallOk_drop 0 (by exact Nat.le_refl 0) (c120.run Y.fns rfl (by
  refine for_octN (fun s:Bs×Option V×Hp=>[some (.d (.bytes t)),some (.d (.bytes s.1)),s.2.1]) (fun s=>s.2.2) (fun l s=>loA l s.1=loA t []/\s.1.length+4*l.length<=5000) ?_ ?_ t ([],none,[]) ⟨rfl,by rw [List.length_nil,Nat.zero_add];exact Nat.le_trans (Nat.mul_le_mul_left 4 hz) (by decide)⟩
  ·intro s e
   have e1:s.1=loA t []:=e.1
   rw [<- e1] at q
   exact ⟨⟨rfl,rfl⟩,q⟩
  ·intro N B R c r s e ih
   have e0:loA r (s.1++loC c)=loA t []:=e.1
   have e2:(s.1++loC c).length+4*r.length<=5000:=by
    rw [List.length_append]
    have:=loC_len c
    have:=e.2
    rw [List.length_cons] at this
    omega
   have e3:s.1.length<=5000:=Nat.le_trans (Nat.le_add_right _ _) e.2
   have step:∀ (ns:List Int) (a:Bs) (K:V->Hp->Prop),ns.length<=3->(∀ n∈ns,0<=n/\n < 256)->(K (.d (.bytes (cutB ns))) (s.2.2++[.list (ns.map .int)]))->CallOk S d (.bi 1) [.ref s.2.2.length] (s.2.2++[.list (ns.map .int)]) K X:=fun ns a K h3 h q=>bytesI (ns:=ns) List.getElem?_concat_length (Nat.le_trans h3 (by decide)) h q
   have go:∀ (z:Bs) (gs:Hp),loC c=z->N [some (.d (.bytes t)),some (.d (.bytes (s.1++z))),some (oc c)] gs:=fun z gs h=>by
    subst h
    exact ih (_,_,_) ⟨e0,e2⟩ trivial
   have a1:s.1.length+1<=16777216:=Nat.le_trans (Nat.add_le_add_right e3 1) (by decide)
   have a2:∀ n,n<=3->(s.1++[92]).length+n<=16777216:=fun n h=>by rw [List.length_append];exact Nat.le_trans (Nat.add_le_add (Nat.add_le_add_right e3 1) h) (by decide)
   refine ⟨octLt c,?_⟩
   cases h1:octIn c.toNat [40,41,92] with
   | true =>
    refine ⟨a1,show 1<=1000 by decide,step [(c.toNat:Int)] [] _ (show 1<=3 by decide) (fun n m=>by rw [List.mem_singleton.mp m];exact octLt c) ⟨a2 1 (by decide),?_⟩⟩
    rw [List.append_assoc]
    exact go _ _ (by unfold loC;rw [h1];rfl)
   | false =>
    refine chainC ?_
    cases h2:(decide ((32:Int)<=c.toNat)&&decide ((c.toNat:Int) < 127)) with
    | true =>
     exact ⟨show 1<=1000 by decide,step [(c.toNat:Int)] [] _ (show 1<=3 by decide) (fun n m=>by rw [List.mem_singleton.mp m];exact octLt c) ⟨Nat.le_trans (Nat.add_le_add_right e3 1) (by decide),go _ _ (by unfold loC;rw [h1,h2];rfl)⟩⟩
    | false =>
     refine ⟨a1,by decide,by decide,by decide,by decide,show 3<=1000 by decide,step (loI c) [] _ (by exact Nat.le_refl 3) (loI_ok c) ⟨a2 3 (by decide),?_⟩⟩
     rw [List.append_assoc]
     exact go _ _ (by unfold loC;rw [h1,h2];rfl)))
end
end Mine.C
namespace Mine.C
noncomputable def figH:Bs:=[48,49,50,51,52,53,54,55,56,57,97,98,99,100,101,102]
noncomputable def hexI (c:UInt8):List Int:=[(figH.getD ((c.toNat:Int) / 16).toNat 0).toNat,(figH.getD ((c.toNat:Int) % 16).toNat 0).toNat,32]
noncomputable def hexO (c:UInt8):Bs:=cutB (hexI c)
noncomputable def xyz:Bs:=[120,40,121,41,122]
noncomputable def strW (way:Int) (t:Bs):Bs:=cond (way==0) ([60]++joinB [] (t.map hexO)++[62]) (cond (way==1&&t==xyz) ([40]++xyz++[41]) (cond (way==2) ([40]++loA t []++[92,10,41]) ([40]++loA t []++[41])))
theorem hexI_ok (c:UInt8):∀ n∈hexI c,0<=n/\n < 256:=by
 have:=octAll (p:=fun c=>(hexI c).all fun n=>decide (0<=n)&&decide (n < 256)) (by decide +kernel) c
 exact fun n m=>(Bool.and_eq_true_iff.mp (List.all_eq_true.mp this n m)).imp of_decide_eq_true of_decide_eq_true
theorem textL_ok {t:Bs} (h:t∈textL):t.length<=200/\(joinB [] (t.map hexO)).length<=200/\(loA t []).length<=200:=by
 have:=List.all_eq_true.mp (show (textL.all fun t=>decide (t.length<=200/\(joinB [] (t.map hexO)).length<=200/\(loA t []).length<=200))=true by decide +kernel) t h
 exact of_decide_eq_true this
theorem hcell121:∀ lo,cellsFrom lo (fi 121).scope.names []=[(((fi 121).names.getD 3 (nm 0)),lo)]:=fun lo=>by kernel_rfl
section
variable {S:Sx} {d:Nat} {k:Dk} {t:Bs} {Q:V->Hp->Prop} {X:Bs->Prop} (Y:Std S)
noncomputable def hexE:Ex:=kX (gX 129 (.bi 1) rfl) [lstX [itemX itB (cellX 1) (bX divI (lX 0) (tX (.int 16))),itemX itB (cellX 1) (bX modI (lX 0) (tX (.int 16))),tX (.int 32)]]
theorem comp_hex {x y:O} {l:Bs}:∀ {acc:List D} {gs:Hp},(∀ gs',Q (.ref (x::y :: .cell (some (.d (.bytes figH)))::gs').length) ((x::y :: .cell (some (.d (.bytes figH)))::gs')++[.list (acc++(l.map hexO).map D.bytes)])) ->
  compG none hexE [some (.ref 2)] d (CallOk S) (fun hp=>True) Q (octs l) acc (x::y :: .cell (some (.d (.bytes figH)))::gs):=by
 induction l with
 | nil =>
  intro acc gs q
  have:=q gs
  rw [show acc++(List.map hexO []).map D.bytes=acc from List.append_nil _] at this
  exact this
 | cons c l ih =>
  intro acc gs q
  have a:=octAll (p:=fun c=>decide (0<=(c.toNat:Int) / 16/\(c.toNat:Int) / 16 < 16)&&decide (0<=(c.toNat:Int) % 16/\(c.toNat:Int) % 16 < 16)) (by decide +kernel) c
  have a:=(Bool.and_eq_true_iff.mp a).imp of_decide_eq_true of_decide_eq_true
  have b:(16:Nat)<=16777216:=by decide
  refine ⟨by decide,⟨a.1.1,a.1.2,b⟩,by decide,⟨a.2.1,a.2.2,b⟩,show 3<=1000 by decide,bytesI (ns:=hexI c) List.getElem?_concat_length (show 3<=1000000 by decide) (hexI_ok c) ⟨trivial,?_⟩⟩
  refine ih (gs:=gs++[.list ((hexI c).map .int)]) fun gs'=>?_
  have:=q gs'
  rw [List.map_cons,List.map_cons] at this
  rw [List.append_assoc]
  exact this
include Y
theorem lawString_ok (q:∀ t way k',t∈textL->0<=way->way < 4->Q (.d (.tup [.bytes (strW way t),.tup [.str 71,.bytes t]])) (dkH k')):CallOk S (d+3) (.fn 121) [.ref 1] (dkH k) Q X :=
 CallOk_drop 2 (by exact Nat.le_refl 2) (fn_cell (ic:=2) (n:=4) Y.fns at121 rfl (x0:=(fi 121).names.getD 0 (nm 0)) (xc:=(fi 121).names.getD 3 (nm 0)) (by kernel_rfl) hcell121 chk121 (by
  have t2:(2:Nat)<=1000:=by decide
  refine CallOk_in [0,1] (pickT_ok (k:=k) (vs:=textL.map .bytes) Y ⟨show 0 < 8 by decide,show 8 < 1000 by decide⟩ fun v k1 hv=>⟨rfl,?_⟩) rfl rfl rfl
  obtain ⟨t,ht,e⟩:=List.mem_map.mp hv
  subst e
  refine CallOk_in [0,1] (draw_ok (k:=k1) (n:=4) Y ⟨by decide,by decide⟩ fun way k2 h0 h1=>⟨rfl,t2,rfl,?_⟩) rfl rfl rfl
  have q:=q t way k2 ht h0 h1
  obtain ⟨l1,l2,l3⟩:=textL_ok ht
  have z1:∀ n m:Nat,n<=200->m<=1000->n+m<=16777216:=fun n m h1 h2=>Nat.le_trans (Nat.add_le_add h1 h2) (by decide)
  have z2:∀ (c:UInt8) (w:Bs) (n:Nat),w.length<=200->n<=10->([c]++w).length+n<=16777216:=fun c w n h h2=>show (w.length+1)+n<=_ from Nat.le_trans (Nat.add_le_add (Nat.add_le_add_right h 1) h2) (by decide)
  cases w0:(way==0) with
  | true =>
   refine ifT w0 ⟨rfl,Nat.lt_of_le_of_lt (m:=200) (by unfold octs;rw [List.length_map];exact l1) (by decide),?_⟩
   refine comp_hex fun gs'=>joinOk (bs:=t.map hexO) List.getElem?_concat_length (Nat.le_trans l2 (by decide)) ⟨Nat.add_comm _ _▸z1 _ _ l2 (by decide),?_,t2,t2,⟨rfl,rfl⟩,?_⟩
   ·exact z2 60 _ _ l2 (by decide)
   ·unfold strW at q;rw [w0] at q;exact q
  | false =>
   refine ifF w0 ?_
   have esc:∀ K:V->Hp->Prop,K (.d (.bytes (loA t []))) (dkH k2++[.cell none])->CallOk S (d+2) (.fn 120) [.d (.bytes t)] (dkH k2++[.cell none]) K X:=fun K h=>CallOk_in [] (escaped_ok Y (Nat.le_trans l1 (by decide)) ⟨rfl,h⟩) rfl (by trivial) rfl
   have c1:([40] : Bs).length+(loA t []).length<=16777216:=Nat.add_comm _ _▸z1 _ _ l3 (by decide)
   have c2:∀ n,n<=10->([40]++loA t []).length+n<=16777216:=fun n h=>z2 40 _ _ l3 h
   have rest:(way==1&&t==xyz)=false->Wss (b121.drop 3) (d+2) (CallOk S) [some (.ref 1),some (.d (.bytes t)),some (.d (.int way)),some (.ref 2),none] (dkH k2++[.cell none]) (Kr fun v hp=>(belV (fun i=>Nat.blt i 2) v=true/\(hp.take 2).all (belO fun i=>Nat.blt i 2)=true)/\Q v (hp.take 2)) X:=fun w1=>by
    cases w2:(way==2) with
    | true =>
     refine ifT w2 (esc _ ⟨c1,c2 3 (by decide),t2,t2,⟨rfl,rfl⟩,?_⟩)
     unfold strW at q;rw [w0,w1,w2] at q;exact q
    | false =>
     refine ifF w2 (esc _ ⟨c1,c2 1 (by decide),t2,t2,⟨rfl,rfl⟩,?_⟩)
     unfold strW at q;rw [w0,w1,w2] at q;exact q
   refine boolE (b:=(way==1)) (fun w1=>by exact andF w1 (rest (by rw [w1];rfl))) fun w1=>?_
   refine andT' w1 ?_
   refine boolE (b:=(t==xyz)) (fun w2=>by exact andF w2 (rest (by rw [w1,w2];rfl))) fun w2=>?_
   refine andT' w2 ⟨t2,t2,⟨rfl,rfl⟩,?_⟩
   unfold strW at q;rw [w0,w1,w2] at q;exact q))
end
end Mine.C
namespace Mine.C
inductive Keeps (n:Nat) (v:V) (hp':Hp) (Q:V->Hp->Prop):Prop
 | mk (js:List Nat) (v0:V) (hp0:Hp):js.Nodup->js.take n=List.range n->Sees js hp' hp0->renV (rho js hp'.length) v0=v->Q v0 hp0->Keeps n v hp' Q
theorem CallOk_keep {S:Sx} {d:Nat} {f:V} {vs:List V} {hp:Hp} {Q:V->Hp->Prop} {X:Bs->Prop} (h:CallOk S d f vs hp (fun v hp'=>Keeps hp.length v hp' Q) X):CallOk S d f vs hp Q X:=by
 refine ⟨@fun F mp w s cf cvs hd ha rf rs=>?_⟩
 refine wpAny_mono (h.run hd ha rf rs) (fun cv s' p=>?_) fun e s' p=>p
 cases p with | @mk w' v hp' l r a q =>
 cases q with | mk js v0 hp0 hn hj he hv q =>
 have hb:=he.lt a.len.len
 refine .mk (w':=⟨Mine.pick js w'.m,w'.fz⟩) ⟨fun i b e=>?_,l.fz⟩ ?_ (a.pick hn he).drop q
 ·have hi:i < hp.length:=ha.len.len▸(List.getElem?_eq_some_iff.mp e).1
  have e1:=congrArg (fun l:List Nat=>l[i]?) hj
  have e1:=(List.getElem?_take_of_lt hi).symm.trans (e1.trans (List.getElem?_range hi))
  exact (pick_at hb).mpr ⟨i,e1,l.m i b e⟩
 ·subst hv
  have:=ren_rel (w:=w') (w':=⟨Mine.pick js w'.m,w'.fz⟩) (f:=rho js hp'.length) (g:=id) (p:=fun _=>true) (fun a o e=>e) (fun i b z e=>rho_pick a.len.len hb e) v0 (belV_all v0) r
  rwa [renV_id] at this
inductive Atom:Bs->Nd->D->Prop
 | num {w:Bs} {nd:Nd} {it:D}:(w,nd,it)∈numL->Atom w nd it
 | str {t:Bs} {way:Int}:t∈textL->0<=way->way < 4->Atom (strW way t) (.str t) (wdD 71 t)
 | lit {x:Bs}:x∈nameL++[[]]->Atom ([47]++x) (.name x false) (wdD 72 x)
 | exec {x:Bs}:x∈nameL++markL->Atom x (.name x true) (wdD 73 x)
inductive Wd (T:Bs->Nd->List D->Prop):Bs->List Nd->List D->Prop
 | nil:Wd T [] [] []
 | snoc {s g w:Bs} {nds:List Nd} {its i:List D} {nd:Nd}:Wd T s nds its->g∈gapL->T w nd i->Wd T (s++g++w) (nds++[nd]) (its++i)
inductive Tk1 (T:Bs->Nd->List D->Prop):Bs->Nd->List D->Prop
 | atom {w:Bs} {nd:Nd} {it:D}:Atom w nd it->Tk1 T w nd [it]
 | proc {s g:Bs} {nds:List Nd} {its:List D}:Wd T s nds its->g∈gapL->nds.length<=4->Tk1 T ([123]++(s++g)++[125]) (.proc nds) ([wdD 74 []]++its++[wdD 75 []])
noncomputable def Tk (deep:Nat):Bs->Nd->List D->Prop:=deep.rec (Tk1 fun w nd its=>False) fun e T=>Tk1 T
noncomputable def szB (deep:Nat):Nat:=deep.rec 300 fun e n=>4*(20+n)+22
noncomputable def szI (deep:Nat):Nat:=deep.rec 2 fun e n=>4*n+2
theorem gapL_len {g:Bs} (h:g∈gapL):g.length<=20:=Nat.le_of_ble_eq_true (List.all_eq_true.mp (show gapL.all (fun p=>Nat.ble p.length 20)=true by decide +kernel) _ h)
theorem nameL_len {x:Bs} (h:x∈nameL++([]::markL)):x.length<=100:=Nat.le_of_ble_eq_true (List.all_eq_true.mp (show (nameL++([]::markL)).all (fun p=>Nat.ble p.length 100)=true by decide +kernel) _ h)
theorem atom_len {w:Bs} {nd:Nd} {it:D} (h:Atom w nd it):w.length<=300:=by
 cases h with
 | num h=>exact Nat.le_of_ble_eq_true (List.all_eq_true.mp (show numL.all (fun p=>Nat.ble p.1.length 300)=true by decide +kernel) _ h)
 | @str t way ht h0 h4 =>
  have e:way.toNat∈List.range 4:=List.mem_range.mpr ((Int.toNat_lt h0).mpr h4)
  have:=Nat.le_of_ble_eq_true (List.all_eq_true.mp (List.all_eq_true.mp (show (textL.all fun t=>(List.range 4).all fun k=>Nat.ble (strW (k:Nat) t).length 300)=true by decide +kernel) t ht) _ e)
  rwa [Int.toNat_of_nonneg h0] at this
 | lit h=>exact Nat.le_trans (Nat.succ_le_succ (nameL_len ((List.mem_append.mp h).elim (fun h=>List.mem_append_left _ h) fun h=>List.mem_append_right _ (by rw [List.mem_singleton.mp h];exact .head _)))) (by decide)
 | exec h=>exact Nat.le_trans (nameL_len ((List.mem_append.mp h).elim (fun h=>List.mem_append_left _ h) fun h=>List.mem_append_right _ (.tail _ h))) (by decide)
theorem Wd.len {T:Bs->Nd->List D->Prop} {B I:Nat} (ht:∀ w nd its,T w nd its->w.length<=B/\its.length<=I) {s:Bs} {nds:List Nd} {its:List D} (h:Wd T s nds its):s.length<=nds.length*(20+B)/\its.length<=nds.length*I:=by
 induction h with
 | nil=>exact ⟨Nat.zero_le _,Nat.zero_le _⟩
 | snoc h hg htk ih =>
  have h2:=ht _ _ _ htk
  have h3:=gapL_len hg
  rw [List.length_append,List.length_append,List.length_append,List.length_append,Nat.add_assoc,List.length_singleton,Nat.add_mul,Nat.add_mul,Nat.one_mul,Nat.one_mul]
  exact ⟨Nat.add_le_add ih.1 (Nat.add_le_add h3 h2.1),Nat.add_le_add ih.2 h2.2⟩
theorem Wd.len4 {T:Bs->Nd->List D->Prop} {B I:Nat} (ht:∀ w nd its,T w nd its->w.length<=B/\its.length<=I) {s:Bs} {nds:List Nd} {its:List D} (h:Wd T s nds its) (hn:nds.length<=4):s.length<=4*(20+B)/\its.length<=4*I :=
 ⟨Nat.le_trans (h.len ht).1 (Nat.mul_le_mul_right _ hn),Nat.le_trans (h.len ht).2 (Nat.mul_le_mul_right _ hn)⟩
theorem Tk1.len {T:Bs->Nd->List D->Prop} {B I B' I':Nat} (ht:∀ w nd its,T w nd its->w.length<=B/\its.length<=I) (h1:300<=B'/\1<=I') (h2:4*(20+B)+22<=B'/\4*I+2<=I') {w:Bs} {nd:Nd} {its:List D} (h:Tk1 T w nd its):w.length<=B'/\its.length<=I':=by
 cases h with
 | atom h=>exact ⟨Nat.le_trans (atom_len h) h1.1,h1.2⟩
 | proc h hg hn =>
  have h3:=h.len4 ht hn
  have h4:=gapL_len hg
  rw [List.length_append,List.length_append,List.length_append,List.length_append,List.length_append,List.length_singleton,List.length_singleton,List.length_singleton,List.length_singleton]
  exact ⟨by omega,by omega⟩
theorem szB_ge (e:Nat):300<=szB e:=by
 induction e with
 | zero=>exact Nat.le_refl _
 | succ e ih=>show 300<=4*(20+szB e)+22;omega
theorem Tk.len (deep:Nat):∀ w nd its,Tk deep w nd its->w.length<=szB deep/\its.length<=szI deep:=by
 induction deep with
 | zero=>exact fun w nd its h=>Tk1.len (T:=fun w nd its=>False) (B:=0) (I:=0) (fun w nd its h=>h.elim) (by decide) (by decide) h
 | succ e ih=>exact fun w nd its h=>Tk1.len ih ⟨szB_ge (e+1),Nat.succ_le_succ (Nat.zero_le _)⟩ ⟨Nat.le_refl _,Nat.le_refl _⟩ h
end Mine.C
namespace Mine.C
def TokP (S:Sx) (X:Bs->Prop) (deep:Nat):Prop:=∀ {d:Nat} {k:Dk} {Q:V->Hp->Prop},(∀ w nd its k',Tk deep w nd its->Q (.pair (.d (.bytes w)) (.ref 2)) (dkH k'++[.list its]))->CallOk S (d+2*deep+4) (.fn 123) [.ref 1,.d (.int deep)] (dkH k) Q X
def WdsP (S:Sx) (X:Bs->Prop) (deep:Nat):Prop:=∀ {d:Nat} {k:Dk} {n:Int} {Q:V->Hp->Prop},0<=n->n < 5->(∀ s g nds its k',Wd (Tk deep) s nds its->g∈gapL->nds.length<=4->Q (.pair (.d (.bytes (s++g))) (.ref 2)) (dkH k'++[.list its]))->CallOk S (d+2*deep+5) (.fn 124) [.ref 1,.d (.int n),.d (.int deep)] (dkH k) Q X
structure Wst where
 k:Dk
 s:Bs
 its:List D
 p:Nat
 gs:Hp
 v5:Option V
 v6:Option V
 v7:Option V
theorem nd01 (p:Nat):[0,1,p+2].Nodup:=by
 refine List.nodup_cons.mpr ⟨fun m=>?_,List.nodup_cons.mpr ⟨fun m=>?_,List.nodup_cons.mpr ⟨List.not_mem_nil,List.nodup_nil⟩⟩⟩
 ·exact (List.mem_cons.mp m).elim (fun h=>nomatch h) fun m=>nomatch List.mem_singleton.mp m
 ·exact nomatch List.mem_singleton.mp m
theorem keep3 {k:Dk} {p:Nat} {gs:Hp} {its:List D} {Q:V->Hp->Prop} {b:Bs} (e:gs[p]?=some (.list its)) (q:Q (.pair (.d (.bytes b)) (.ref 2)) (dkH k++[.list its])):Keeps 2 (.pair (.d (.bytes b)) (.ref (p+2))) (dkH k++gs) Q :=
 .mk [0,1,p+2] (.pair (.d (.bytes b)) (.ref 2)) (dkH k++[.list its]) (nd01 p) rfl (by
  show [some _,some _,gs[p]?]=_
  rw [e];rfl) rfl q
theorem setCat {d:Nat} {C:CallP} {K:Kt} {X:Bs->Prop} {hp:Hp} {v0 v1 v2 v3 v5 v6:Option V} {v4 v7:V} (h:catL.W v4 v7 hp fun v hp=>K.next [v0,v1,v2,v3,some v,v5,v6,some v7] hp):Wss [asgS 4 (bX catL (lX 4) (lX 7))] d C [v0,v1,v2,v3,some v4,v5,v6,some v7] hp K X:=h
section
variable {S:Sx} {d:Nat} {X:Bs->Prop} (Y:Std S)
include Y
theorem gap_in {k:Dk} {gs:Hp} {Q:V->Hp->Prop} (hg:gs.all live=true) (q:∀ g k',g∈gapL->Q (.d (.bytes g)) (dkH k'++gs)):CallOk S (d+3) (.fn 122) [.ref 1] (dkH k++gs) Q X:=CallOk_in [0,1] (gap_ok Y fun g k' h=>⟨rfl,q g k' h⟩) rfl rfl hg
theorem wds_step {deep:Nat} (hd:deep<=3) (ht:TokP S X deep):WdsP S X deep:=by
 intro d k n Q h0 h5 q
 have sz:szB deep<=30000/\szI deep<=200:=by
  have:=List.all_eq_true.mp (show (List.range 4).all (fun e=>decide (szB e<=30000/\szI e<=200))=true by decide) deep (List.mem_range.mpr (Nat.lt_succ_of_le hd))
  exact of_decide_eq_true this
 refine CallOk_keep (c124.run Y.fns rfl ?_)
 refine ⟨Nat.zero_le _,rfl,rfl,⟨h0,Int.lt_trans h5 (by decide)⟩,?_⟩
 refine for_runN (fun s:Wst=>[some (.ref 1),some (.d (.int n)),some (.d (.int deep)),some (.d (.bytes s.s)),some (.ref (s.p+2)),s.v5,s.v6,s.v7]) (fun s=>dkH s.k++s.gs) (fun l s=>∃ nds,nds.length+l.length<=4/\Wd (Tk deep) s.s nds s.its/\s.gs[s.p]?=some (.list s.its)/\s.gs.all live=true) ?_ ?_ _ ⟨k,[],[],0,[.list []],none,none,none⟩ ⟨[],?_,.nil,rfl,rfl⟩
 ·intro s h
  obtain ⟨nds,hl,hw,e,hg⟩:=h
  have b:=(hw.len4 (Tk.len deep) hl).1
  refine gap_in (d:=d+2*deep+1) Y hg fun g k' hg'=>?_
  have hz:s.s.length+g.length<=16777216:=by have:=gapL_len hg';omega
  exact ⟨hz,keep3 e (q s.s g nds s.its k' hw hg' hl)⟩
 ·intro N B R x r s h ih
  obtain ⟨nds,hl,hw,e,hg⟩:=h
  rw [List.length_cons] at hl
  have b:=hw.len4 (Tk.len deep) (Nat.le_trans (Nat.le_add_right _ _) hl)
  have T:CallOk S (d+2*deep+4) (.fn 123) [.ref 1,.d (.int deep)] (dkH s.k++s.gs) (fun v hp=>∃ w nd i k1,Tk deep w nd i/\v = .pair (.d (.bytes w)) (.ref (s.gs.length+2))/\hp=dkH k1++(s.gs++[O.list i])) X:=CallOk_at [0,1] (ht (d:=d) (k:=s.k) fun w nd i k1 htk=>⟨w,nd,i,k1,htk,rfl,rfl⟩) rfl rfl hg
  refine CallOk_mono T (fun v hp h=>?_) fun b x=>x
  obtain ⟨w,nd,i,k1,htk,e1,e2⟩:=h
  subst e1 e2
  have bt:=Tk.len deep _ _ _ htk
  refine ⟨rfl,?_⟩
  have hg1:(s.gs++[O.list i]).all live=true:=by rw [List.all_append,hg];rfl
  refine gap_in (d:=d+2*deep+1) Y hg1 fun g k2 hg'=>?_
  have hz:s.s.length+g.length<=16777216/\(s.s++g).length+w.length<=16777216/\s.its.length+i.length<=16777216:=by rw [List.length_append];have:=gapL_len hg';omega
  refine ⟨hz.1,hz.2.1,?_⟩
  show Wss [asgS 4 (bX catL (lX 4) (lX 7))] (d+2*deep+4) (CallOk S) [some (.ref 1),some (.d (.int n)),some (.d (.int deep)),some (.d (.bytes (s.s++g++w))),some (.ref (s.p+2)),some (.d x),some (.d (.bytes w)),some (.ref (s.gs.length+2))] (dkH k2++(s.gs++[O.list i])) _ X
  refine setCat (catL_at (hp:=dkH k2++(s.gs++[O.list i])) (p:=s.p+2) (i:=s.gs.length+2) (a:=s.its) (b:=i) (grow_at e) List.getElem?_concat_length hz.2.2 ?_)
  exact ih ⟨k2,s.s++g++w,s.its++i,(s.gs++[O.list i]).length,s.gs++[O.list i]++[.list (s.its++i)],some (.d x),some (.d (.bytes w)),some (.ref (s.gs.length+2))⟩ ⟨nds++[nd],by rw [List.length_append,Nat.add_assoc,Nat.add_comm _ r.length];exact hl,hw.snoc hg' htk,List.getElem?_concat_length,by rw [List.all_append,hg1];rfl⟩ trivial
 ·have h6:(upto n.toNat).length=n.toNat:=by unfold upto;rw [List.length_map,List.length_range]
  rw [List.length_nil,Nat.zero_add]
  exact Nat.le_trans (Nat.le_of_eq h6) (Nat.le_of_lt_succ ((Int.toNat_lt h0).mpr h5))
theorem tok_step {deep:Nat} (hd:deep<=3) (hw:∀ e,deep=e+1->WdsP S X e):TokP S X deep:=by
 intro d k Q q
 refine CallOk_keep (c123.run Y.fns rfl ?_)
 have one:∀ {w nd it k'},Atom w nd it->Keeps 2 (.pair (.d (.bytes w)) (.ref 2)) (dkH k'++[.list [it]]) Q:=fun {w nd it k'} h=>keep3 (p:=0) rfl (q w nd _ k' (by cases deep<;>exact .atom h))
 have names:∀ l:List Bs,l.length < 1000->(∀ x∈l,x∈nameL++([]::markL))->∀ (k:Dk) (K:V->Hp->Prop),0 < l.length->(∀ x k',x∈l->x.length<=100->K (.d (.bytes x)) (dkH k'))->CallOk S (d+2*deep+3) (.fn 118) [.ref 1,.d (.tup (l.map .bytes))] (dkH k) K X:=fun l h1 h2 k K h3 hq=>by
  refine pickT_ok (d:=d+2*deep+1) Y ⟨by rw [List.length_map];exact h3,by rw [List.length_map];exact h1⟩ fun v k' m=>?_
  obtain ⟨x,hx,e⟩:=List.mem_map.mp m
  subst e
  exact hq x k' hx (nameL_len (h2 x hx))
 have t1:(1:Nat)<=1000:=by decide
 have t2:(2:Nat)<=1000:=by decide
 have rest:∀ (i:Int) (k:Dk),0<=i->i < 6->(deep=0->i < 5)->Wss (b123.drop 1) (d+2*deep+3) (CallOk S) [some (.ref 1),some (.d (.int deep)),some (.d (.int i)),none,none,none] (dkH k) (Kr fun v hp=>Keeps 2 v hp Q) X:=fun i k h0 h6 h5=>by
  cases e0:(i==0) with
  | true =>
   refine ifT e0 (number_ok (d:=d+2*deep) Y fun w nd it k' h=>⟨rfl,t1,one (.num h)⟩)
  | false =>
  refine ifF e0 ?_
  cases e1:(i==1) with
  | true =>
   refine ifT e1 (lawString_ok (d:=d+2*deep) Y fun t way k' ht h1 h2=>⟨rfl,t1,one (.str ht h1 h2)⟩)
  | false =>
  refine ifF e1 ?_
  cases e2:(i==2) with
  | true =>
   refine ifT e2 ⟨show 8+1<=1000 by decide,names (nameL++[[]]) (by decide) (fun x h=>(List.mem_append.mp h).elim (fun h=>List.mem_append_left _ h) fun h=>List.mem_append_right _ (by rw [List.mem_singleton.mp h];exact .head _)) k _ (by decide) fun x k' hx hl=>⟨Nat.add_comm x.length 1▸Nat.le_trans (Nat.add_le_add_right hl 1) (by decide),t2,t1,one (.lit hx)⟩⟩
  | false =>
  refine ifF e2 ?_
  cases e3:(i==3) with
  | true =>
   refine ifT e3 (names nameL (show 8 < 1000 by decide) (fun x h=>List.mem_append_left _ h) k _ (show 0 < 8 by decide) fun x k' hx hl=>⟨t2,t1,one (.exec (List.mem_append_left _ hx))⟩)
  | false =>
  refine ifF e3 ?_
  cases e4:(i==4) with
  | true =>
   refine ifT e4 (names markL (show 4 < 1000 by decide) (fun x h=>List.mem_append_right _ (.tail _ h)) k _ (show 0 < 4 by decide) fun x k' hx hl=>⟨t2,t1,one (.exec (List.mem_append_right _ hx))⟩)
  | false =>
  refine ifF e4 ?_
  have hi:i=5:=by
   have:=ne_of_beq_false e0;have:=ne_of_beq_false e1;have:=ne_of_beq_false e2;have:=ne_of_beq_false e3;have:=ne_of_beq_false e4
   omega
  cases deep with
  | zero=>exact absurd (h5 rfl) (by rw [hi];decide)
  | succ e =>
  refine draw_ok (d:=d+2*(e+1)+2) (n:=5) Y ⟨by decide,by decide⟩ fun n k1 n0 n5=>?_
  show CallOk S (d+2*e+5) (.fn 124) [.ref 1,.d (.int n),.d (.int (((e+1:Nat):Int) - 1))] (dkH k1) _ X
  rw [show ((e+1:Nat):Int) - 1=(e:Int) from by rw [Int.natCast_succ];exact Int.add_sub_cancel _ _]
  refine hw e rfl n0 n5 fun s g nds its k2 hwd hg hn=>⟨rfl,?_⟩
  have sz:szB e<=30000/\szI e<=200:=of_decide_eq_true (List.all_eq_true.mp (show (List.range 4).all (fun e=>decide (szB e<=30000/\szI e<=200))=true by decide) e (List.mem_range.mpr (Nat.lt_succ_of_lt hd)))
  have hl:=hwd.len4 (Tk.len e) hn
  have hgl:=gapL_len hg
  have z:([123] : Bs).length+(s++g).length<=16777216/\([123]++(s++g)).length+([125] : Bs).length<=16777216/\([wdD 74 []] : List D).length+its.length<=16777216/\([wdD 74 []]++its).length+([wdD 75 []] : List D).length<=16777216:=by
   rw [List.length_append,List.length_append,List.length_append,List.length_singleton,List.length_singleton,List.length_singleton,List.length_singleton,List.length_append,List.length_singleton];omega
  exact ⟨z.1,z.2.1,t1,z.2.2.1,t1,z.2.2.2,keep3 (p:=4) (gs:=[.list its,.list [wdD 74 []],.list ([wdD 74 []]++its),.list [wdD 75 []],.list ([wdD 74 []]++its++[wdD 75 []])]) rfl (q _ _ _ k2 (.proc hwd hg hn))⟩
 cases deep with
 | zero=>exact draw_ok (d:=d+2) (n:=5) Y ⟨by decide,by decide⟩ fun i k' h0 h1=>rest i k' h0 (Int.lt_trans h1 (by decide)) fun _=>h1
 | succ e =>
  refine ifT (decide_eq_true (Int.natCast_pos.mpr (Nat.succ_pos e))) ?_
  exact draw_ok (d:=d+2*(e+1)+2) (n:=6) Y ⟨by decide,by decide⟩ fun i k' h0 h1=>rest i k' h0 h1 fun z=>nomatch z
theorem toks_ok (deep:Nat):deep<=3->TokP S X deep:=by
 induction deep with
 | zero=>exact fun h=>tok_step Y h fun e z=>nomatch z
 | succ e ih=>exact fun h=>tok_step Y h fun e' z=>Nat.succ.inj z▸wds_step Y (Nat.le_of_succ_le h) (ih (Nat.le_of_succ_le h))
end
end Mine.C
namespace Mine.C
noncomputable def b116f:List Stx:=[unpackS [2,3] (pairX (compX (itLs (slX slF (lX 0) none (some (tX (.int 40))))) [] none (bX modI (kX (gX 135 (.bi 7) rfl) [lX 0]) (tX (.int 1000003)))) (tX (.int 7001))),forS (teN 1 (itLs (lX 2))) [asgS 3 (bX modI (bX addI (bX addI (bX mulI (lX 3) (tX (.int 31))) (lX 1)) (tX (.int 1))) (tX (.int 1000003)))],retS (sdctX [(76,2),(77,3)])]
theorem c116f:Bod 116 b116f 1 [] 3:=⟨by kernel_rfl,by kernel_rfl,by kernel_rfl,by kernel_rfl,by kernel_rfl⟩
theorem cut_take {α:Type} {l:List α} {n:Nat}:cutL l none (some (n:Int))=l.take n:=by
 show (l.take (min (n:Int).toNat l.length)).drop 0=_
 rw [List.drop_zero,Int.toNat_natCast]
 exact List.take_eq_take_min.symm
section
variable {S:Sx} {d:Nat} {X:Bs->Prop} {Q:V->Hp->Prop} {xs:List Int} (Y:Std S)
include Y
theorem deck_ok (hx:xs.length<=63) (q:∀ k,Q (.ref 1) (dkH k)):CallOk S (d+1) (.fn 116) [.d (.list (xs.map .int))] [] Q X :=
 CallOk_keep (c116f.run Y.fns rfl (by
  have ec:cutL (xs.map D.int) none (some 40)=(xs.take 40).map .int:=cut_take.trans List.map_take.symm
  have hy:(xs.take 40).length<=40:=List.length_take_le _ _
  have hm:(xs.map D.int).length<=63:=by rw [List.length_map];exact hx
  refine ⟨rfl,by decide,Nat.le_trans hm (by decide),?_⟩
  rw [ec]
  generalize xs.take 40=ys at hy
  refine ⟨Nat.lt_of_le_of_lt (m:=40) (by rw [List.length_map];exact hy) (by decide),?_⟩
  refine comp_map (fx:=D.int) (fy:=fun i => .int (i % 1000003)) ?_ ?_ ?_
  ·exact rfl
  ·exact fun a m Q' h=>intI ⟨by decide,h⟩
  rw [List.nil_append,show ys.map (fun i=>D.int (i % 1000003))=(ys.map fun i=>i % 1000003).map D.int from List.map_map.symm]
  have hz:(ys.map fun i=>i % 1000003).length<=40:=by rw [List.length_map];exact hy
  generalize ys.map (fun i=>i % 1000003)=zs at hz
  refine ⟨rfl,?_⟩
  refine for_run (fun s:Option V×Int=>[some (.d (.list (xs.map .int))),s.1,some (.ref 1),some (.d (.int s.2))]) (fun s=>[.list (ys.map .int),.list (zs.map .int)]) (fun l s=>∀ y∈l,∃ i,y=D.int i) ?_ ?_ _ (none,7001) (fun y m=>(List.mem_map.mp m).imp fun i h=>h.2.symm)
  ·exact fun s h => .mk [1,2] (.ref 1) (dkH ⟨zs,s.2,hz⟩) (by decide) rfl rfl rfl (q _)
  ·intro x r s h ih
   obtain ⟨i,e⟩:=h x (.head _)
   subst e
   exact ⟨.inr (by decide),by decide,rfl,ih (_,_) fun y m=>h y (.tail _ m)⟩))
end
end Mine.C
namespace Mine.C
theorem rlNe {l:List Nd} {e:Bs} {P:Prop} (h:Rl.ok l=Rl.err e):P:=nomatch (show true=false from congrArg (fun r:Rl=>r.casesOn (motive:=fun z=>Bool) (fun l=>true) fun e=>false) h)
structure ThsOk (b:Bs) (res:Rl):Prop where
 ex:∃ f i n,f<=1000000/\i<=900/\n<=900/\thsF f i n b []=some res
structure RdOk (b:Bs) (its:List D):Prop where
 ex:∃ f n,f<=1000000/\n<=1000000/\rdF f n [] b=some its
theorem MOk.zero:MOk ⟨[],0,0⟩ 0:=⟨Nat.zero_le _,⟨Int.le_refl _,by decide⟩,by decide⟩
noncomputable def memL (n:Nat):Hp:=(memH ⟨[],0,0⟩).map (renO (rho [] n))
noncomputable def js5 (n:Nat):List Nat:=[n,n+1,n+2,n+3,n+4]
theorem js5_nodup (n:Nat):(js5 n).Nodup:=List.nodup_range' (s:=n) (n:=5) (step:=1)
theorem at_app {hp l:Hp} (i:Nat):(hp++l)[hp.length+i]?=l[i]?:=by rw [List.getElem?_append_right (Nat.le_add_right _ _),Nat.add_sub_cancel_left]
theorem sees5 {hp:Hp}:Sees (js5 hp.length) (hp++memL hp.length) (memH ⟨[],0,0⟩):=by
 show [(hp++memL hp.length)[hp.length+0]?,(hp++memL hp.length)[hp.length+1]?,(hp++memL hp.length)[hp.length+2]?,(hp++memL hp.length)[hp.length+3]?,(hp++memL hp.length)[hp.length+4]?]=_
 rw [at_app,at_app,at_app,at_app,at_app]
 rfl
theorem putAll_live {q:List (Nat×O)} {hp:Hp} (hl:hp.all live=true) (hq:∀ p∈q,live p.2=true):(putAll q hp).all live=true:=by
 induction q with
 | nil=>exact hl
 | cons p r ih =>
  have ih:=ih fun p m=>hq p (.tail _ m)
  refine List.all_eq_true.mpr fun x m=>?_
  rcases List.mem_or_eq_of_mem_set m with m | m
  ·exact List.all_eq_true.mp ih x m
  ·rw [m];exact hq p (.head _)
section
variable {S:Sx} {d:Nat} {X:Bs->Prop} {Q:V->Hp->Prop} {b:Bs} {w:Int} {hp:Hp} (Y:Std S)
include Y
theorem mem_at (hl:hp.all live=true) (q:Q (.inst 3 hp.length) (hp++memL hp.length)):CallOk S (d+2) (.cls 3) [.d limD] hp Q X:=CallOk_at [] (memNew Y q) rfl (by trivial) hl
theorem pretty_at (hl:hp.all live=true) {nds:List Nd} {pg:Bs} (hb:b.length<=1000000) (h:ThsOk b (.ok nds)) (hp':pageF 6 w 20 nds=some pg)
  (q:∀ hp':Hp,hp'.all live=true->(∀ (i:Nat) (x:O),hp[i]?=some x->hp'[i]?=some x)->Q (.d (.bytes pg)) hp'):CallOk S (d+18) (.fn 80) [.d (.bytes b),.inst 3 hp.length,.d (.int w),.d (.int 20)] (hp++memL hp.length) Q X:=by
 obtain ⟨f,i,n,hf,hi,hn,e⟩:=h.ex
 have hl2:(hp++memL hp.length).all live=true:=by rw [List.all_append,hl];rfl
 refine CallOk_place (js5 hp.length) (js5_nodup _) sees5 (fun i m e=>Bool.false_ne_true (List.all_eq_true.mp hl2 _ (List.mem_of_getElem? e))) (f0 := .fn 80) (vs0:=[.d (.bytes b),.inst 3 0,.d (.int w),.d (.int 20)]) rfl rfl
  (pretty_ok (d:=d) (N:=6) (Q:=fun v h=>v = .d (.bytes pg)/\∃ m',h=memH m') Y hb MOk.zero (Nat.le_of_eq (Nat.zero_add n)) hn hf hi e (fun a z=>rlNe z) fun l z=>by cases z;exact ⟨pg,hp',fun m'=>⟨rfl,m',rfl⟩⟩) fun v h hv=>?_
 obtain ⟨e1,m',e2⟩:=hv
 subst e1 e2
 refine q _ ?_ fun i x e=>?_
 ·unfold place
  rw [List.all_append,putAll_live hl2 fun p m=>?_]
  ·rfl
  ·obtain ⟨y,my,ey⟩:=List.mem_map.mp (List.of_mem_zip m).2
   rw [<- ey,live_ren]
   exact List.all_eq_true.mp (show (memH m').all live=true from rfl) y my
 ·have hi:=(List.getElem?_eq_some_iff.mp e).1
  have hi2:i < (hp++memL hp.length).length:=by rw [List.length_append];exact Nat.lt_add_right _ hi
  unfold place
  rw [List.getElem?_append_left (by rw [putAll_len];exact hi2)]
  rcases putAll_at hi2 (l:=(memH m').map (renO (rho (js5 hp.length) (hp++memL hp.length).length))) (js5_nodup hp.length) (Nat.le_refl 5) with h | ⟨k,h,_⟩
  ·rw [h.2,List.getElem?_append_left hi];exact e
  ·exact absurd (List.mem_range'_1.mp (show i∈List.range' hp.length 5 from List.mem_of_getElem? h)).1 (Nat.not_le.mpr hi)
theorem refused_ok {t:Bs} (hb:b.length<=1000000) (h:ThsOk b (.err t)) (q:Q (.d (.bytes t)) []):CallOk S (d+19) (.fn 131) [.d (.bytes b),.d (.int w)] [] Q X :=
 c131.run Y.fns rfl (by
  obtain ⟨f,i,n,hf,hi,hn,e⟩:=h.ex
  refine ⟨rfl,limNew (d:=d+16) Y (memNew (d:=d+16) Y ?_)⟩
  exact pretty_ok (d:=d) (N:=6) Y hb MOk.zero (Nat.le_of_eq (Nat.zero_add n)) hn hf hi e (fun a z=>by cases z;exact q) fun l z=>rlNe z.symm)
end
end Mine.C
namespace Mine.C
inductive Top:Bs->List Nd->List D->Prop
 | nil:Top [] [] []
 | snoc {s w g:Bs} {nds:List Nd} {nd:Nd} {its i:List D}:Top s nds its->Tk 3 w nd i->g∈gapL->Top (s++w++g) (nds++[nd]) (its++i)
noncomputable def faultL:List Bs:=[[123,32,97],[40,97,98,99],[60,52,103,62],[60,52,49],[47,47,97,100,100]]
noncomputable def faultE (k:Int):Bs:=cond (k==4) undE synE
structure Pg (w:Int) (its:List D) (nds:List Nd) (pg:Bs):Prop where
 pr:pageF 6 w 20 nds=some pg
 th:ThsOk pg (.ok nds)
 rd:RdOk pg its
 nl:(10:UInt8)∈pg
 ln:pg.length<=1000000
 al:∀ r∈splitB 10 pg,r.length<=1000/\((r.length:Int)<=w\/∃ it,RdOk r [it])
 rn:(splitB 10 pg).length<=1000
structure Plain:Prop where
 its:∀ w nd i,Tk 3 w nd i->i≠[]
 data:∀ s nds its,Top s nds its->its.all D.data=true
 page:∀ s nds its (w:Int),Top s nds its->its≠[]->its.length<=300->20<=w->w < 50->ThsOk s (.ok nds)/\∃ pg,Pg w its nds pg
 fault:∀ s nds its (k:Int) f,Top s nds its->its.length<=300->faultL[k.toNat]?=some f->0<=k->ThsOk (s++[32]++f) (.err (faultE k))
theorem neL_at {hp:Hp} {p q:Nat} {l:List D} {k:Bool->Prop} (e:hp[p]?=some (.list l)) (f:hp[q]?=some (.list l)) (hn:l≠[]) (hd:l.all D.data=true) (h:k false):neL.W (.ref p) (.ref q) hp k:=by
 show atL hp p fun x=>atL hp q fun y=>listEq x y fun r=>k !r
 refine atO_mk e ?_
 show atL hp q fun y=>listEq l y fun r=>k !r
 refine atO_mk f ?_
 cases l with
 | nil=>exact absurd rfl hn
 | cons a r=>exact ⟨rfl,hd,h⟩
theorem splitAt {hp:Hp} {l:List D} {k:List D->Prop} (h:k l):atL (hp++[.list l]) hp.length k:=atO_mk (x := .list l) List.getElem?_concat_length h
section
variable {S:Sx} {d:Nat} {X:Bs->Prop} {Q:V->Hp->Prop} {s:Bs} {w:Int} {p:Nat} {hp:Hp} {nds:List Nd} {its:List D} {v0 v1 v3 v6 v7 v8 v9 v10 v11 v12 v13 v14:Option V} (Y:Std S)
include Y
theorem lim_in (hl:hp.all live=true) (q:Q (.d limD) hp):CallOk S (d+2) (.cls 4) [] hp Q X:=CallOk_in [] (limNew Y ⟨rfl,q⟩) rfl (by trivial) hl
theorem read_at {b:Bs} (hb:b.length<=1000000) (h:RdOk b its) (hl:hp.all live=true) (q:Q (.ref hp.length) (hp++[.list its])):CallOk S (d+3) (.fn 130) [.d (.bytes b)] hp Q X:=by
 obtain ⟨f,n,hf,hn,e⟩:=h.ex
 exact CallOk_at [] (read_ok Y hb hf hn e q) rfl (by trivial) hl
theorem law_end (P:Plain) (ht:Top s nds its) (hn:its≠[]) (hi:its.length<=300) (hw:20<=w/\w < 50) (hs:s.length<=1000000) (hl:hp.all live=true) (he:hp[p]?=some (.list its)) (q:∀ hp,Q (.d (.bool true)) hp) :
  Wss (b132.drop 6) (d+19) (CallOk S) [v0,v1,some (.d (.int w)),v3,some (.d (.bytes s)),some (.ref p),v6,v7,v8,v9,v10,v11,v12,v13,v14] hp (Kr Q) X:=by
 obtain ⟨th,pg,g⟩:=P.page s nds its w ht hn hi hw.1 hw.2
 refine lim_in (d:=d+17) Y hl (mem_at (d:=d+17) Y hl (pretty_at (d:=d+1) Y hl hs th g.pr fun hp1 hl1 k1=>?_))
 refine read_at (d:=d+16) Y g.ln g.rd hl1 ?_
 refine neL_at List.getElem?_concat_length (grow_at (k1 p _ he)) hn (P.data _ _ _ ht) ?_
 have hl2:(hp1++[O.list its]).all live=true:=by rw [List.all_append,hl1];rfl
 generalize hp1++[O.list its]=hp2 at hl2
 refine splitOk g.ln g.nl (splitAt ?_)
 have hl3:(hp2++[O.list ((splitB 10 pg).map .bytes)]).all live=true:=by rw [List.all_append,hl2];rfl
 have e3:(hp2++[O.list ((splitB 10 pg).map D.bytes)])[hp2.length]?=some (.list ((splitB 10 pg).map .bytes)):=List.getElem?_concat_length
 generalize hp2++[O.list ((splitB 10 pg).map .bytes)]=hp3 at hl3 e3
 refine for_runN (fun s:Option V×Option V×Hp=>[v0,v1,some (.d (.int w)),v3,some (.d (.bytes _)),some (.ref p),v6,v7,v8,v9,v10,v11,some (.d (.bytes pg)),s.1,s.2.1]) (fun s=>s.2.2) (fun l s=>(∀ y∈l,∃ r,y=D.bytes r/\r.length<=1000/\((r.length:Int)<=w\/∃ it,RdOk r [it]))/\s.2.2.all live=true/\s.2.2[hp2.length]?=some (.list ((splitB 10 pg).map .bytes))) ?_ ?_ _ (v13,v14,hp3) ⟨fun y m=>?_,hl3,e3⟩
 ·intro s h
  refine lim_in (d:=d+17) Y h.2.1 (mem_at (d:=d+17) Y h.2.1 (pretty_at (d:=d+1) Y h.2.1 g.ln g.th g.pr fun hp1 hl1 k1=>?_))
  have e:(pg==pg)=true:=beq_self_eq_true pg
  show Q (.d (.bool (pg==pg))) hp1
  rw [e]
  exact q hp1
 ·intro N B R x r s h ih
  obtain ⟨y,e,hy,hr⟩:=h.1 x (.head _)
  subst e
  have ih:=fun s' h1 h2=>ih s' ⟨fun z m=>h.1 z (.tail _ m),h1,h2⟩ h2
  refine lenB (Nat.le_trans hy (by decide)) ?_
  refine boolE (b:=decide ((y.length:Int) > w)) (fun hc=>by exact ifF hc (ih (_,_,_) h.2.1 h.2.2)) fun hc=>?_
  obtain ⟨it,ri⟩:=hr.resolve_left (Int.not_le.mpr (of_decide_eq_true hc))
  refine ifT hc (read_at (d:=d+16) Y (Nat.le_trans hy (by decide)) ri h.2.1 ⟨rfl,lenL List.getElem?_concat_length (show 1<=1000000 by decide) ?_⟩)
  exact ih (_,_,_) (by rw [List.all_append,h.2.1];rfl) (grow_at h.2.2)
 ·obtain ⟨r,m,e⟩:=List.mem_map.mp m
  exact ⟨r,e.symm,g.al r m⟩
end
end Mine.C
namespace Mine.C
theorem fault_len {f:Bs} {n:Nat} (h:faultL[n]?=some f):f.length<=10:=Nat.le_of_ble_eq_true (List.all_eq_true.mp (show faultL.all (fun p=>Nat.ble p.length 10)=true by decide) _ (List.mem_of_getElem? h))
noncomputable def lpB:List Stx:=[ifS (cmpT gtI (kX (gX 128 (.bi 0) rfl) [lX 5]) (tX (.int 24))) [brkS] []]
theorem setCat5 {d:Nat} {C:CallP} {K:Kt} {X:Bs->Prop} {hp:Hp} {v0 v1 v2 v3 v4 v6 v7:Option V} {v5 v8:V} {l:List (Option V)} (h:catL.W v5 v8 hp fun v hp=>Wss lpB d C (v0::v1::v2::v3::v4::some v::v6::v7::some v8::l) hp K X):Wss (asgS 5 (bX catL (lX 5) (lX 8))::lpB) d C (v0::v1::v2::v3::v4::some v5::v6::v7::some v8::l) hp K X:=h
section
variable {S:Sx} {d:Nat} {X:Bs->Prop} {Q:V->Hp->Prop} {s:Bs} {w:Int} {p:Nat} {gs:Hp} {k:Dk} {nds:List Nd} {its:List D} {v0 v3 v6 v7 v8 v9 v10 v11 v12 v13 v14:Option V} (Y:Std S)
include Y
theorem draw_in {n:Int} (hg:gs.all live=true) (hn:0 < n/\n < 1000) (q:∀ i k',0<=i->i < n->Q (.d (.int i)) (dkH k'++gs)):CallOk S (d+1) (.fn 117) [.ref 1,.d (.int n)] (dkH k++gs) Q X:=CallOk_in [0,1] (draw_ok Y hn fun i k' h0 h1=>⟨rfl,q i k' h0 h1⟩) rfl rfl hg
theorem law_mid (P:Plain) (ht:Top s nds its) (hn:its≠[]) (hi:its.length<=300) (hw:20<=w/\w < 50) (hs:s.length<=900000) (hg:gs.all live=true) (he:gs[p]?=some (.list its)) (q:∀ hp,Q (.d (.bool true)) hp) :
  Wss (b132.drop 4) (d+19) (CallOk S) [v0,some (.ref 1),some (.d (.int w)),v3,some (.d (.bytes s)),some (.ref (p+2)),v6,v7,v8,v9,v10,v11,v12,v13,v14] (dkH k++gs) (Kr Q) X:=by
 have hs1:s.length<=1000000:=Nat.le_trans hs (by decide)
 refine draw_in (d:=d+18) (n:=8) Y hg ⟨by decide,by decide⟩ fun way k1 h0 h8=>?_
 refine boolE (b:=decide (way < 5)) (fun h5=>by exact ifF h5 (law_end Y P ht hn hi hw hs1 (hp:=dkH k1++gs) (p:=p+2) hg he q)) fun h5=>?_
 have h5':=of_decide_eq_true h5
 have hk:way.toNat < faultL.length:=(Int.toNat_lt h0).mpr h5'
 have e:=List.getElem?_eq_getElem hk
 generalize faultL[way.toNat]=f at e
 have e2:(faultL.map D.bytes)[way.toNat]?=some (.bytes f):=by rw [List.getElem?_map,e];rfl
 refine ifT h5 ⟨show 5<=1000 by decide,splitAt (k:=fun xs=>(0<=way/\way < 1000000)/\opt xs[way.toNat]? fun x=>_) (l:=faultL.map .bytes) (hp:=dkH k1++gs) ⟨⟨h0,Int.lt_trans h8 (by decide)⟩,?_⟩⟩
 rw [e2]
 have hg1:(gs++[O.list (faultL.map .bytes)]).all live=true:=by rw [List.all_append,hg];rfl
 have hl:=fault_len e
 have told:∀ t:Bs,t=faultE way->Wss [ifS (cmpT neB (kX (gX 126 (.fn 131) rfl) [bX catB (bX catB (lX 4) (tX (.bytes [32]))) (lX 10),lX 2]) (lX 11)) [retS (tX (.bool false))] []] (d+19) (CallOk S) [v0,some (.ref 1),some (.d (.int w)),v3,some (.d (.bytes s)),some (.ref (p+2)),v6,v7,v8,some (.d (.int way)),some (.d (.bytes f)),some (.d (.bytes t)),v12,v13,v14] (dkH k1++(gs++[O.list (faultL.map .bytes)]))
   ⟨fun loc hp=>Wss (b132.drop 6) (d+19) (CallOk S) loc hp (Kr Q) X,(Kr Q).brk,(Kr Q).cont,Q⟩ X:=fun t et=>by
  have z:s.length+1<=16777216/\(s++[32]).length+f.length<=16777216/\(s++[32]++f).length<=1000000:=by
   have e1:(s++[32]).length=s.length+1:=List.length_append
   have e2:(s++[32]++f).length=(s++[32]).length+f.length:=List.length_append
   omega
  refine ⟨z.1,z.2.1,CallOk_in [] (refused_ok (d:=d) Y z.2.2 (P.fault s nds its way f ht hi e h0) ⟨rfl,?_⟩) rfl (by trivial) hg1⟩
  subst et
  refine ifF (b := !(faultE way==faultE way)) (by rw [beq_self_eq_true];rfl) ?_
  exact law_end Y P ht hn hi hw hs1 (hp:=dkH k1++(gs++[O.list (faultL.map .bytes)])) (p:=p+2) hg1 (grow_at he) q
 cases h4:(way==4) with
 | true=>exact ifT h4 (told _ (by unfold faultE;rw [h4];rfl))
 | false=>exact ifF h4 (told _ (by unfold faultE;rw [h4];rfl))
structure Lst where
 k:Dk
 s:Bs
 its:List D
 p:Nat
 gs:Hp
 v6:Option V
 v7:Option V
 v8:Option V
theorem law_body (P:Plain) {xs:List Int} (hx:xs.length<=63) (q:∀ hp,Q (.d (.bool true)) hp):Wss b132 (d+19) (CallOk S) (([V.d (.list (xs.map .int))]++([] : List D).map V.d).map some++List.replicate 14 none) [] (Kr Q) X:=by
  refine deck_ok (d:=d+18) Y hx fun k=>?_
  refine draw_ok (d:=d+18) (k:=k) (n:=30) Y ⟨by decide,by decide⟩ fun w k1 w0 w1=>?_
  refine draw_ok (d:=d+18) (k:=k1) (n:=9) Y ⟨by decide,by decide⟩ fun n k2 n0 n1=>⟨show 2<=1000 by decide,rfl,Nat.zero_le _,rfl,rfl,⟨Int.add_nonneg (by decide) n0,by omega⟩,?_⟩
  have hw:20<=20+w/\20+w < 50:=by omega
  generalize 20+w=w at hw
  have fin:∀ (s:Lst) (v9 v10 v11 v12 v13 v14:Option V) (nds:List Nd),Top s.s nds s.its->s.its≠[]->s.its.length<=300->s.s.length<=900000->s.gs.all live=true->s.gs[s.p]?=some (.list s.its)->Wss (b132.drop 4) (d+19) (CallOk S) [some (.d (.list (xs.map .int))),some (.ref 1),some (.d (.int w)),some (.d (.int (1+n))),some (.d (.bytes s.s)),some (.ref (s.p+2)),s.v6,s.v7,s.v8,v9,v10,v11,v12,v13,v14] (dkH s.k++s.gs) (Kr Q) X:=fun s v9 v10 v11 v12 v13 v14 nds ht hn hi hs hg he=>law_mid Y P ht hn hi hw hs hg he q
  have h6:(upto (1+n).toNat).length<=9:=by
   have:(upto (1+n).toNat).length=(1+n).toNat:=by unfold upto;rw [List.length_map,List.length_range]
   omega
  have h7:1<=(upto (1+n).toNat).length:=by
   have:(upto (1+n).toNat).length=(1+n).toNat:=by unfold upto;rw [List.length_map,List.length_range]
   omega
  refine for_run (fun s:Lst=>[some (.d (.list (xs.map .int))),some (.ref 1),some (.d (.int w)),some (.d (.int (1+n))),some (.d (.bytes s.s)),some (.ref (s.p+2)),s.v6,s.v7,s.v8,none,none,none,none,none,none]) (fun s=>dkH s.k++s.gs) (fun l s=>s.s.length+l.length*30000<=300000/\s.its.length<=24/\(s.its≠[]\/1<=l.length)/\(∃ nds,Top s.s nds s.its)/\s.gs.all live=true/\s.gs[s.p]?=some (.list s.its)) ?_ ?_ _ ⟨k2,[],[],0,[.list []],none,none,none⟩ ⟨?_,Nat.zero_le _,.inr h7,⟨[],.nil⟩,rfl,rfl⟩
  ·intro s h
   obtain ⟨h1,h2,h3,⟨nds,h4⟩,h5,h6⟩:=h
   exact fin s _ _ _ _ _ _ nds h4 (h3.resolve_right (Nat.not_succ_le_zero _)) (Nat.le_trans h2 (by decide)) (Nat.le_trans (Nat.le_trans (Nat.le_add_right _ _) h1) (by decide)) h5 h6
  ·intro x r s h ih
   obtain ⟨h1,h2,h3,⟨nds,h4⟩,h5,h6⟩:=h
   rw [List.length_cons] at h1
   have T:CallOk S (d+19) (.fn 123) [.ref 1,.d (.int 3)] (dkH s.k++s.gs) (fun v hp=>∃ w nd i k1,Tk 3 w nd i/\v = .pair (.d (.bytes w)) (.ref (s.gs.length+2))/\hp=dkH k1++(s.gs++[O.list i])) X:=CallOk_at [0,1] (toks_ok Y 3 (Nat.le_refl 3) (d:=d+9) (k:=s.k) fun w nd i k1 htk=>⟨w,nd,i,k1,htk,rfl,rfl⟩) rfl rfl h5
   refine CallOk_mono T (fun v hp h=>?_) fun b x=>x
   obtain ⟨t,nd,i,k1,htk,e1,e2⟩:=h
   subst e1 e2
   have bt:t.length<=21342/\i.length<=170:=Tk.len 3 _ _ _ htk
   have hi0:=P.its _ _ _ htk
   have hg1:(s.gs++[O.list i]).all live=true:=by rw [List.all_append,h5];rfl
   have z1:s.s.length+t.length<=16777216:=by omega
   refine ⟨rfl,z1,gap_in (d:=d+16) Y hg1 fun g k2 hg'=>?_⟩
   have e0:(s.s++t).length=s.s.length+t.length:=List.length_append
   have e3:(s.s++t++g).length=(s.s++t).length+g.length:=List.length_append
   have e4:(s.its++i).length=s.its.length+i.length:=List.length_append
   have hgl:=gapL_len hg'
   have z2:(s.s++t).length+g.length<=16777216/\s.its.length+i.length<=16777216/\(s.its++i).length<=300/\(s.s++t++g).length+r.length*30000<=300000:=by omega
   refine ⟨z2.1,?_⟩
   show Wss (asgS 5 (bX catL (lX 5) (lX 8))::lpB) (d+19) (CallOk S) [some (.d (.list (xs.map .int))),some (.ref 1),some (.d (.int w)),some (.d (.int (1+n))),some (.d (.bytes (s.s++t++g))),some (.ref (s.p+2)),some (.d x),some (.d (.bytes t)),some (.ref (s.gs.length+2)),none,none,none,none,none,none] (dkH k2++(s.gs++[O.list i])) _ X
   refine setCat5 (catL_at (hp:=dkH k2++(s.gs++[O.list i])) (p:=s.p+2) (i:=s.gs.length+2) (a:=s.its) (b:=i) (grow_at h6) List.getElem?_concat_length z2.2.1 ?_)
   have hg2:(s.gs++[O.list i]++[O.list (s.its++i)]).all live=true:=by rw [List.all_append,hg1];rfl
   have hn:s.its++i≠[]:=fun z=>hi0 (List.append_eq_nil_iff.mp z).2
   refine lenL (xs:=s.its++i) (p:=(s.gs++[O.list i]).length+2) (hp:=dkH k2++(s.gs++[O.list i]++[O.list (s.its++i)])) List.getElem?_concat_length (Nat.le_trans z2.2.2.1 (by decide)) ?_
   refine boolE (b:=decide (((s.its++i).length:Int) > 24)) (fun hc=>?_) fun hc=>by exact ifT hc (fin ⟨k2,s.s++t++g,s.its++i,(s.gs++[O.list i]).length,s.gs++[O.list i]++[O.list (s.its++i)],some (.d x),some (.d (.bytes t)),some (.ref (s.gs.length+2))⟩ _ _ _ _ _ _ _ (h4.snoc htk hg') hn z2.2.2.1 (Nat.le_trans (Nat.le_trans (Nat.le_add_right _ _) z2.2.2.2) (by decide)) hg2 List.getElem?_concat_length)
   have h24:(s.its++i).length<=24:=by have:=of_decide_eq_false hc;omega
   exact ifF hc ⟨trivial,ih ⟨k2,s.s++t++g,s.its++i,(s.gs++[O.list i]).length,s.gs++[O.list i]++[O.list (s.its++i)],some (.d x),some (.d (.bytes t)),some (.ref (s.gs.length+2))⟩ ⟨z2.2.2.2,h24,.inl hn,⟨_,h4.snoc htk hg'⟩,hg2,List.getElem?_concat_length⟩⟩
  ·have:=Nat.mul_le_mul_right 30000 h6
   show 0+(upto (1+n).toNat).length*30000<=300000
   rw [Nat.zero_add]
   exact Nat.le_trans this (by decide)
end
end Mine.C
namespace Mine.C
theorem firstF_mono {n:Nat}:∀ {s:Bs} {o:Option (UInt8×Bs)},firstF n s=some o->firstF (n+1) s=some o:=by
 induction n with
 | zero=>exact fun h=>nomatch h
 | succ n ih =>
  intro s o h
  cases s with
  | nil=>exact h
  | cons c r =>
   have h:cond ((c.toNat:Int)==37) ((lineF r).bind (firstF n)) (cond (!blankB c) (some (some (c,r))) (firstF n r))=some o:=h
   show cond ((c.toNat:Int)==37) ((lineF r).bind (firstF (n+1))) (cond (!blankB c) (some (some (c,r))) (firstF (n+1) r))=some o
   cases e:((c.toNat:Int)==37) with
   | true =>
    rw [e] at h
    cases el:lineF r with
    | none=>rw [el] at h;exact nomatch h
    | some s=>rw [el] at h;exact ih h
   | false =>
    rw [e] at h
    cases eb:(!blankB c) with
    | true=>rw [eb] at h;exact h
    | false=>rw [eb] at h;exact ih h
theorem firstF_le {n m:Nat} {s:Bs} {o:Option (UInt8×Bs)} (hm:n<=m) (h:firstF n s=some o):firstF m s=some o:=by
 induction hm with
 | refl=>exact h
 | step _ ih=>exact firstF_mono ih
def Near (j:Nat) (t s:Bs):Prop:=∀ k o,firstF k s=some o->firstF (k+j) t=some o
theorem Near.trans {i j:Nat} {u t s:Bs} (h:Near i u t) (k:Near j t s):Near (j+i) u s:=fun n o e=>Nat.add_assoc n j i▸h _ _ (k _ _ e)
theorem Near.le {i j:Nat} {t s:Bs} (h:Near i t s) (hl:i<=j):Near j t s:=fun n o e=>firstF_le (Nat.add_le_add_left hl n) (h n o e)
theorem Near.refl (j:Nat) (s:Bs):Near j s s:=Near.le (i:=0) (fun _ _ h=>h) (Nat.zero_le _)
def Sk (s:Bs):Prop:=skipFeed s=s
theorem gap_cases {P:Bs->Prop} (h1:P [32]) (h2:P [10]) (h3:P [32,9]) (h4:P [32,37,32,97,32,114,101,109,97,114,107,32,40,120,125,32,47,121,10]) (h5:P [13,10]) (h6:P [37,13]):∀ g∈gapL,P g :=
 List.forall_mem_cons.mpr ⟨h1,List.forall_mem_cons.mpr ⟨h2,List.forall_mem_cons.mpr ⟨h3,List.forall_mem_cons.mpr ⟨h4,List.forall_mem_cons.mpr ⟨h5,List.forall_mem_cons.mpr ⟨h6,fun g m=>nomatch m⟩⟩⟩⟩⟩⟩
theorem near_cr {s:Bs} (hs:Sk s):Near 3 ([37,13]++s) s:=Near.le (i:=1) (fun n o e=>(show firstF (n+1) ([37,13]++s)=firstF n (skipFeed s) from rfl).trans ((congrArg (firstF n) hs).trans e)) (by decide)
theorem gap_near {g s:Bs} (h:g∈gapL) (hs:Sk s):Near 3 (g++s) s :=
 gap_cases (P:=fun g=>Near 3 (g++s) s) (Near.le (i:=1) (fun n o e=>e) (by decide)) (Near.le (i:=1) (fun n o e=>e) (by decide)) (Near.le (i:=2) (fun n o e=>e) (by decide)) (Near.le (i:=2) (fun n o e=>e) (by decide)) (Near.le (i:=2) (fun n o e=>e) (by decide)) (near_cr hs) g h
theorem gap_word {g s:Bs} (h:g∈gapL) (hs:Sk s):Near 3 (wordF (g++s)).2 s :=
 gap_cases (P:=fun g=>Near 3 (wordF (g++s)).2 s) (Near.refl 3 s) (Near.refl 3 s) (Near.le (i:=1) (fun n o e=>e) (by decide)) (Near.le (i:=1) (fun n o e=>e) (by decide)) (Near.refl 3 s) (near_cr hs) g h
theorem gap_empty {g s:Bs} (h:g∈gapL):(wordF (g++s)).1=[]:=gap_cases (P:=fun g=>(wordF (g++s)).1=[]) rfl rfl rfl rfl rfl rfl g h
theorem notF {b:Bool} (h:(!b)=true):b=false:=by cases b with | true=>exact nomatch h | false=>rfl
noncomputable def regC (c:UInt8):Bool := !blankB c && !delimB c
noncomputable def headC (c:UInt8):Bool := !blankB c&&(!((c.toNat:Int)==37)&&(!((c.toNat:Int)==123) && !((c.toNat:Int)==125)))
theorem wordF_app {u w:Bs} (h:w.all regC=true):wordF (w++u)=(w++(wordF u).1,(wordF u).2):=by
 induction w with
 | nil=>rfl
 | cons c r ih =>
  have h:=Bool.and_eq_true_iff.mp (List.all_cons▸h)
  have hc:(!blankB c && !delimB c)=true:=h.1
  show cond (blankB c) _ (cond (delimB c) _ (c::(wordF (r++u)).1,(wordF (r++u)).2))=_
  rw [ih h.2]
  cases hb:blankB c with
  | true=>rw [hb] at hc;exact nomatch hc
  | false=>cases hd:delimB c with
   | true=>rw [hb,hd] at hc;exact nomatch hc
   | false=>rfl
theorem regC_ok {c:UInt8} (h:regC c=true):headC c=true/\((c.toNat:Int)==47)=false/\((c.toNat:Int)==40)=false/\((c.toNat:Int)==60)=false/\((c.toNat:Int)==62)=false/\((c.toNat:Int)==91||(c.toNat:Int)==93)=false/\((c.toNat:Int)==41)=false:=by
 have:=octAll (p:=fun c => !regC c||decide (headC c=true/\((c.toNat:Int)==47)=false/\((c.toNat:Int)==40)=false/\((c.toNat:Int)==60)=false/\((c.toNat:Int)==62)=false/\((c.toNat:Int)==91||(c.toNat:Int)==93)=false/\((c.toNat:Int)==41)=false)) (by decide +kernel) c
 rw [h] at this
 exact of_decide_eq_true this
noncomputable def hdC (w:Bs):UInt8:=w.headD 0
def ScW (w:Bs) (x:Nd):Prop:=∃ c r,w=c::r/\headC c=true/\∀ g s,g∈gapL->Sk s->∃ s',plainF 900 c (r++(g++s))=some (.ok x s')/\Near 3 s' s
theorem ScW.reg {w:Bs} {x:Nd} (h:(w.all regC && !w.isEmpty)=true) (e:regF w=some x):ScW w x:=by
 have h:=Bool.and_eq_true_iff.mp h
 cases w with
 | nil=>exact nomatch h.2
 | cons c r =>
  obtain ⟨h0,h1,h2,h3,h4,h5,h6⟩:=regC_ok (Bool.and_eq_true_iff.mp (List.all_cons▸h.1)).1
  refine ⟨c,r,rfl,h0,fun g s hg hs=>⟨(wordF (g++s)).2,?_,gap_word hg hs⟩⟩
  have hw:=wordF_app (u:=g++s) h.1
  rw [gap_empty hg,List.append_nil] at hw
  have hw:wordF (c::(r++(g++s)))=(c::r,(wordF (g++s)).2):=hw
  unfold plainF
  rw [h1,h2,h3,h4,h5,h6,hw,e]
  rfl
theorem ScW.lit {x:Bs} (h:(x.all regC&&decide ((x.length:Int)<=127))=true):ScW ([47]++x) (.name x false):=by
 have h:=Bool.and_eq_true_iff.mp h
 refine ⟨47,x,rfl,by decide,fun g s hg hs=>⟨(wordF (g++s)).2,?_,gap_word hg hs⟩⟩
 have hw:=wordF_app (u:=g++s) h.1
 rw [gap_empty hg,List.append_nil] at hw
 have hl:decide ((x.length:Int) > 127)=false:=decide_eq_false (Int.not_lt.mpr (of_decide_eq_true h.2))
 have key:∀ c r,x++(g++s)=c::r->((c.toNat:Int)==47)=false->plainF 900 47 (x++(g++s))=some (.ok (.name x false) (wordF (g++s)).2):=fun c r e hc=>by
  rw [e] at hw ⊢
  show cond ((c.toNat:Int)==47) _ (cond (decide (((wordF (c::r)).1.length:Int) > 127)) none (some (Rs.ok (Nd.name (wordF (c::r)).1 false) (wordF (c::r)).2)))=_
  rw [hc,hw,hl]
  rfl
 cases x with
 | nil =>
  have hb:=List.all_eq_true.mp (show gapL.all (fun g => !g.isEmpty && !((hdC g).toNat:Int)==47)=true by decide +kernel) g hg
  cases g with
  | nil=>exact nomatch hb
  | cons c r=>exact key c (r++s) rfl (notF hb)
 | cons c r=>exact key c _ rfl (regC_ok (Bool.and_eq_true_iff.mp (List.all_cons▸h.1)).1).2.1
theorem ScW.del {w:Bs} {x:Nd} (h:(!w.isEmpty&&headC (hdC w))=true) (e:(fun u:Bs=>plainF 900 (hdC w) (w.tail++u))=fun u=>some (Rs.ok x u)):ScW w x:=by
 have h:=Bool.and_eq_true_iff.mp h
 cases w with
 | nil=>exact nomatch h.1
 | cons c r=>exact ⟨c,r,rfl,h.2,fun g s hg hs=>⟨g++s,congrFun e (g++s),gap_near hg hs⟩⟩
end Mine.C
namespace Mine.C
noncomputable def prt (x:Nd):Bs:=(atomB x).getD []
noncomputable def itOf (x:Nd):D:=x.casesOn intIt realIt (fun w e=>cond e (wdD 73 w) (wdD 72 w)) (fun w=>wdD 71 w) fun l => .none
def Ends (u:Bs):Prop:=u=[]\/∃ t,u=32::t\/u=10::t
noncomputable def ldA (p:Bs) (n:Nat) (a:List D) (t:Bs):List (Option (List D)):=[rdF 900 (n+1) a (p++[]),rdF 900 (n+1) a (p++32::t),rdF 900 (n+1) a (p++10::t)]
noncomputable def ldB (it:D) (n:Nat) (a:List D) (t:Bs):List (Option (List D)):=[rdF 900 n (a++[it]) [],rdF 900 n (a++[it]) (32::t),rdF 900 n (a++[it]) (10::t)]
theorem ld_at {p:Bs} {it:D} (e:ldA p=ldB it) {u:Bs} (hu:Ends u) (n:Nat) (a:List D):rdF 900 (n+1) a (p++u)=rdF 900 n (a++[it]) u:=by
 have e:=fun t=>congrFun (congrFun (congrFun e n) a) t
 rcases hu with h | ⟨t,h | h⟩
 ·subst h;exact (List.cons.inj (e [])).1
 ·subst h;exact (List.cons.inj (List.cons.inj (e t)).2).1
 ·subst h;exact (List.cons.inj (List.cons.inj (List.cons.inj (e t)).2).2).1
noncomputable def okP (x:Nd) (p:Bs):Bool:=(!isProcN x && !p.isEmpty)&&(Nat.ble p.length 200&&p.all fun c => !((c.toNat:Int)==10))
structure Word (x:Nd) (p:Bs):Prop where
 at_:atomB x=some p
 ok:okP x p=true
 sc:ScW p x
 ld:ldA p=ldB (itOf x)
theorem map_at {α β:Type} {f g:α->β} {l:List α} (h:l.map f=l.map g) {a:α} (ha:a∈l):f a=g a:=List.map_inj_left.mp h a ha
noncomputable def ndL:List Nd:=numL.map (fun p=>p.2.1)++(textL.map .str++((nameL++[[]]).map (fun x => .name x false)++(nameL++markL).map fun x => .name x true))
theorem atT:ndL.map (fun x=>atomB x)=ndL.map fun x=>some (prt x):=by kernel_rfl
theorem okT:ndL.all (fun x=>okP x (prt x))=true:=by kernel_rfl
theorem ldT:ndL.map (fun x=>ldA (prt x))=ndL.map fun x=>ldB (itOf x):=by kernel_rfl
noncomputable def okR (w:Bs):Bool:=w.all regC && !w.isEmpty
noncomputable def okD (w:Bs):Bool := !w.isEmpty&&headC (hdC w)
noncomputable def delA (w u:Bs):Option Rs:=plainF 900 (hdC w) (w.tail++u)
noncomputable def delB (x:Nd) (u:Bs):Option Rs:=some (.ok x u)
noncomputable def waysL (t:Bs):List Bs:=[strW 0 t,strW 1 t,strW 2 t,strW 3 t,prt (.str t)]
theorem numS:numL.map (fun p=>(regF p.1,regF (prt p.2.1),p.2.2))=numL.map fun p=>(some p.2.1,some p.2.1,itOf p.2.1):=by kernel_rfl
theorem numO:numL.all (fun p=>okR p.1&&okR (prt p.2.1))=true:=by kernel_rfl
theorem nameS2:nameL.map regF=nameL.map fun x=>some (.name x true):=by kernel_rfl
theorem nameO:nameL.all okR=true:=by kernel_rfl
theorem litO:(nameL++[[]]).all (fun x=>x.all regC&&decide ((x.length:Int)<=127))=true:=by kernel_rfl
theorem markS:markL.map delA=markL.map fun x=>delB (.name x true):=by kernel_rfl
theorem markO:markL.all okD=true:=by kernel_rfl
theorem textS:textL.map (fun t=>(waysL t).map delA)=textL.map fun t=>(waysL t).map fun w=>delB (.str t):=by kernel_rfl
theorem textO:textL.all (fun t=>(waysL t).all okD)=true:=by kernel_rfl
theorem litP:(nameL++[[]]).map (fun x=>prt (.name x false))=(nameL++[[]]).map fun x=>[47]++x:=by kernel_rfl
theorem execP:(nameL++markL).map (fun x=>prt (.name x true))=(nameL++markL).map fun x=>x:=by kernel_rfl
theorem wordIn {x:Nd} (h:x∈ndL) (s:ScW (prt x) x):Word x (prt x):=⟨map_at atT h,List.all_eq_true.mp okT x h,s,map_at ldT h⟩
theorem text_sc {t w:Bs} (h:t∈textL) (hw:w∈waysL t):ScW w (.str t) := .del (List.all_eq_true.mp (List.all_eq_true.mp textO t h) w hw) (map_at (map_at textS h) hw)
theorem strW_in {t:Bs} {way:Int} (h0:0<=way) (h4:way < 4):strW way t∈waysL t:=by
 have h:way=0\/way=1\/way=2\/way=3:=by omega
 rcases h with h | h | h | h
 ·subst h;exact .head _
 ·subst h;exact .tail _ (.head _)
 ·subst h;exact .tail _ (.tail _ (.head _))
 ·subst h;exact .tail _ (.tail _ (.tail _ (.head _)))
theorem atom_all {w:Bs} {nd:Nd} {it:D} (h:Atom w nd it):it=itOf nd/\ScW w nd/\Word nd (prt nd):=by
 cases h with
 | num h =>
  have s:=map_at numS h
  have o:=Bool.and_eq_true_iff.mp (List.all_eq_true.mp numO _ h)
  have s1:=Prod.mk.inj s
  have s2:=Prod.mk.inj s1.2
  exact ⟨s2.2,.reg o.1 s1.1,wordIn (List.mem_append_left _ (List.mem_map.mpr ⟨_,h,rfl⟩)) (.reg o.2 s2.1)⟩
 | @str t way ht h0 h4=>exact ⟨rfl,text_sc ht (strW_in h0 h4),wordIn (List.mem_append_right _ (List.mem_append_left _ (List.mem_map.mpr ⟨_,ht,rfl⟩))) (text_sc ht (.tail _ (.tail _ (.tail _ (.tail _ (.head _))))))⟩
 | lit h =>
  have s:=ScW.lit (List.all_eq_true.mp litO _ h)
  exact ⟨rfl,s,wordIn (List.mem_append_right _ (List.mem_append_right _ (List.mem_append_left _ (List.mem_map.mpr ⟨_,h,rfl⟩)))) ((map_at litP h).symm▸s)⟩
 | exec h =>
  have k:=wordIn (x := .name w true) (List.mem_append_right _ (List.mem_append_right _ (List.mem_append_right _ (List.mem_map.mpr ⟨_,h,rfl⟩))))
  have s:ScW w (.name w true):=(List.mem_append.mp h).elim (fun h => .reg (List.all_eq_true.mp nameO _ h) (map_at nameS2 h)) fun h => .del (List.all_eq_true.mp markO _ h) (map_at markS h)
  exact ⟨rfl,s,k ((map_at execP h).symm▸s)⟩
end Mine.C
namespace Mine.C
inductive Ev | nd (x:Nd) | op | cl
inductive NL (T:Nd->List Ev->Prop):List Nd->List Ev->Prop
 | nil:NL T [] []
 | cons {x:Nd} {l:List Nd} {es fs:List Ev}:T x es->NL T l fs->NL T (x::l) (es++fs)
inductive N1 (T:Nd->List Ev->Prop):Nd->List Ev->Prop
 | atom {x:Nd} {p:Bs}:Word x p->N1 T x [.nd x]
 | proc {l:List Nd} {es:List Ev}:NL T l es->l.length<=4->N1 T (.proc l) (.op::(es++[.cl]))
noncomputable def Ntr (e:Nat):Nd->List Ev->Prop:=e.rec (N1 fun x es=>False) fun e T=>N1 T
noncomputable def evIt (e:Ev):D:=e.casesOn itOf (wdD 74 []) (wdD 75 [])
theorem NL.snoc {T:Nd->List Ev->Prop} {l:List Nd} {es:List Ev} (h:NL T l es) {x:Nd} {fs:List Ev} (k:T x fs):NL T (l++[x]) (es++fs):=by
 induction h with
 | nil=>have k:=NL.cons k .nil;rw [List.append_nil] at k;exact k
 | cons a _ ih=>rw [List.append_assoc];exact .cons a ih
def Ev1 (e:Ev) (t r:Bs):Prop:=Ev.casesOn e (fun x=>∃ c u,firstF 900 t=some (some (c,u))/\headC c=true/\plainF 900 c u=some (.ok x r)) (firstF 900 t=some (some (123,r))) (firstF 900 t=some (some (125,r)))
def Sc (es:List Ev):Bs->Bs->Prop:=List.rec (motive:=fun _=>Bs->Bs->Prop) (fun t s=>t=s) (fun e es ih t s=>∃ r,Ev1 e t r/\ih r s) es
theorem Sc.app {a b:List Ev} {s u:Bs} (k:Sc b s u):∀ {t:Bs},Sc a t s->Sc (a++b) t u:=by
 induction a with
 | nil=>intro t h;cases (show t=s from h);exact k
 | cons e a ih=>intro t h;exact Exists.imp (fun r h=>⟨h.1,ih h.2⟩) h
theorem Sc.split {a b:List Ev} {u:Bs}:∀ {t:Bs},Sc (a++b) t u->∃ s,Sc a t s/\Sc b s u:=by
 induction a with
 | nil=>exact fun {t} h=>⟨t,rfl,h⟩
 | cons e a ih =>
  intro t h
  obtain ⟨r,h1,h2⟩:=(show ∃ r,Ev1 e t r/\Sc (a++b) r u from h)
  obtain ⟨s,h3,h4⟩:=ih h2
  exact ⟨s,⟨r,h1,h3⟩,h4⟩
theorem Sc.one {e:Ev} {t r:Bs} (h:Ev1 e t r):Sc [e] t r:=⟨r,h,rfl⟩
theorem headC_ok {c:UInt8} (h:headC c=true):(!blankB c)=true/\((c.toNat:Int)==37)=false/\((c.toNat:Int)==123)=false/\((c.toNat:Int)==125)=false:=by
 have h1:=Bool.and_eq_true_iff.mp h
 have h2:=Bool.and_eq_true_iff.mp h1.2
 have h3:=Bool.and_eq_true_iff.mp h2.2
 exact ⟨h1.1,notF h2.1,notF h3.1,notF h3.2⟩
theorem tokF_succ {f n:Nat} {st:List (List Nd)} {t:Bs}:tokF f (n+1) st t=Option.casesOn (motive:=fun _=>Option Rt) (firstF f t) none (tokH f n (tokF f n) st):=rfl
noncomputable def pushF (n:Nat) (st:List (List Nd)) (x:Nd) (s:Bs):Option Rt:=st.casesOn (some (.ok x s n)) fun top st'=>tokF 900 n ((top++[x])::st') s
def Rd1 (T:Nd->List Ev->Prop):Prop:=∀ x es,T x es->∀ t s st n,Sc es t s->tokF 900 (n+es.length) st t=pushF n st x s
theorem tok_l {T:Nd->List Ev->Prop} (hT:Rd1 T) {l:List Nd} {es:List Ev} (h:NL T l es):∀ {t s:Bs} {st:List (List Nd)} {top:List Nd} {n:Nat},Sc es t s->tokF 900 (n+es.length) (top::st) t=tokF 900 n ((top++l)::st) s:=by
 induction h with
 | nil=>intro t s st top n hs;cases (show t=s from hs);rw [List.append_nil];rfl
 | @cons x l es fs h1 _ ih =>
  intro t s st top n hs
  obtain ⟨s1,k1,k2⟩:=hs.split
  rw [List.length_append,Nat.add_comm es.length,<- Nat.add_assoc,hT x es h1 t s1 (top::st) _ k1]
  show tokF 900 (n+fs.length) ((top++[x])::st) s1=_
  rw [ih k2,List.append_assoc];rfl
theorem tok_1 {T:Nd->List Ev->Prop} (hT:Rd1 T):Rd1 (N1 T):=by
 intro x es h t s st n hs
 cases h with
 | atom hw =>
  obtain ⟨r,⟨c,u,e1,hc,e2⟩,er⟩:=hs
  cases (show r=s from er)
  obtain ⟨-,-,h1,h2⟩:=headC_ok hc
  refine tokF_succ.trans ?_
  rw [e1]
  unfold tokH
  dsimp only
  rw [h1,h2,e2]
  rfl
 | @proc l fs h hl =>
  obtain ⟨r,e1,k⟩:=hs
  obtain ⟨s1,k1,k2⟩:=Sc.split k
  obtain ⟨r2,e2,er⟩:=k2
  cases (show r2=s from er)
  have e2:firstF 900 s1=some (some (125,s)):=e2
  have e1:firstF 900 t=some (some (123,r)):=e1
  have en:n+(Ev.op::(fs++[.cl])).length=(n+1)+fs.length+1:=by rw [List.length_cons,List.length_append,List.length_singleton,Nat.add_right_comm n 1];rfl
  rw [en]
  rw [tokF_succ,e1]
  show tokF 900 (n+1+fs.length) ([]::st) r=_
  rw [tok_l hT h k1]
  refine tokF_succ.trans ?_
  rw [e2]
  show cond (Nat.ble l.length 100) _ none=_
  rw [Nat.ble_eq_true_of_le (Nat.le_trans hl (by decide))]
  rfl
theorem tok_e (e:Nat):Rd1 (Ntr e):=by
 induction e with
 | zero=>exact tok_1 fun x es h=>h.elim
 | succ e ih=>exact tok_1 ih
theorem ths_l {e:Nat} {l:List Nd} {es:List Ev} (h:NL (Ntr e) l es):∀ {t s:Bs} {i n:Nat} {a:List Nd},Sc es t s->thsF 900 (i+l.length) (n+es.length) t a=thsF 900 i n s (a++l):=by
 induction h with
 | nil=>intro t s i n a hs;cases (show t=s from hs);rw [List.append_nil];rfl
 | @cons x l es fs h1 _ ih =>
  intro t s i n a hs
  obtain ⟨s1,k1,k2⟩:=hs.split
  rw [List.length_append,Nat.add_comm es.length,<- Nat.add_assoc]
  show Option.casesOn (motive:=fun _=>Option Rl) (tokF 900 (n+fs.length+es.length) [] t) none _=_
  rw [tok_e e x es h1 t s1 [] _ k1]
  show thsF 900 (i+l.length) (n+fs.length) s1 (a++[x])=_
  rw [ih k2,List.append_assoc];rfl
theorem ths_end {s:Bs} {i n:Nat} {a:List Nd} (e:firstF 900 s=some none):thsF 900 (i+1) (n+1) s a=some (.ok a):=by
 show Option.casesOn (motive:=fun _=>Option Rl) (tokF 900 (n+1) [] s) none _=_
 rw [tokF_succ,e];rfl
end Mine.C
namespace Mine.C
theorem near_at {j:Nat} {c:UInt8} {t r:Bs} (hn:Near j t (c::r)) (hc:headC c=true) (hj:1+j<=900):firstF 900 t=some (some (c,r)) :=
 firstF_le hj (hn 1 _ (by
  obtain ⟨h1,h2,-,-⟩:=headC_ok hc
  show cond ((c.toNat:Int)==37) _ (cond (!blankB c) (some (some (c,r))) _)=_
  rw [h1,h2];rfl))
theorem near_op {j:Nat} {c:UInt8} {t r:Bs} (hn:Near j t (c::r)) (hc:(!blankB c && !((c.toNat:Int)==37))=true) (hj:1+j<=900):firstF 900 t=some (some (c,r)) :=
 firstF_le hj (hn 1 _ (by
  have h:=Bool.and_eq_true_iff.mp hc
  show cond ((c.toNat:Int)==37) _ (cond (!blankB c) (some (some (c,r))) _)=_
  rw [h.1,notF h.2];rfl))
structure Tok1 (N:Nd->List Ev->Prop) (w:Bs) (nd:Nd) (its:List D):Prop where
 ex:∃ es,N nd es/\its=es.map evIt/\its≠[]/\its.all D.data=true/\(∀ u,Sk (w++u))/\∀ g s t,g∈gapL->Sk s->Near 90 t (w++(g++s))->∃ s',Sc es t s'/\Near 3 s' s
structure Wds1 (N:Nd->List Ev->Prop) (s0:Bs) (nds:List Nd) (its:List D):Prop where
 ex:∃ es,NL N nds es/\its=es.map evIt/\its.all D.data=true/\∀ g s t,g∈gapL->Sk s->Near 60 t (s0++(g++s))->∃ s',Sc es t s'/\Near 66 s' s
theorem head_sk {c:UInt8} {r:Bs} (h:((c.toNat:Int)==10)=false):Sk (c::r):=by
 show cond (!((c.toNat:Int)==10)) (c::r) r=_
 rw [h];rfl
theorem headC_10 {c:UInt8} (h:headC c=true):((c.toNat:Int)==10)=false:=by
 have:=octAll (p:=fun c => !headC c || !((c.toNat:Int)==10)) (by decide +kernel) c
 rw [h] at this
 exact notF this
theorem itOf_data {x:Nd} {p:Bs} (h:okP x p=true):[itOf x].all D.data=true:=by
 cases x with
 | name w e=>cases e<;>rfl
 | proc l=>exact nomatch h
 | _=>rfl
theorem wd_ok {T:Bs->Nd->List D->Prop} {N:Nd->List Ev->Prop} (hT:∀ w nd its,T w nd its->Tok1 N w nd its) {s0:Bs} {nds:List Nd} {its:List D} (h:Wd T s0 nds its):Wds1 N s0 nds its:=by
 induction h with
 | nil=>exact ⟨[],.nil,rfl,rfl,fun g s t hg hs hn=>⟨t,rfl,Near.le (Near.trans hn (gap_near hg hs)) (by decide)⟩⟩
 | @snoc s0 g0 w nds its i nd _ hg0 ht ih =>
  obtain ⟨es,a1,a2,a3,a4⟩:=ih.ex
  obtain ⟨fs,b1,b2,-,b3,b4,b5⟩:=(hT _ _ _ ht).ex
  refine ⟨es++fs,a1.snoc b1,by rw [a2,b2,List.map_append],by rw [List.all_append,a3,b3];rfl,fun g s t hg hs hn=>?_⟩
  rw [List.append_assoc,List.append_assoc] at hn
  obtain ⟨s1,k1,k2⟩:=a4 _ _ _ hg0 (b4 _) hn
  obtain ⟨s2,k3,k4⟩:=b5 _ _ _ hg hs (k2.le (by decide))
  exact ⟨s2,Sc.app k3 k1,k4.le (by decide)⟩
theorem tk_ok1 {T:Bs->Nd->List D->Prop} {N:Nd->List Ev->Prop} (hT:∀ w nd its,T w nd its->Tok1 N w nd its) (w:Bs) (nd:Nd) (its:List D) (h:Tk1 T w nd its):Tok1 (N1 N) w nd its:=by
 cases h with
 | atom h =>
  obtain ⟨h1,⟨c,r,e,hc,hp⟩,hw⟩:=atom_all h
  subst e h1
  refine ⟨[.nd nd],.atom hw,rfl,(fun z=>nomatch z),itOf_data hw.ok,fun u=>head_sk (headC_10 hc),fun g s t hg hs hn=>?_⟩
  obtain ⟨s',e,k⟩:=hp g s hg hs
  exact ⟨s',Sc.one ⟨c,_,near_at hn hc (by decide),hc,e⟩,k⟩
 | @proc s0 g0 nds its h hg0 hl =>
  obtain ⟨es,a1,a2,a3,a4⟩:=(wd_ok hT h).ex
  refine ⟨.op::(es++[.cl]),.proc a1 hl,by rw [a2,List.map_cons,List.map_append];rfl,(fun z=>nomatch z),by rw [List.all_append,List.all_append,a3];rfl,fun u=>head_sk (c:=123) rfl,fun g s t hg hs hn=>?_⟩
  rw [List.append_assoc,List.append_assoc,List.append_assoc] at hn
  obtain ⟨s1,k1,k2⟩:=a4 g0 (125::(g++s)) _ hg0 (head_sk (c:=125) rfl) (Near.refl 60 _)
  exact ⟨g++s,⟨_,near_op hn (by decide) (by decide),Sc.app (Sc.one (e := .cl) (near_op k2 (by decide) (by decide))) k1⟩,gap_near hg hs⟩
theorem tk_e (e:Nat):∀ w nd its,Tk e w nd its->Tok1 (Ntr e) w nd its:=by
 induction e with
 | zero=>exact tk_ok1 fun w nd its h=>h.elim
 | succ e ih=>exact tk_ok1 ih
structure Top1 (s0:Bs) (nds:List Nd) (its:List D):Prop where
 ex:∃ es,NL (Ntr 3) nds es/\its=es.map evIt/\its.all D.data=true/\∀ s t,Sk s->Near 60 t (s0++s)->∃ s',Sc es t s'/\Near 60 s' s
theorem top_ok {s0:Bs} {nds:List Nd} {its:List D} (h:Top s0 nds its):Top1 s0 nds its:=by
 induction h with
 | nil=>exact ⟨[],.nil,rfl,rfl,fun s t hs hn=>⟨t,rfl,hn⟩⟩
 | @snoc s0 w g nds nd its i _ ht hg ih =>
  obtain ⟨es,a1,a2,a3,a4⟩:=ih.ex
  obtain ⟨fs,b1,b2,-,b3,b4,b5⟩:=(tk_e 3 _ _ _ ht).ex
  refine ⟨es++fs,a1.snoc b1,by rw [a2,b2,List.map_append],by rw [List.all_append,a3,b3];rfl,fun s t hs hn=>?_⟩
  rw [List.append_assoc,List.append_assoc] at hn
  obtain ⟨s1,k1,k2⟩:=a4 _ _ (b4 _) hn
  obtain ⟨s2,k3,k4⟩:=b5 _ _ _ hg hs (k2.le (by decide))
  exact ⟨s2,Sc.app k3 k1,k4.le (by decide)⟩
theorem first_nil:firstF 1 []=some none:=rfl
theorem NL.len {T:Nd->List Ev->Prop} (hT:∀ x es,T x es->1<=es.length) {l:List Nd} {es:List Ev} (h:NL T l es):l.length<=es.length:=by
 induction h with
 | nil=>exact Nat.le_refl 0
 | cons h _ ih=>rw [List.length_cons,List.length_append,Nat.add_comm];exact Nat.add_le_add (hT _ _ h) ih
theorem ntr_pos (e:Nat) (x:Nd) (es:List Ev) (h:Ntr e x es):1<=es.length:=by
 cases e with
 | zero=>cases (show N1 _ x es from h)<;>exact Nat.succ_le_succ (Nat.zero_le _)
 | succ e=>cases (show N1 _ x es from h)<;>exact Nat.succ_le_succ (Nat.zero_le _)
theorem things_of {nds:List Nd} {es:List Ev} {t s':Bs} (h:NL (Ntr 3) nds es) (hl:es.length<=300) (k1:Sc es t s') (e:firstF 900 s'=some none):ThsOk t (.ok nds) :=
 ⟨900,1+nds.length,1+es.length,by decide,Nat.le_trans (Nat.add_le_add_left (Nat.le_trans (h.len (ntr_pos 3)) hl) 1) (by decide),Nat.le_trans (Nat.add_le_add_left hl 1) (by decide),by
  rw [ths_l h k1]
  exact ths_end (i:=0) (n:=0) e⟩
theorem fault_tok {s w:Bs} (k:Nat) (h:faultL[k]?=some w) (hn:Near 61 s w):tokF 900 3 [] s=some (.err (faultE k)):=by
 match k,h with
 | 0,h =>
  cases h
  rw [tokF_succ,near_op hn (by decide) (by decide)]
  rfl
 | 1,h=>cases h;rw [tokF_succ,near_op hn (by decide) (by decide)];rfl
 | 2,h=>cases h;rw [tokF_succ,near_op hn (by decide) (by decide)];rfl
 | 3,h=>cases h;rw [tokF_succ,near_op hn (by decide) (by decide)];rfl
 | 4,h=>cases h;rw [tokF_succ,near_op hn (by decide) (by decide)];rfl
end Mine.C
namespace Mine.C
noncomputable def not10 (b:Bs):Bool:=b.all fun c => !((c.toNat:Int)==10)
structure Jn (j:Nat) (b:Bs) (es:List Ev):Prop where
 pos:1<=es.length
 ne:b≠[]
 nl:not10 b=true
 hd:∀ u,Sk (b++u)
 sc:∀ g s t,g∈gapL->Sk s->Near j t (b++(g++s))->∃ s',Sc es t s'/\Near 3 s' s
 ld:∃ k,k+1+j<=2*es.length+90/\∀ u n a,Ends u->rdF 900 (n+k) a (b++u)=rdF 900 n (a++es.map evIt) u
theorem Jn.word {x:Nd} {p:Bs} (h:Word x p):Jn 90 p [.nd x]:=by
 obtain ⟨h1,h2,⟨c,r,e,hc,hp⟩,h4⟩:=h
 subst e
 have h2:=Bool.and_eq_true_iff.mp (Bool.and_eq_true_iff.mp h2).2
 exact ⟨Nat.le_refl 1,(fun z=>nomatch z),h2.2,fun u=>head_sk (headC_10 hc),fun g s t hg hs hn=>(hp g s hg hs).imp fun s' k=>⟨Sc.one ⟨c,_,near_at hn hc (by decide),hc,k.1⟩,k.2⟩,1,Nat.le_refl 92,fun u n a hu=>ld_at h4 hu n a⟩
theorem Jn.op:Jn 90 [123] [.op]:=⟨Nat.le_refl 1,(fun z=>nomatch z),rfl,fun u=>head_sk (c:=123) rfl,fun g s t hg hs hn=>⟨g++s,Sc.one (e := .op) (near_op hn (by decide) (by decide)),gap_near hg hs⟩,1,by decide,fun u n a hu=>rfl⟩
theorem Jn.cl:Jn 90 [125] [.cl]:=⟨Nat.le_refl 1,(fun z=>nomatch z),rfl,fun u=>head_sk (c:=125) rfl,fun g s t hg hs hn=>⟨g++s,Sc.one (e := .cl) (near_op hn (by decide) (by decide)),gap_near hg hs⟩,1,by decide,fun u n a hu=>rfl⟩
theorem gap32:[32]∈gapL := .head _
theorem gap10:[10]∈gapL := .tail _ (.head _)
theorem Jn.cat {j:Nat} {a b:Bs} {es fs:List Ev} (h:Jn j a es) (k:Jn 90 b fs):Jn j (a++32::b) (es++fs) where
 pos:=by rw [List.length_append];exact Nat.le_add_right_of_le h.pos
 ne z:=h.ne (List.append_eq_nil_iff.mp z).1
 nl:=by unfold not10;rw [List.all_append,List.all_cons];exact Bool.and_eq_true_iff.mpr ⟨h.nl,Bool.and_eq_true_iff.mpr ⟨rfl,k.nl⟩⟩
 hd u:=by rw [List.append_assoc];exact h.hd _
 sc g s t hg hs hn:=by
  rw [List.append_assoc] at hn
  obtain ⟨s1,k1,k2⟩:=h.sc [32] (b++(g++s)) t gap32 (k.hd _) hn
  obtain ⟨s2,k3,k4⟩:=k.sc g s s1 hg hs (k2.le (by decide))
  exact ⟨s2,Sc.app k3 k1,k4⟩
 ld:=by
  obtain ⟨k1,l1,e1⟩:=h.ld
  obtain ⟨k2,l2,e2⟩:=k.ld
  refine ⟨k2+1+k1,by rw [List.length_append];omega,fun u n a hu=>?_⟩
  rw [List.append_assoc,<- Nat.add_assoc,<- Nat.add_assoc]
  refine (e1 (32::(b++u)) _ a (.inr ⟨_,.inl rfl⟩)).trans ?_
  refine (show rdF 900 (n+k2+1) (a++es.map evIt) (32::(b++u))=rdF 900 (n+k2) (a++es.map evIt) (b++u) from rfl).trans ?_
  rw [e2 u n _ hu,List.append_assoc,List.map_append]
theorem near_sp (s:Bs) (n:Nat):Near n (List.replicate n 32++s) s:=by
 induction n with
 | zero=>exact Near.refl 0 s
 | succ n ih=>rw [List.replicate_succ,List.cons_append];exact Near.trans (i:=1) (t:=List.replicate n 32++s) (fun k o e=>e) ih
theorem Jn.row {b:Bs} {es:List Ev} (h:Jn 90 b es) {n:Nat} (hn:n<=40):Jn 50 (List.replicate n 32++b) es where
 pos:=h.pos
 ne z:=h.ne (List.append_eq_nil_iff.mp z).2
 nl:=by
  unfold not10
  rw [List.all_append]
  refine Bool.and_eq_true_iff.mpr ⟨List.all_eq_true.mpr fun c m=>?_,h.nl⟩
  rw [List.eq_of_mem_replicate m];rfl
 hd u:=by
  cases n with
  | zero=>exact h.hd u
  | succ n=>exact head_sk (c:=32) rfl
 sc g s t hg hs hn':=by
  rw [List.append_assoc] at hn'
  exact h.sc g s t hg hs (Near.le (Near.trans hn' (near_sp _ n)) (Nat.add_le_add_right hn 50))
 ld:=by
  obtain ⟨k,l,e⟩:=h.ld
  refine ⟨k+n,by omega,fun u m a hu=>?_⟩
  rw [List.append_assoc]
  have:∀ i,rdF 900 (m+(k+i)) a (List.replicate i 32++(b++u))=rdF 900 (m+k) a (b++u):=fun i=>by
   induction i with
   | zero=>rfl
   | succ i ih=>exact ih
  rw [this,e u m a hu]
inductive JL:List Bs->List Ev->Prop
 | one {b:Bs} {es:List Ev}:Jn 90 b es->JL [b] es
 | cons {b:Bs} {bs:List Bs} {es fs:List Ev}:Jn 90 b es->JL bs fs->JL (b::bs) (es++fs)
theorem JL.join {bs:List Bs} {es:List Ev} (h:JL bs es):Jn 90 (joinB [32] bs) es:=by
 induction h with
 | one h=>exact h
 | @cons b bs es fs h1 h2 ih =>
  cases bs with
  | nil=>exact nomatch h2
  | cons c r =>
   show Jn 90 (b++[32]++joinB [32] (c::r)) (es++fs)
   rw [List.append_assoc]
   exact h1.cat ih
theorem join_len {L:Nat} {bs:List Bs} (h:∀ b∈bs,b.length<=L):(joinB [32] bs).length<=bs.length*(L+1):=by
 induction bs with
 | nil=>exact Nat.zero_le _
 | cons b bs ih =>
  have h1:=h b (.head _)
  have h2:=ih fun c m=>h c (.tail _ m)
  rw [List.length_cons,Nat.add_mul,Nat.one_mul]
  cases bs with
  | nil=>exact Nat.le_trans (Nat.le_succ_of_le h1) (Nat.le_add_left _ _)
  | cons c r =>
   show (b++[32]++joinB [32] (c::r)).length<=_
   rw [List.length_append,List.length_append,List.length_singleton,Nat.add_comm]
   exact Nat.add_le_add h2 (Nat.add_le_add_right h1 1)
def Tb1 (n L:Nat) (T:Nd->List Ev->Prop):Prop:=∀ m x es,n<=m->T x es->∃ b,tokB m x=some b/\Jn 90 b es/\b.length<=L/\(isProcN x=false->es.length=1/\b.length<=200)
theorem tbs {n L m:Nat} {T:Nd->List Ev->Prop} (hT:Tb1 n L T) (hm:n<=m) {l:List Nd} {es:List Ev} (h:NL T l es):∃ bs,mapO (tokB m) l=some bs/\bs.length=l.length/\(∀ b∈bs,b.length<=L)/\∀ tail ft,JL tail ft->JL (bs++tail) (es++ft):=by
 induction h with
 | nil=>exact ⟨[],rfl,rfl,(fun b m=>nomatch m),fun tail ft h=>h⟩
 | @cons x l es fs h1 _ ih =>
  obtain ⟨b,a1,a2,a3,-⟩:=hT m x es hm h1
  obtain ⟨bs,b1,b2,b3,b4⟩:=ih
  refine ⟨b::bs,?_,congrArg Nat.succ b2,fun c m=>(List.mem_cons.mp m).elim (fun z=>z▸a3) (b3 c),fun tail ft h=>?_⟩
  ·show Option.casesOn (motive:=fun _=>Option (List Bs)) (tokB m x) none (fun b=>Option.casesOn (motive:=fun _=>Option (List Bs)) (mapO (tokB m) l) none fun bs=>some (b::bs))=_
   rw [a1,b1]
  ·rw [List.append_assoc];exact .cons a2 (b4 _ _ h)
theorem tb_step {n L:Nat} {T:Nd->List Ev->Prop} (hT:Tb1 n L T) (hL:6*(L+1+1)+200<=100000):Tb1 (n+1) (6*(L+1+1)+200) (N1 T):=by
 intro m x es hm h
 cases m with
 | zero=>exact absurd hm (Nat.not_succ_le_zero _)
 | succ m =>
 cases h with
 | @atom _ p hw =>
  have o:=Bool.and_eq_true_iff.mp hw.ok
  have l:=Nat.le_of_ble_eq_true (Bool.and_eq_true_iff.mp o.2).1
  refine ⟨p,?_,.word hw,Nat.le_trans l (Nat.le_add_left _ _),fun _=>⟨rfl,l⟩⟩
  have h1:=hw.at_
  have h2:=notF (Bool.and_eq_true_iff.mp o.1).1
  cases x with
  | proc l=>exact nomatch h2
  | _=>exact h1
 | @proc l es h hl =>
  obtain ⟨bs,b1,b2,b3,b4⟩:=tbs hT (Nat.le_of_succ_le_succ hm) h
  have hj:(procB bs).length<=6*(L+1+1):=by
   unfold procB
   have hb:∀ b∈([[123]]++bs)++[[125]],b.length<=L+1:=fun b m=>(List.mem_append.mp m).elim (fun m=>(List.mem_cons.mp m).elim (fun z=>z▸Nat.succ_le_succ (Nat.zero_le _)) fun m=>Nat.le_succ_of_le (b3 b m)) fun m=>List.mem_singleton.mp m▸Nat.succ_le_succ (Nat.zero_le _)
   refine Nat.le_trans (join_len hb) (Nat.mul_le_mul_right _ ?_)
   rw [List.length_append,List.length_append,b2,List.length_singleton,List.length_singleton,Nat.add_comm 1]
   exact Nat.add_le_add_right (Nat.add_le_add_right hl 1) 1
  have hj2:=Nat.le_trans hj (Nat.le_add_right _ 200)
  refine ⟨procB bs,?_,(JL.cons .op (b4 _ _ (.one .cl))).join,hj2,fun z=>nomatch z⟩
  show Option.casesOn (motive:=fun _=>Option Bs) (mapO (tokB m) l) none (fun bs=>cond (Nat.ble l.length 100&&Nat.ble (procB bs).length 100000) (some (procB bs)) none)=_
  rw [b1]
  dsimp only
  rw [Nat.ble_eq_true_of_le (Nat.le_trans hl (by decide)),Nat.ble_eq_true_of_le (Nat.le_trans hj2 hL)];rfl
theorem tb_e:∀ e:Nat,e < 4->Tb1 (e+1) (e.rec 212 fun e n=>6*(n+1+1)+200) (Ntr e):=fun e he=>by
 have h0:Tb1 0 0 fun x es=>False:=fun m x es _ h=>h.elim
 have h1:=tb_step h0 (by decide)
 have h2:=tb_step h1 (by decide)
 have h3:=tb_step h2 (by decide)
 have h4:=tb_step h3 (by decide)
 match e,he with
 | 0,_=>exact h1
 | 1,_=>exact h2
 | 2,_=>exact h3
 | 3,_=>exact h4
end Mine.C
namespace Mine.C
structure RowOk (w:Int) (row:Bs) (es:List Ev):Prop where
 jn:Jn 50 row es
 le:(row.length:Int)<=w\/es.length=1
 l3:row.length<=300
inductive Rws (w:Int):List Bs->List Ev->Prop
 | nil:Rws w [] []
 | cons {row:Bs} {rows:List Bs} {es fs:List Ev}:RowOk w row es->Rws w rows fs->Rws w (row::rows) (es++fs)
theorem Rws.snoc {w:Int} {rows:List Bs} {es:List Ev} (h:Rws w rows es) {row:Bs} {fs:List Ev} (k:RowOk w row fs):Rws w (rows++[row]) (es++fs):=by
 induction h with
 | nil=>have k:=Rws.cons k .nil;rw [List.append_nil] at k;exact k
 | cons h _ ih=>rw [List.append_assoc];exact .cons h ih
theorem Rws.len {w:Int} {rows:List Bs} {es:List Ev} (h:Rws w rows es):rows.length<=es.length:=by
 induction h with
 | nil=>exact Nat.le_refl 0
 | cons h _ ih=>rw [List.length_cons,List.length_append,Nat.add_comm];exact Nat.add_le_add h.jn.pos ih
inductive Lay (w:Int):PS->List Ev->Prop
 | none {rows:List Bs} {es:List Ev}:Rws w rows es->Lay w ⟨rows,[]⟩ es
 | held {rows:List Bs} {c:UInt8} {r:Bs} {es fs:List Ev}:Rws w rows es->RowOk w (c::r) fs->Lay w ⟨rows,c::r⟩ (es++fs)
theorem Lay.some {w:Int} {rows:List Bs} {held:Bs} {es fs:List Ev} (h:Rws w rows es) (k:RowOk w held fs):Lay w ⟨rows,held⟩ (es++fs):=by
 cases held with
 | nil=>exact absurd rfl k.jn.ne
 | cons c r=>exact .held h k
theorem Lay.fin {w:Int} {p:PS} {es:List Ev} (h:Lay w p es):Rws w p.fin.rows es/\p.fin.held=[]:=by
 cases h with
 | none h=>exact ⟨h,rfl⟩
 | held h k=>exact ⟨h.snoc k,rfl⟩
theorem Lay.okB {w:Int} {p:PS} {es:List Ev} {tok:Bs} {ind:Int} (h:Lay w p es) (hl:es.length<=300) (ht:tok.length<=100000) (hi:0<=ind/\ind<=40):C.okB p tok ind=true:=by
 have:p.rows.length<=9000/\p.held.length<=200000:=by
  cases h with
  | none h=>exact ⟨Nat.le_trans (Nat.le_trans h.len hl) (by decide),Nat.zero_le _⟩
  | held h k =>
   rw [List.length_append] at hl
   exact ⟨Nat.le_trans (Nat.le_trans h.len (Nat.le_trans (Nat.le_add_right _ _) hl)) (by decide),Nat.le_trans k.l3 (by decide)⟩
 unfold C.okB
 rw [Nat.ble_eq_true_of_le this.1,Nat.ble_eq_true_of_le this.2,Nat.ble_eq_true_of_le ht,decide_eq_true (show 0<=ind/\ind<=1000 from ⟨hi.1,Int.le_trans hi.2 (by decide)⟩)]
 rfl
theorem new_row {w ind:Int} {tok:Bs} {fs:List Ev} (hj:Jn 90 tok fs) (hw:w<=300) (hi:0<=ind/\ind<=40) (hs:ind+tok.length<=w\/(fs.length=1/\tok.length<=200)):RowOk w (List.replicate ind.toNat 32++tok) fs:=by
 have e:(List.replicate ind.toNat (32:UInt8)++tok).length=ind.toNat+tok.length:=by rw [List.length_append,List.length_replicate]
 exact ⟨hj.row (by omega),hs.imp (fun h=>by rw [e];omega) (fun h=>h.1),by rw [e];omega⟩
theorem Lay.put {w ind:Int} {p:PS} {es fs:List Ev} {tok:Bs} (h:Lay w p es) (hw:w<=300) (hj:Jn 90 tok fs) (hi:0<=ind/\ind<=40) (hs:ind+tok.length<=w\/(fs.length=1/\tok.length<=200)):Lay w (p.put w tok ind) (es++fs):=by
 have k:=new_row hj hw hi hs
 cases h with
 | none h=>exact .some h k
 | @held rows c r es gs h g =>
  show Lay w ((cond (decide (((c::r).length:Int)+1+tok.length > w)) ⟨rows++[c::r],[]⟩ ⟨rows,c::r⟩ : PS).add tok ind) _
  cases hd:decide (((c::r).length:Int)+1+tok.length > w) with
  | true=>exact .some (h.snoc g) k
  | false =>
   have hd:=of_decide_eq_false hd
   have e:((c::r)++32::tok).length=(c::r).length+(tok.length+1):=List.length_append
   have j:RowOk w ((c::r)++32::tok) (gs++fs):=⟨g.jn.cat hj,.inl (by rw [e];omega),by rw [e];omega⟩
   rw [List.append_assoc]
   have q:=Lay.some h j
   rw [<- List.append_assoc] at q
   rw [<- List.append_assoc]
   show Lay w ⟨rows,(c::r)++[32]++tok⟩ _
   rw [List.append_assoc (c::r)]
   exact q
theorem Lay.alone {w ind:Int} {p:PS} {es:List Ev} {e:Ev} {tok:Bs} (h:Lay w p es) (hw:w<=300) (hj:Jn 90 tok [e]) (hi:0<=ind/\ind<=40) (hl:tok.length<=200):Lay w (p.alone tok ind) (es++[e]):=by
 have f:=h.fin
 unfold PS.alone
 rw [f.2]
 exact .none (f.1.snoc (new_row hj hw hi (.inr ⟨rfl,hl⟩)))
def Pr1 (w:Int) (D:Nat) (T:Nd->List Ev->Prop):Prop:=∀ x es,T x es->∀ (N:Nat) (ind dp:Int) p es0,D<=N->(D:Int) < dp->0<=ind->ind+2*D<=40->Lay w p es0->es0.length+es.length<=300->∃ p',nodeF (prettyF N w) w ind dp x p=some p'/\Lay w p' (es0++es)
theorem pr_l {w:Int} {D N:Nat} {T:Nd->List Ev->Prop} (hT:Pr1 w D T) {ind dp:Int} (hN:D<=N) (hd:(D:Int) < dp) (h0:0<=ind) (hi:ind+2*D<=40) {l:List Nd} {es:List Ev} (h:NL T l es):∀ {p:PS} {es0:List Ev},Lay w p es0->es0.length+es.length<=300->∃ p',foldO (nodeF (prettyF N w) w ind dp) l p=some p'/\Lay w p' (es0++es):=by
 induction h with
 | nil=>exact fun {p es0} h hl=>⟨p,rfl,(List.append_nil es0).symm▸h⟩
 | @cons x l es fs h1 _ ih =>
  intro p es0 hp hl
  rw [List.length_append] at hl
  obtain ⟨p1,a1,a2⟩:=hT x es h1 N ind dp p es0 hN hd h0 hi hp (Nat.le_trans (Nat.add_le_add_left (Nat.le_add_right _ _) _) hl)
  obtain ⟨p2,b1,b2⟩:=ih a2 (by rw [List.length_append,Nat.add_assoc];exact hl)
  refine ⟨p2,?_,List.append_assoc es0 es fs▸b2⟩
  show Option.casesOn (motive:=fun _=>Option PS) (nodeF (prettyF N w) w ind dp x p) none (foldO (nodeF (prettyF N w) w ind dp) l)=_
  rw [a1];exact b1
theorem pr_step {w:Int} {D n L:Nat} {T:Nd->List Ev->Prop} (hw:w<=300) (hT:Pr1 w D T) (hb:Tb1 n L (N1 T)) (hn:n<=6) (hL:L<=100000):Pr1 w (D+1) (N1 T):=by
 intro x es h N ind dp p es0 hN hd h0 hi hp hl
 obtain ⟨b,b1,b2,b3,b4⟩:=hb 6 x es hn h
 have hi':0<=ind/\ind<=40:=⟨h0,by omega⟩
 have ok:=hp.okB (tok:=b) (ind:=ind) (Nat.le_trans (Nat.le_add_right _ _) hl) (Nat.le_trans b3 hL) hi'
 unfold nodeF
 rw [b1]
 dsimp only
 rw [ok]
 cases hc:(!isProcN x||(decide (dp<=0)||decide (ind+b.length<=w))) with
 | true =>
  refine ⟨p.put w b ind,rfl,hp.put hw b2 hi' ?_⟩
  rcases Bool.or_eq_true_iff.mp hc with q | q
  ·exact .inr (b4 (notF q))
  ·rcases Bool.or_eq_true_iff.mp q with q | q
   ·exact absurd (of_decide_eq_true q) (by omega)
   ·exact .inl (of_decide_eq_true q)
 | false =>
  cases h with
  | atom hw =>
   have q:=(Bool.and_eq_true_iff.mp (Bool.and_eq_true_iff.mp hw.ok).1).1
   rw [q] at hc
   exact nomatch hc
  | @proc l es h hl4 =>
  cases N with
  | zero=>exact absurd hN (Nat.not_succ_le_zero _)
  | succ N =>
  rw [List.length_cons,List.length_append,List.length_singleton] at hl
  have p1:=hp.alone hw .op hi' (by decide)
  obtain ⟨p2,a1,a2⟩:=pr_l hT (Nat.le_of_succ_le_succ hN) (dp:=dp - 1) (ind:=ind+2) (by omega) (by omega) (by omega) h p1 (by rw [List.length_append,List.length_singleton];omega)
  have l2:(es0++[Ev.op]++es).length<=300:=by rw [List.length_append,List.length_append,List.length_singleton];omega
  refine ⟨p2.alone [125] ind,?_,?_⟩
  ·show cond (Nat.ble l.length 1000) (Option.casesOn (motive:=fun _=>Option PS) (foldO (nodeF (prettyF N w) w (ind+2) (dp - 1)) l (p.alone [123] ind)) none fun p'=>cond (C.okB p' [125] ind) (some (p'.alone [125] ind)) none) none=_
   rw [Nat.ble_eq_true_of_le (Nat.le_trans hl4 (by decide)),a1]
   dsimp only
   rw [a2.okB (tok:=[125]) (ind:=ind) l2 (by decide) hi']
   rfl
  ·have q:=a2.alone hw .cl hi' (tok:=[125]) (by decide)
   rw [List.append_assoc,List.append_assoc] at q
   exact q
theorem pr_e {w:Int} (hw:w<=300):∀ e:Nat,e < 4->Pr1 w (e+1) (Ntr e):=fun e he=>by
 have t:=tb_e
 have h0:Pr1 w 0 fun x es=>False:=fun x es h=>h.elim
 have h1:=pr_step hw h0 (t 0 (by decide)) (by decide) (by decide)
 have h2:=pr_step hw h1 (t 1 (by decide)) (by decide) (by decide)
 have h3:=pr_step hw h2 (t 2 (by decide)) (by decide) (by decide)
 have h4:=pr_step hw h3 (t 3 (by decide)) (by decide) (by decide)
 match e,he with
 | 0,_=>exact h1
 | 1,_=>exact h2
 | 2,_=>exact h3
 | 3,_=>exact h4
end Mine.C
namespace Mine.C
noncomputable def pageL (rows:List Bs):Bs:=joinB [] (rows.map fun r=>r++[10])
theorem pageL_cons {r:Bs} {rows:List Bs}:pageL (r::rows)=r++(10::pageL rows):=by
 cases rows with
 | nil=>rfl
 | cons c t =>
  show r++[10]++[]++pageL (c::t)=_
  rw [List.append_nil,List.append_assoc];rfl
theorem splitB_app {c:UInt8} {s r:Bs} (h:∀ x∈r,x≠c):splitB c (r++c::s)=r::splitB c s:=by
 induction r with
 | nil=>exact if_pos rfl
 | cons x r ih =>
  refine (if_neg (h x (.head _))).trans ?_
  rw [show splitB c (List.append r (c::s))=r::splitB c s from ih fun y m=>h y (.tail _ m)]
theorem not10_ok {r:Bs} (h:not10 r=true):∀ x∈r,x≠10:=fun x m z=>by
 have:=List.all_eq_true.mp h x m
 rw [z] at this
 exact nomatch this
structure RowsOk (w:Int) (rows:List Bs) (es:List Ev):Prop where
 hd:Sk (pageL rows)
 sc:∀ t,Near 3 t (pageL rows)->∃ s',Sc es t s'/\Near 3 s' []
 ld:∃ k,k<=100*es.length/\∀ n a,rdF 900 (n+k) a (pageL rows)=rdF 900 n (a++es.map evIt) []
 sp:splitB 10 (pageL rows)=rows++[[]]
 len:(pageL rows).length<=rows.length*301
 al:∀ r∈rows,r.length<=300/\((r.length:Int)<=w\/∃ it,RdOk r [it])
 nl:es≠[]->(10:UInt8)∈pageL rows
theorem row_alone {w:Int} {row:Bs} {es:List Ev} (h:RowOk w row es):(row.length:Int)<=w\/∃ it,RdOk row [it]:=by
 rcases h.le with q | q
 ·exact .inl q
 ·obtain ⟨k,l,e⟩:=h.jn.ld
  have e:=e [] 1 [] (.inl rfl)
  rw [List.append_nil,List.nil_append] at e
  rw [q] at l
  match es,q with
  | [v],_=>exact .inr ⟨evIt v,900,1+k,by decide,by omega,e⟩
theorem rows_ok {w:Int} {rows:List Bs} {es:List Ev} (h:Rws w rows es):RowsOk w rows es:=by
 induction h with
 | nil=>exact ⟨rfl,fun t hn=>⟨t,rfl,hn⟩,⟨0,Nat.zero_le _,fun n a=>(List.append_nil a).symm▸rfl⟩,rfl,Nat.zero_le _,(fun r m=>nomatch m),fun z=>absurd rfl z⟩
 | @cons row rows es fs h _ ih =>
  have e:=pageL_cons (r:=row) (rows:=rows)
  refine ⟨by rw [e];exact h.jn.hd _,fun t hn=>?_,?_,?_,?_,fun r m=>?_,fun _=>by rw [e];exact List.mem_append_right _ (.head _)⟩
  ·rw [e] at hn
   obtain ⟨s1,k1,k2⟩:=h.jn.sc [10] (pageL rows) t gap10 ih.hd (hn.le (by decide))
   obtain ⟨s2,k3,k4⟩:=ih.sc s1 k2
   exact ⟨s2,Sc.app k3 k1,k4⟩
  ·obtain ⟨k1,l1,e1⟩:=h.jn.ld
   obtain ⟨k2,l2,e2⟩:=ih.ld
   have hp:=h.jn.pos
   refine ⟨k2+1+k1,by rw [List.length_append];omega,fun n a=>?_⟩
   rw [e,<- Nat.add_assoc,<- Nat.add_assoc]
   refine (e1 (10::pageL rows) _ a (.inr ⟨_,.inr rfl⟩)).trans ?_
   refine (show rdF 900 (n+k2+1) (a++es.map evIt) (10::pageL rows)=rdF 900 (n+k2) (a++es.map evIt) (pageL rows) from rfl).trans ?_
   rw [e2,List.append_assoc,List.map_append]
  ·rw [e,splitB_app (not10_ok h.jn.nl),ih.sp];rfl
  ·rw [e,List.length_append,List.length_cons,List.length_cons,Nat.add_mul,Nat.add_comm]
   have:=h.l3
   have:=ih.len
   omega
  ·rcases List.mem_cons.mp m with q | q
   ·subst q;exact ⟨h.l3,row_alone h⟩
   ·exact ih.al r q
theorem near_end {t:Bs} {j:Nat} (h:Near j t []) (hj:1+j<=900):firstF 900 t=some none:=firstF_le hj (h 1 _ first_nil)
theorem page_ok {w:Int} (hw:w<=300) (hw0:0<=w) {nds:List Nd} {es:List Ev} (h:NL (Ntr 3) nds es) (hl:es.length<=300) (hn:es≠[]):∃ pg,Pg w (es.map evIt) nds pg:=by
 obtain ⟨p,e,l⟩:=pr_l (pr_e hw 3 (by decide)) (N:=5) (ind:=0) (dp:=20) (by decide) (by decide) (by decide) (by decide) h (p:=⟨[],[]⟩) (es0:=[]) (.none .nil) (by rw [List.length_nil,Nat.zero_add];exact hl)
 have l:Lay w p es:=l
 have e:prettyF 6 w nds 0 20 ⟨[],[]⟩=some p:=e
 have f:=l.fin.1
 have r:=rows_ok f
 have hr:=Nat.le_trans f.len hl
 have h5:(pageL p.fin.rows).length<=1000000:=Nat.le_trans r.len (Nat.le_trans (Nat.mul_le_mul_right 301 hr) (by decide))
 have g:goodP p=true:=by
  have o:=l.okB (tok:=[]) (ind:=0) hl (by decide) (by decide)
  have o:=(Bool.and_eq_true_iff.mp o).1
  refine Bool.and_eq_true_iff.mpr ⟨o,Bool.and_eq_true_iff.mpr ⟨List.all_eq_true.mpr fun x m=>Nat.ble_eq_true_of_le (Nat.le_trans (r.al x m).1 (by decide)),Nat.ble_eq_true_of_le h5⟩⟩
 obtain ⟨s',k1,k2⟩:=r.sc (pageL p.fin.rows) (Near.refl 3 _)
 obtain ⟨k,kl,ke⟩:=r.ld
 refine ⟨pageOf p,?_,things_of h hl k1 (near_end k2 (by decide)),⟨900,1+k,by decide,by omega,ke 1 []⟩,r.nl hn,h5,fun x m=>?_,?_⟩
 ·unfold pageF
  rw [e]
  dsimp only
  rw [g];rfl
 ·have m:x∈splitB 10 (pageL p.fin.rows):=m
  rw [r.sp] at m
  rcases List.mem_append.mp m with m | m
  ·exact (r.al x m).imp (fun h=>Nat.le_trans h (by decide)) fun h=>h
  ·rw [List.mem_singleton.mp m];exact ⟨Nat.zero_le _,.inl hw0⟩
 ·show (splitB 10 (pageL p.fin.rows)).length<=1000
  rw [r.sp,List.length_append,List.length_singleton]
  exact Nat.le_trans (Nat.add_le_add_right hr 1) (by decide)
theorem plain:Plain where
 its w nd i h:=by
  obtain ⟨es,-,-,h,-⟩:=(tk_e 3 w nd i h).ex
  exact h
 data s nds its h:=by
  obtain ⟨es,-,-,h,-⟩:=(top_ok h).ex
  exact h
 page s nds its w h hn hl h20 h50:=by
  obtain ⟨es,a1,a2,-,a4⟩:=(top_ok h).ex
  subst a2
  rw [List.length_map] at hl
  obtain ⟨s',k1,k2⟩:=a4 [] s rfl (by rw [List.append_nil];exact Near.refl 60 s)
  exact ⟨things_of a1 hl k1 (near_end k2 (by decide)),page_ok (by omega) (by omega) a1 hl fun z=>hn (congrArg (List.map evIt) z)⟩
 fault s nds its k f h hl hk h0:=by
  obtain ⟨es,a1,a2,-,a4⟩:=(top_ok h).ex
  subst a2
  rw [List.length_map] at hl
  obtain ⟨s',k1,k2⟩:=a4 ([32]++f) (s++[32]++f) (head_sk (c:=32) (r:=f) rfl) (by rw [List.append_assoc];exact Near.refl 60 _)
  have k3:Near 61 s' f:=Near.trans (i:=60) (j:=1) k2 fun n o e=>e
  have t:=fault_tok k.toNat hk k3
  rw [Int.toNat_of_nonneg h0] at t
  refine ⟨900,1+nds.length,3+es.length,by decide,Nat.le_trans (Nat.add_le_add_left (Nat.le_trans (a1.len (ntr_pos 3)) hl) 1) (by decide),Nat.le_trans (Nat.add_le_add_left hl 3) (by decide),?_⟩
  rw [ths_l a1 k1]
  show Option.casesOn (motive:=fun _=>Option Rl) (tokF 900 3 [] s') none _=_
  rw [t]
end Mine.C
namespace Mine.C
noncomputable abbrev pw:Program:=PySem.Challenge.pw_pb0518_01
noncomputable def p0:Pos:={ line:=0,col:=0,endLine:=0,endCol:=0 }
noncomputable def o11:Obj:={ cls:=Value.type "tuple", data:=Data.seq #[] }
noncomputable def o12:Obj:={ cls:=Value.none,data:=Data.fields #[] }
noncomputable def o13:Obj:={ cls:=Value.type "code", data:=Data.fields #[Value.str (Str.ofString "<module>") 182,Value.str (Str.ofString "<module>") 183,Value.str (Str.ofString "/claim/cut.py") 184,Value.int 1 0,Value.int 0 0,Value.int 0 0,Value.int 0 0,Value.int 0 0,Value.ref 11,Value.bool false,Value.int 181 0,Value.ref 12,Value.none,Value.none,Value.none,Value.none,Value.int 185 0,Value.int 1 0,Value.str (Str.ofString "/claim/cut.py") 186] }
noncomputable def o14:Obj:={ cls:=Value.type "frame", slots:=#[some (Value.ref 13),some (Value.ref 3),some (Value.ref 3),none,some (Value.str (Str.ofString "__main__") 164),none,some (Value.ref 0)] }
noncomputable def t0 (P:Params):BT :=
 BT.node (boot_o_0 P) (BT.node (boot_o_1 P) (BT.node (boot_o_3 P) (BT.node (boot_o_7 P) BT.nil BT.nil) (BT.node o11 BT.nil BT.nil)) (BT.node (boot_o_5 P) (BT.node (boot_o_9 P) BT.nil BT.nil) (BT.node o13 BT.nil BT.nil)))
  (BT.node (boot_o_2 P) (BT.node (boot_o_4 P) (BT.node (boot_o_8 P) BT.nil BT.nil) (BT.node o12 BT.nil BT.nil)) (BT.node (boot_o_6 P) (BT.node (boot_o_10 P) BT.nil BT.nil) (BT.node o14 BT.nil BT.nil)))
noncomputable def s0T (w:World) (os:OsState):SharedT:=⟨t0 w.params,15,{},#[],{},187,os⟩
noncomputable def env0:Env:={ scope:=pw.main.scope,locals:=mainNs,globals:=mainNs,cells:=[],code := .ref 13,frame:=some 14 }
noncomputable def body0:List Stmt:=behindTheImports pw
noncomputable def code0:Code := .body body0 env0
noncomputable def B0:List Frame:=[topFrame p0]
theorem pre0 (w:World) (os:OsState):topGo treeTable pw w 11 (some (.ref 6)) 12 ⟨boot_heap w.params,#[],boot_drawn,boot_toks,os⟩ (topStub pw)=some ((s0T w os).abs,⟨denote treeTable code0,code0,p0,B0⟩):=by kernel_rfl
theorem block0 (s:Shared) (w:World):segRun treeTable pw w 11 (some (.ref 6)) 1 1 s (blockOf body0 env0 code0 p0 B0)=some (.next,s,code0,p0):=by kernel_rfl
theorem fin0 (s:Shared) (w:World) (p:Pos):topRun treeTable pw w 11 (some (.ref 6)) 2 s (restOf [] env0 code0 p B0)=some s:=by kernel_rfl
end Mine.C
namespace Mine.C
noncomputable def flK (k:Nat):List Nat:=([[21,36,61,68,75,82,89,96,103,110,117,124,131,138,145,152,159,166,173,180,187,194,201,216,237,258,279],[293,300,308,315,323,331,339,346,353,360,367,374,381,388,403,410,418,425,439,446,453,460,467,474,481,488,495,502,509,516,523,530,537,551,558,565,572,579,586,593,601,609,617],[632,640,645,650,655,669,676,683,690,704,710,725,746],[767,774,782,789,796,803,810,817,824,845,852,859,866,873,880,887,894,901,908,928,935,942,949,956,963,970,977,984,991,999,1006],[1018,1025,1033,1040,1047,1054,1061,1066,1073,1080,1087,1094,1099,1104,1111,1118,1125,1132,1139]] : List (List Nat)).getD k []
noncomputable def dvK (k:Nat):List (Nat×Nat):=([[(1,29),(23,209)],[(29,301),(31,316),(32,324),(33,332),(41,396),(67,594),(68,602),(69,610)],[(70,625),(80,705),(81,718)],[(102,921),(112,992)],[]] : List (List (Nat×Nat))).getD k []
noncomputable def clK (k:Nat):List Nat:=([[39,38,52,51,219,218,240,239,261,260,282,281],[428,427,620,619],[693,692,728,727],[1009,911,827,1008,910,826,775],[]] : List (List Nat)).getD k []
noncomputable def tuL:List Nat:=[633,1026,1027,1028]
noncomputable def newK (k:Nat):List Nat:=flK k++((flK k).map (fun a=>a - 1)++((dvK k).map (fun p=>p.2)++clK k))
noncomputable def oldK (k:Nat):List Nat:=k.rec [] fun j ih=>newK j++ih
noncomputable def fAL:List Nat:=flK 0++(flK 1++(flK 2++(flK 3++flK 4)))
noncomputable def fAd (k:Nat):Addr:=fAL.getD k 21
noncomputable def cAd (c:Nat):Addr:=[428,620,693,1009,728,219,240,261,282].getD c 428
noncomputable def kAL:List Nat:=1::3::((clK 0++(clK 1++(clK 2++(clK 3++clK 4))))++(tuL++oldK 5))
noncomputable def dvL:List (Nat×Nat):=dvK 0++(dvK 1++(dvK 2++(dvK 3++dvK 4)))
noncomputable def fiK (k:Nat):List (Fi×Nat):=(fis.zipIdx.drop (((List.range k).map fun j=>(flK j).length).foldr (·+·) 0)).take (flK k).length
noncomputable def kOf (t:BT):Frag:=kAL.filterMap fun a=>(t.get a).map fun o=>(a,o)
noncomputable def livO (o:Obj):Bool:=match o.data with
 | .freed=>false
 | _=>true
noncomputable def livT (t:BT) (a:Nat):Bool:=(t.get a).any livO
noncomputable def primD (v:Value):Option D:=match v with
 | .none=>some .none
 | .bool b=>some (.bool b)
 | .int i _=>some (.int i)
 | .bytes b _=>some (.bytes b.toList)
 | _=>none
noncomputable def sqO (o:Option Obj):Option (List D):=match o with
 | some ⟨_,_,.seq xs _,_⟩=>mapO primD xs.toList
 | _=>none
noncomputable def fdO (o:Option Obj):Option FuncData:=match o with
 | some ⟨_,_,.func fd,_⟩=>some fd
 | _=>none
noncomputable def fnO (o:Option Obj):=(fdO o).map fun fd=>(fd.qualname,fd.params,fd.body,fd.scope,fd.globals,fd.builtins,fd.closure,fd.code,fd.defaults)
noncomputable def dvV (k:Nat):Value:=(dvL.lookup k).casesOn .none fun a => .ref a
noncomputable def fnX (p:Fi×Nat):=some (p.1.qual,p.1.params,FuncBody.stmts p.1.body,p.1.scope,mainGlobals,builtinsNs,([] : List (Str×Addr)),Value.ref (fAd p.2 - 1),dvV p.2)
noncomputable def cdO (o:Option Obj):Option Str:=match o with
 | some ⟨_,_,.fields vs,_⟩=>(match vs.toList with | _ :: .str n _::_=>some n | _=>none)
 | _=>none
noncomputable def lkT (t:BT) (fl:List Nat) (dl:List (Nat×Nat)):=(fl.map (fun a=>fnO (t.get a)),fl.map (fun a=>cdO (t.get (a - 1))),dl.map fun p=>sqO (t.get p.2))
noncomputable def lkE (l:List (Fi×Nat)) (dl:List (Nat×Nat)):=(l.map fnX,l.map (fun p=>some p.1.qual),dl.map fun p=>some (dfl p.1))
end Mine.C
namespace Mine.C
noncomputable def e (P:Params) (n:String) (t:Tok) (v:Value):DictEntry:=⟨PyData.keyHash P (Str.ofString n),.str (Str.ofString n) t,v⟩
noncomputable def entP (P:Params):List DictEntry:=[e P "__doc__" 166 .none,e P "__package__" 167 .none,e P "__loader__" 168 (.builtin "__main__.__loader__#opaque"),e P "__spec__" 169 .none,e P "__annotations__" 170 (.ref 6),e P "__builtins__" 171 (.ref 4),e P "__file__" 173 (.str "/claim/cut.py" 172),e P "__cached__" 174 .none,e P "_wall" 193 (.ref 21),e P "GRAIN" 197 (.int 1000000 196),e P "LEAST_INT" 202 (.int (-2147483648) 201),e P "MOST_INT" 208 (.int 2147483647 207),e P "WHITE" 210 (.bytes #[0,9,10,12,13,32] 209),e P "DELIMITERS" 212 (.bytes #[40,41,60,62,91,93,123,125,47,37] 211),e P "LINE_FEED" 214 (.int 10 213),e P "CARRIAGE_RETURN" 216 (.int 13 215),e P "PostError" 245 (.ref 39),e P "PsError" 261 (.ref 52),e P "is_white" 268 (.ref 61),e P "is_delimiter" 275 (.ref 68),e P "is_line_end" 282 (.ref 75),e P "is_octal" 289 (.ref 82),e P "hex_value" 296 (.ref 89),e P "digit_value" 303 (.ref 96),e P "decimal_octets" 312 (.ref 103),e P "INTEGER" 316 (.str "integer" 315),e P "REAL" 318 (.str "real" 317),e P "MOST_REAL" 323 (.int 1000000000000000000000 322),e P "PLACES" 325 (.int 6 324),e P "WORD_SIZE" 329 (.int 4294967296 328),e P "MOST_FIGURES" 331 (.int 6 330),e P "divided" 342 (.ref 110),e P "is_integer_size" 349 (.ref 117),e P "checked_real" 356 (.ref 124),e P "real_of" 363 (.ref 131),e P "whole_number" 370 (.ref 138),e P "figures_value" 381 (.ref 145),e P "read_radix" 391 (.ref 152),e P "signed_word" 399 (.ref 159),e P "read_exponent" 409 (.ref 166),e P "number_scaled" 417 (.ref 173),e P "split_at" 427 (.ref 180),e P "read_real" 442 (.ref 187),e P "read_number" 454 (.ref 194),e P "number_octets" 464 (.ref 201),e P "READ_ONLY" 468 (.int 2 467),e P "UNLIMITED" 470 (.int 3 469),e P "Thing" 505 (.ref 219),e P "Text" 540 (.ref 240),e P "Row" 575 (.ref 261),e P "Span" 608 (.ref 282),e P "integer" 615 (.ref 293),e P "real" 622 (.ref 300),e P "name" 630 (.ref 308),e P "null" 636 (.ref 315),e P "of_string" 645 (.ref 323),e P "of_row" 654 (.ref 331),e P "of_packed" 662 (.ref 339),e P "is_number" 669 (.ref 346),e P "is_in_array" 676 (.ref 353),e P "is_proc" 683 (.ref 360),e P "body_of" 690 (.ref 367),e P "is_local" 698 (.ref 374),e P "octets_of_span" 705 (.ref 381),e P "things_of_span" 712 (.ref 388),e P "SCAN_END" 716 (.int 4 715),e P "SCAN_FORM_FEED" 718 (.int 12 717),e P "SCAN_MOST_NAME" 720 (.int 127 719),e P "SCAN_BASE" 722 (.int 85 721),e P "SCAN_FIRST" 724 (.int 33 723),e P "SCAN_OPEN" 726 (.int 40 725),e P "SCAN_CLOSE" 728 (.int 41 727),e P "SCAN_SLASH" 730 (.int 47 729),e P "SCAN_LESS" 732 (.int 60 731),e P "SCAN_MORE" 734 (.int 62 733),e P "SCAN_BACKSLASH" 736 (.int 92 735),e P "SCAN_ROW_OPEN" 738 (.int 91 737),e P "SCAN_ROW_CLOSE" 740 (.int 93 739),e P "SCAN_PROC_OPEN" 742 (.int 123 741),e P "SCAN_PROC_CLOSE" 744 (.int 125 743),e P "SCAN_TILDE" 746 (.int 126 745),e P "SCAN_NOUGHTS" 748 (.int 122 747),e P "SCAN_PERCENT" 750 (.int 37 749),e P "OctetSource" 804 (.ref 428),e P "is_blank" 811 (.ref 439),e P "scan_skip_feed" 819 (.ref 446),e P "scan_line" 827 (.ref 453),e P "scan_first" 835 (.ref 460),e P "scan_word" 844 (.ref 467),e P "scan_sure" 852 (.ref 474),e P "scan_octal" 862 (.ref 481),e P "scan_escape" 872 (.ref 488),e P "scan_string" 882 (.ref 495),e P "scan_hex" 893 (.ref 502),e P "scan_group" 902 (.ref 509),e P "scan_base85" 912 (.ref 516),e P "scan_name" 920 (.ref 523),e P "scan_regular" 928 (.ref 530),e P "scan_at_once" 937 (.ref 537),e P "Scanner" 1056 (.ref 620),e P "scan_things" 1066 (.ref 632),e P "PRINT_DEPTH" 1070 (.int 20 1069),e P "PRINT_WIDTH" 1072 (.int 72 1071),e P "PRINT_SIGNS" 1077 (.ref 633),e P "print_escape" 1085 (.ref 640),e P "print_string" 1091 (.ref 645),e P "source_token" 1097 (.ref 650),e P "pretty_token" 1103 (.ref 655),e P "PrettyRows" 1159 (.ref 693),e P "pretty_things" 1171 (.ref 704),e P "pretty" 1177 (.ref 710),e P "ITEM_COST" 1181 (.int 8 1180),e P "ENTRY_COST" 1183 (.int 16 1182),e P "MOST_COST" 1187 (.int 16777216 1186),e P "Limits" 1255 (.ref 728),e P "VmSave" 1290 (.ref 749),e P "BodyMaker" 1392 (.ref 827),e P "BodyChanger" 1506 (.ref 911),e P "Memory" 1636 (.ref 1009)]
noncomputable def nameP (P:Params) (k:Nat):DictEntry:=[e P "__name__" 165 (.str "postcore.objects" 465),e P "__name__" 165 (.str "postcore.scanner" 713),e P "__name__" 165 (.str "postcore.memory" 1178),e P "__name__" 165 (.str "postcore.memory" 1178)].getD (k - 1) (e P "" 0 .none)
noncomputable def mK (k:Nat):Nat:=[0,52,101,117,120].getD k 0
noncomputable def q3 (P:Params) (k:Nat):Obj:={ cls := .type "dict", data := .dict (nameP P k::(entP P).take (mK k - 1)).toArray (mK k) }
noncomputable def q12 (k:Nat):Obj:={ cls := .none,data := .fields (([(1,20),(12,27),(16,48),(18,60),(20,67),(22,74),(24,81),(26,88),(34,95),(42,102),(59,109),(63,116),(65,123),(69,130),(71,137),(75,144),(85,151),(95,158),(98,165),(106,172),(116,179),(121,186),(132,193),(142,200),(153,207),(160,229),(167,250),(174,271),(180,292),(182,299),(184,307),(186,314),(188,322),(190,330),(192,338),(194,345),(196,352),(198,359),(200,366),(204,373),(207,380),(209,387),(230,394),(248,438),(250,445),(254,452),(260,459),(269,466),(282,473),(287,480),(298,487),(307,494),(324,501),(340,508),(347,515),(366,522),(370,529),(375,536),(380,543),(462,631),(468,639),(475,644),(477,649),(485,654),(491,661),(511,703),(520,709),(529,716),(546,738),(553,759),(608,837),(652,919)].take ([0,28,59,69,72].getD k 0)).flatMap fun p=>[.int p.1 0,.int 0 0,.ref p.2]).toArray }
noncomputable def q2 (P:Params):Obj:={ cls := .none,data := .dict #[e P "type.__subclasses__.Exception.0" 242 (.int 39 0),e P "type.__subclasses__.Exception.n" 243 (.int 1 0)] 2 }
noncomputable def q38 (P:Params):Obj:={ cls := .type "dict", data := .dict #[e P "__module__" 224 (.str "postcore.base" 194),e P "__firstlineno__" 228 (.int 12 227),e P "__init__" 236 (.ref 36),e P "__static_attributes__" 238 (.ref 37),e P "__weakref__" 240 (.ref 40),e P "__doc__" 241 .none] 3 }
noncomputable def q39 (P:Params):Obj:={ cls := .type "type", data := .cls { name := "PostError", bases:=[.type "Exception"],mro:=[.ref 39,.type "Exception", .type "BaseException", .type "object"],ns:=38,qualname := "PostError", subclasses:=[.ref 52] },slots:=#[some (.ref 22),none,some (.str "PostError" 217),some (.str "PostError" 225),some (.builtin "Exception.__new__"),some (.bool true)] }
noncomputable def q51 (P:Params):Obj:={ cls := .type "dict", data := .dict #[e P "__module__" 253 (.str "postcore.base" 194),e P "__firstlineno__" 257 (.int 16 256),e P "__static_attributes__" 258 (.ref 50),e P "__doc__" 259 .none] 2 }
noncomputable def q52 (P:Params):Obj:={ cls := .type "type", data := .cls { name := "PsError", bases:=[.ref 39],mro:=[.ref 52,.ref 39,.type "Exception", .type "BaseException", .type "object"],ns:=51,qualname := "PsError" },slots:=#[some (.ref 43),none,some (.str "PsError" 246),some (.str "PsError" 254),some (.builtin "Exception.__new__"),some (.bool true)] }
noncomputable def q218 (P:Params):Obj:={ cls := .type "dict", data := .dict #[e P "__module__" 478 (.str "postcore.objects" 465),e P "__firstlineno__" 482 (.int 153 481),e P "__init__" 493 (.ref 216),e P "__static_attributes__" 498 (.ref 217),e P "__dict__" 500 (.ref 220),e P "__weakref__" 502 (.ref 221),e P "__doc__" 503 .none] 4 }
noncomputable def q219 (P:Params):Obj:={ cls := .type "type", data := .cls { name := "Thing", bases:=[.type "object"],mro:=[.ref 219,.type "object"],ns:=218,qualname := "Thing" },slots:=#[none,none,some (.str "Thing" 471),some (.str "Thing" 479),some (.builtin "object.__new__"),some (.bool true)] }
noncomputable def q239 (P:Params):Obj:={ cls := .type "dict", data := .dict #[e P "__module__" 513 (.str "postcore.objects" 465),e P "__firstlineno__" 517 (.int 160 516),e P "__init__" 528 (.ref 237),e P "__static_attributes__" 533 (.ref 238),e P "__dict__" 535 (.ref 241),e P "__weakref__" 537 (.ref 242),e P "__doc__" 538 .none] 4 }
noncomputable def q240 (P:Params):Obj:={ cls := .type "type", data := .cls { name := "Text", bases:=[.type "object"],mro:=[.ref 240,.type "object"],ns:=239,qualname := "Text" },slots:=#[none,none,some (.str "Text" 506),some (.str "Text" 514),some (.builtin "object.__new__"),some (.bool true)] }
noncomputable def q260 (P:Params):Obj:={ cls := .type "dict", data := .dict #[e P "__module__" 548 (.str "postcore.objects" 465),e P "__firstlineno__" 552 (.int 167 551),e P "__init__" 563 (.ref 258),e P "__static_attributes__" 568 (.ref 259),e P "__dict__" 570 (.ref 262),e P "__weakref__" 572 (.ref 263),e P "__doc__" 573 .none] 4 }
noncomputable def q261 (P:Params):Obj:={ cls := .type "type", data := .cls { name := "Row", bases:=[.type "object"],mro:=[.ref 261,.type "object"],ns:=260,qualname := "Row" },slots:=#[none,none,some (.str "Row" 541),some (.str "Row" 549),some (.builtin "object.__new__"),some (.bool true)] }
noncomputable def q281 (P:Params):Obj:={ cls := .type "dict", data := .dict #[e P "__module__" 583 (.str "postcore.objects" 465),e P "__firstlineno__" 587 (.int 174 586),e P "__init__" 597 (.ref 279),e P "__static_attributes__" 601 (.ref 280),e P "__dict__" 603 (.ref 283),e P "__weakref__" 605 (.ref 284),e P "__doc__" 606 .none] 4 }
noncomputable def q282 (P:Params):Obj:={ cls := .type "type", data := .cls { name := "Span", bases:=[.type "object"],mro:=[.ref 282,.type "object"],ns:=281,qualname := "Span" },slots:=#[none,none,some (.str "Span" 576),some (.str "Span" 584),some (.builtin "object.__new__"),some (.bool true)] }
noncomputable def q427 (P:Params):Obj:={ cls := .type "dict", data := .dict #[e P "__module__" 758 (.str "postcore.scanner" 713),e P "__firstlineno__" 762 (.int 230 761),e P "__init__" 772 (.ref 403),e P "place" 780 (.ref 411),e P "next" 787 (.ref 418),e P "back" 794 (.ref 425),e P "__static_attributes__" 797 (.ref 426),e P "__dict__" 799 (.ref 429),e P "__weakref__" 801 (.ref 430),e P "__doc__" 802 .none] 4 }
noncomputable def q428 (P:Params):Obj:={ cls := .type "type", data := .cls { name := "OctetSource", bases:=[.type "object"],mro:=[.ref 428,.type "object"],ns:=427,qualname := "OctetSource" },slots:=#[none,none,some (.str "OctetSource" 751),some (.str "OctetSource" 759),some (.builtin "object.__new__"),some (.bool true)] }
noncomputable def q619 (P:Params):Obj:={ cls := .type "dict", data := .dict #[e P "__module__" 945 (.str "postcore.scanner" 713),e P "__firstlineno__" 949 (.int 380 948),e P "__init__" 957 (.ref 551),e P "string" 965 (.ref 558),e P "procedure" 975 (.ref 565),e P "slashed" 985 (.ref 572),e P "pointed" 994 (.ref 579),e P "closed" 1002 (.ref 586),e P "plain" 1012 (.ref 593),e P "token" 1025 (.ref 601),e P "things" 1037 (.ref 609),e P "token_in" 1047 (.ref 617),e P "__static_attributes__" 1049 (.ref 618),e P "__dict__" 1051 (.ref 621),e P "__weakref__" 1053 (.ref 622),e P "__doc__" 1054 .none] 4 }
noncomputable def q620 (P:Params):Obj:={ cls := .type "type", data := .cls { name := "Scanner", bases:=[.type "object"],mro:=[.ref 620,.type "object"],ns:=619,qualname := "Scanner" },slots:=#[none,none,some (.str "Scanner" 938),some (.str "Scanner" 946),some (.builtin "object.__new__"),some (.bool true)] }
noncomputable def q633 (P:Params):Obj:={ cls := .type "tuple", data := .seq #[.bytes #[91] 1073,.bytes #[93] 1074,.bytes #[60,60] 1075,.bytes #[62,62] 1076] }
noncomputable def q692 (P:Params):Obj:={ cls := .type "dict", data := .dict #[e P "__module__" 1111 (.str "postcore.printing" 1067),e P "__firstlineno__" 1115 (.int 491 1114),e P "__init__" 1123 (.ref 669),e P "end" 1130 (.ref 676),e P "put" 1139 (.ref 683),e P "alone" 1148 (.ref 690),e P "__static_attributes__" 1152 (.ref 691),e P "__dict__" 1154 (.ref 694),e P "__weakref__" 1156 (.ref 695),e P "__doc__" 1157 .none] 4 }
noncomputable def q693 (P:Params):Obj:={ cls := .type "type", data := .cls { name := "PrettyRows", bases:=[.type "object"],mro:=[.ref 693,.type "object"],ns:=692,qualname := "PrettyRows" },slots:=#[none,none,some (.str "PrettyRows" 1104),some (.str "PrettyRows" 1112),some (.builtin "object.__new__"),some (.bool true)] }
noncomputable def q727 (P:Params):Obj:={ cls := .type "dict", data := .dict #[e P "__module__" 1195 (.str "postcore.memory" 1178),e P "__firstlineno__" 1199 (.int 529 1198),e P "__init__" 1233 (.ref 725),e P "__static_attributes__" 1248 (.ref 726),e P "__dict__" 1250 (.ref 729),e P "__weakref__" 1252 (.ref 730),e P "__doc__" 1253 .none] 4 }
noncomputable def q728 (P:Params):Obj:={ cls := .type "type", data := .cls { name := "Limits", bases:=[.type "object"],mro:=[.ref 728,.type "object"],ns:=727,qualname := "Limits" },slots:=#[none,none,some (.str "Limits" 1188),some (.str "Limits" 1196),some (.builtin "object.__new__"),some (.bool true)] }
noncomputable def q775 (P:Params):Obj:={ cls := .type "property", data := .fields #[.ref 774,.none,.none,.none,.str "level" 1318,.bool false] }
noncomputable def q826 (P:Params):Obj:={ cls := .type "dict", data := .dict #[e P "__module__" 1298 (.str "postcore.memory" 1178),e P "__firstlineno__" 1302 (.int 553 1301),e P "__init__" 1310 (.ref 767),e P "level" 1318 (.ref 775),e P "body_level" 1325 (.ref 782),e P "take_room" 1333 (.ref 789),e P "check_room" 1341 (.ref 796),e P "make_text" 1349 (.ref 803),e P "text_of_octets" 1357 (.ref 810),e P "make_row" 1366 (.ref 817),e P "make_dict" 1374 (.ref 824),e P "__static_attributes__" 1385 (.ref 825),e P "__dict__" 1387 (.ref 828),e P "__weakref__" 1389 (.ref 829),e P "__doc__" 1390 .none] 4 }
noncomputable def q827 (P:Params):Obj:={ cls := .type "type", data := .cls { name := "BodyMaker", bases:=[.type "object"],mro:=[.ref 827,.type "object"],ns:=826,qualname := "BodyMaker", subclasses:=[.ref 911] },slots:=#[none,none,some (.str "BodyMaker" 1291),some (.str "BodyMaker" 1299),some (.builtin "object.__new__"),some (.bool true)] }
noncomputable def q910 (P:Params):Obj:={ cls := .type "dict", data := .dict #[e P "__module__" 1400 (.str "postcore.memory" 1178),e P "__firstlineno__" 1404 (.int 608 1403),e P "is_elder" 1412 (.ref 845),e P "check_holds" 1421 (.ref 852),e P "put_item" 1431 (.ref 859),e P "put_items" 1441 (.ref 866),e P "put_octet" 1451 (.ref 873),e P "put_octets" 1461 (.ref 880),e P "grow" 1472 (.ref 887),e P "put_entry" 1482 (.ref 894),e P "drop_entry" 1491 (.ref 901),e P "set_access" 1500 (.ref 908),e P "__static_attributes__" 1503 (.ref 909),e P "__doc__" 1504 .none] 2 }
noncomputable def q911 (P:Params):Obj:={ cls := .type "type", data := .cls { name := "BodyChanger", bases:=[.ref 827],mro:=[.ref 911,.ref 827,.type "object"],ns:=910,qualname := "BodyChanger", subclasses:=[.ref 1009] },slots:=#[some (.ref 832),none,some (.str "BodyChanger" 1393),some (.str "BodyChanger" 1401),some (.builtin "object.__new__"),some (.bool true)] }
noncomputable def q1008 (P:Params):Obj:={ cls := .type "dict", data := .dict #[e P "__module__" 1514 (.str "postcore.memory" 1178),e P "__firstlineno__" 1518 (.int 652 1517),e P "save" 1526 (.ref 928),e P "place_of_save" 1536 (.ref 935),e P "is_saved" 1544 (.ref 942),e P "note_of" 1552 (.ref 949),e P "sure_place" 1561 (.ref 956),e P "newer_than" 1570 (.ref 963),e P "restore" 1585 (.ref 970),e P "settle_costs" 1597 (.ref 977),e P "status" 1604 (.ref 984),e P "collect" 1612 (.ref 991),e P "reclaim" 1621 (.ref 999),e P "journal_things" 1628 (.ref 1006),e P "__static_attributes__" 1633 (.ref 1007),e P "__doc__" 1634 .none] 2 }
noncomputable def q1009 (P:Params):Obj:={ cls := .type "type", data := .cls { name := "Memory", bases:=[.ref 911],mro:=[.ref 1009,.ref 911,.ref 827,.type "object"],ns:=1008,qualname := "Memory" },slots:=#[some (.ref 914),none,some (.str "Memory" 1507),some (.str "Memory" 1515),some (.builtin "object.__new__"),some (.bool true)] }
noncomputable def litL (P:Params) (k:Nat):List (Nat×Obj):=[(3,q3 P k),(12,q12 k),(2,q2 P),(38,q38 P),(39,q39 P),(51,q51 P),(52,q52 P),(218,q218 P),(219,q219 P),(239,q239 P),(240,q240 P),(260,q260 P),(261,q261 P),(281,q281 P),(282,q282 P),(427,q427 P),(428,q428 P),(619,q619 P),(620,q620 P),(633,q633 P),(692,q692 P),(693,q693 P),(727,q727 P),(728,q728 P),(775,q775 P),(826,q826 P),(827,q827 P),(910,q910 P),(911,q911 P),(1008,q1008 P),(1009,q1009 P)]
noncomputable def mkT (n:Nat) (f:Nat->Obj) (k:Nat):Nat->Nat->BT:=k.rec (fun s b => .nil) fun k ih s b=>cond (Nat.blt b n) (.node (f b) (ih (2*s) (s+b)) (ih (2*s) (2*s+b))) .nil
noncomputable def foK (k:Nat):List Nat:=k.rec [] fun j ih=>flK j++ih
noncomputable def setL (P:Params) (k:Nat) (o:Nat->Obj):List (Nat×Obj):=litL P k++([0,1,4,5,6,7,8,9,10,11,13,14].map (fun i=>(i,((t0 P).get i).getD default))++(foK k).map fun a=>(a,⟨.type "function", none,.func ((fdO (some (o a))).getD default),#[]⟩))
noncomputable def nK (k:Nat):Nat:=[15,287,625,754,1012].getD k 0
noncomputable def cutK (k:Nat):Nat:=[0,46,96,114,117,140].getD k 0
noncomputable def stK (k:Nat):Nat:=[2237,1963,1105,1725,651].getD k 0
noncomputable def pK (k:Nat):Pos:=[p0,{ line:=174,col:=0,endLine:=179,endCol:=24 },{ line:=380,col:=0,endLine:=461,endCol:=16 },{ line:=546,col:=0,endLine:=552,endCol:=24 },{ line:=652,col:=0,endLine:=716,endCol:=17 }].getD k p0
noncomputable def SK (w:World) (os:OsState) (k:Nat) (o:Nat->Obj):SharedT:=k.casesOn (s0T w os) fun j=>⟨(setL w.params k o).foldl (fun t p=>t.set p.1 fun x=>p.2) (mkT (nK k) o 11 1 0),nK k,{},#[],{},[0,609,1057,1291,1637].getD k 0,os⟩
noncomputable def bodyK (k:Nat):List Stmt:=(body0.drop (cutK k)).take (cutK (k+1) - cutK k)
noncomputable abbrev Rn:=Option (Flow×SharedT×Code×Pos)
noncomputable def runK (w:World) (os:OsState) (k:Nat) (o:Nat->Obj):Rn:=Fast.tw10110043849684766642 treeTable pw w 11 (some (.ref 6)) 1 (stK k) (SK w os k o) (piecesOf (bodyK k) env0 code0 (pK k) B0)
noncomputable def oo (r:Rn) (i:Nat):Obj:=r.casesOn default fun r=>(r.2.1.tree.get i).getD default
def HeadK (k:Nat):Prop:=∀ (w:World) (os:OsState) (o:Nat->Obj),(runK w os k o).map (fun r=>(r,lkT r.2.1.tree (flK k) (dvK k),(newK k).all (livT r.2.1.tree),(oldK k).map r.2.1.tree.get))=some ((.next,SK w os (k+1) (oo (runK w os k o)),code0,pK (k+1)),lkE (fiK k) (dvK k),true,(oldK k).map (SK w os k o).tree.get)
end Mine.C
namespace Mine.C
noncomputable def vS (v:Value):Value:=match v with
 | .int i _ => .int i 0
 | .str s _ => .str s 0
 | .bytes b _ => .bytes b 0
 | v=>v
noncomputable def enO (o:Option Obj):List (Value×Value)×Bool:=match o with
 | some ⟨_,_,.dict es _,_⟩=>(es.toList.map (fun e=>(vS e.key,vS e.val)),es.toList.any (·.refKey))
 | _=>([],true)
noncomputable def entL:List (String×Value):=[("__name__", .str "law_pb0518_01" 0),("__doc__", .none),("__package__", .none),("__loader__", .builtin "__main__.__loader__#opaque"),("__spec__", .none),("__annotations__", .ref 6),("__builtins__", .ref 4),("__file__", .str "/claim/cut.py" 0),("__cached__", .none),("_wall", .ref 21),("GRAIN", .int 1000000 0),("LEAST_INT", .int (-2147483648) 0),("MOST_INT", .int 2147483647 0),("WHITE", .bytes #[0,9,10,12,13,32] 0),("DELIMITERS", .bytes #[40,41,60,62,91,93,123,125,47,37] 0),("LINE_FEED", .int 10 0),("CARRIAGE_RETURN", .int 13 0),("PostError", .ref 39),("PsError", .ref 52),("is_white", .ref 61),("is_delimiter", .ref 68),("is_line_end", .ref 75),("is_octal", .ref 82),("hex_value", .ref 89),("digit_value", .ref 96),("decimal_octets", .ref 103),("INTEGER", .str "integer" 0),("REAL", .str "real" 0),("MOST_REAL", .int 1000000000000000000000 0),("PLACES", .int 6 0),("WORD_SIZE", .int 4294967296 0),("MOST_FIGURES", .int 6 0),("divided", .ref 110),("is_integer_size", .ref 117),("checked_real", .ref 124),("real_of", .ref 131),("whole_number", .ref 138),("figures_value", .ref 145),("read_radix", .ref 152),("signed_word", .ref 159),("read_exponent", .ref 166),("number_scaled", .ref 173),("split_at", .ref 180),("read_real", .ref 187),("read_number", .ref 194),("number_octets", .ref 201),("READ_ONLY", .int 2 0),("UNLIMITED", .int 3 0),("Thing", .ref 219),("Text", .ref 240),("Row", .ref 261),("Span", .ref 282),("integer", .ref 293),("real", .ref 300),("name", .ref 308),("null", .ref 315),("of_string", .ref 323),("of_row", .ref 331),("of_packed", .ref 339),("is_number", .ref 346),("is_in_array", .ref 353),("is_proc", .ref 360),("body_of", .ref 367),("is_local", .ref 374),("octets_of_span", .ref 381),("things_of_span", .ref 388),("SCAN_END", .int 4 0),("SCAN_FORM_FEED", .int 12 0),("SCAN_MOST_NAME", .int 127 0),("SCAN_BASE", .int 85 0),("SCAN_FIRST", .int 33 0),("SCAN_OPEN", .int 40 0),("SCAN_CLOSE", .int 41 0),("SCAN_SLASH", .int 47 0),("SCAN_LESS", .int 60 0),("SCAN_MORE", .int 62 0),("SCAN_BACKSLASH", .int 92 0),("SCAN_ROW_OPEN", .int 91 0),("SCAN_ROW_CLOSE", .int 93 0),("SCAN_PROC_OPEN", .int 123 0),("SCAN_PROC_CLOSE", .int 125 0),("SCAN_TILDE", .int 126 0),("SCAN_NOUGHTS", .int 122 0),("SCAN_PERCENT", .int 37 0),("OctetSource", .ref 428),("is_blank", .ref 439),("scan_skip_feed", .ref 446),("scan_line", .ref 453),("scan_first", .ref 460),("scan_word", .ref 467),("scan_sure", .ref 474),("scan_octal", .ref 481),("scan_escape", .ref 488),("scan_string", .ref 495),("scan_hex", .ref 502),("scan_group", .ref 509),("scan_base85", .ref 516),("scan_name", .ref 523),("scan_regular", .ref 530),("scan_at_once", .ref 537),("Scanner", .ref 620),("scan_things", .ref 632),("PRINT_DEPTH", .int 20 0),("PRINT_WIDTH", .int 72 0),("PRINT_SIGNS", .ref 633),("print_escape", .ref 640),("print_string", .ref 645),("source_token", .ref 650),("pretty_token", .ref 655),("PrettyRows", .ref 693),("pretty_things", .ref 704),("pretty", .ref 710),("ITEM_COST", .int 8 0),("ENTRY_COST", .int 16 0),("MOST_COST", .int 16777216 0),("Limits", .ref 728),("VmSave", .ref 749),("BodyMaker", .ref 827),("BodyChanger", .ref 911),("Memory", .ref 1009),("memory_check_many", .ref 1018),("memory_put_back", .ref 1025),("_law_names", .ref 1026),("_law_texts", .ref 1027),("_law_marks", .ref 1028),("_law_deck", .ref 1033),("_law_draw", .ref 1040),("_law_pick", .ref 1047),("_law_number", .ref 1054),("_law_escaped", .ref 1061),("_law_string", .ref 1066),("_law_gap", .ref 1073),("_law_token", .ref 1080),("_law_words", .ref 1087),("_law_end", .ref 1094),("_law_real", .ref 1099),("_law_bare", .ref 1104),("_law_octet", .ref 1111),("_law_text", .ref 1118),("_law_read", .ref 1125),("_law_refused", .ref 1132),("law", .ref 1139)]
noncomputable def entE:List (Value×Value):=entL.map fun p=>(.str (Str.ofString p.1) 0,p.2)
noncomputable def tuO (o:Option Obj):=(o.map (·.cls),sqO o)
noncomputable def tupV (v:V):Option (List D):=v.casesOn (fun d=>d.casesOn none (fun a=>none) (fun a=>none) (fun a=>none) (fun a=>none) (fun l=>some l) (fun a b=>none) (fun a=>none) fun a=>none) (fun a b=>none) (fun a=>none) (fun a b=>none) (fun a=>none) (fun a=>none) fun a=>none
noncomputable def tuE:List (Option Value×Option (List D)):=["PRINT_SIGNS","_law_names","_law_texts","_law_marks"].map fun n=>(some (.type "tuple"),(glL.lookup n).casesOn none tupV)
noncomputable def clL (K:Frag) (c:Nat):Bool×List (Option (Option Value))×List (Option (Option Value))×Option (Option Value)×Option (Option Value)×Option Value :=
 (plainGet K (cAd c) "" && (hasDictIn K (cAd c)&&(keepIn K (.ref (cAd c))&&(plainOver K (cAd c)&&makesIn K (cAd c)))),(fld c).map (fun n=>findIn K (.ref (cAd c)) (nm n)),(fld c).map (fun n=>takerIn K (cAd c) (nm n)),findIn K (.ref (cAd c)) "__setattr__", findIn K (.ref (cAd c)) "__init__", typeIn K (.ref (fAd (initIx c))))
noncomputable def clE (c:Nat):Bool×List (Option (Option Value))×List (Option (Option Value))×Option (Option Value)×Option (Option Value)×Option Value :=
 (true,(fld c).map (fun n=>some none),(fld c).map (fun n=>some none),some (some (.builtin "object.__setattr__")),some (some (.ref (fAd (initIx c)))),some (.type "function"))
noncomputable def meL (K:Frag) (q:(Nat×Nat)×Nat):Option (Option Value)×Bool:=(findIn K (.ref (cAd q.1.1)) (nm q.1.2),isFn K (.ref (fAd q.2)))
noncomputable def meE (q:(Nat×Nat)×Nat):Option (Option Value)×Bool:=(some (some (.ref (fAd q.2))),true)
noncomputable def exL (K:Frag):Option Obj×List (Option (Option Value))×Bool×Option Value×Option Bool×Option Bool×Option (List Value) :=
 (K.lookup 52,[findIn K (.ref 52) "__init__", findIn K (.ref 52) "__setattr__", findIn K (.ref 52) "__getattribute__", findIn K (.ref 52) "told", findIn K (.ref 52) "__getattr__", specialIn K (.ref 52) "__call__", nsIn K mainGlobals "PsError", findIn K (.ref (cAd 3)) (nm 9),specialIn K (.ref 775) "__get__"],keepIn K (.ref 52),typeIn K (.ref (fAd 1)),instIn K (.ref 52) (.type "type"),takesIn K (.ref 775),recIn K 775 "property")
noncomputable def exO:Obj:=excClassObj "PsError" "PsError" 52 51 [.ref 39] (tailOf 39) true [] [] false none none (some (.ref 43)) none (some (.str "PsError" 246)) (some (.str "PsError" 254)) (some (.bool true)) "Exception.__new__"
noncomputable def exE:Option Obj×List (Option (Option Value))×Bool×Option Value×Option Bool×Option Bool×Option (List Value) :=
 (some exO,[some (some (.ref 36)),some (some (.builtin "object.__setattr__")),some (some (.builtin "BaseException.__getattribute__")),some none,some none,some (some (.builtin "type.__call__")),some (some (.ref 52)),some (some (.ref 775)),some (some (.builtin "property.__get__"))],true,some (.type "function"),some true,some true,some [.ref 774,.none,.none,.none,.str "level" 1318,.bool false])
noncomputable def qL:Program:=view pw [pw.main.body.length - 1]
noncomputable def looseN:List Str:=pw.boundNames.filter fun n=>n != "law"
noncomputable def modsN:List Str:=importedModules pw.main.body
noncomputable def seenL (w:World) (s:Shared):=((staticsOk modsN (boot_heap w.params) s.heap&&namesBound pw s.heap&&gensDone s&&laidKept (boot_heap w.params) s.heap),openSeen qL looseN modsN (fun s=>true) true s)
noncomputable def looksT (t:BT):=(lkT t (flK 4) (dvK 4),(1::3::(tuL++newK 4)).all (livT t),enO (t.get 3),tuL.map (fun a=>tuO (t.get a)),(List.range 9).map (clL (kOf t)),methL.map (meL (kOf t)),exL (kOf t))
noncomputable def looksE:=(lkE (fiK 4) (dvK 4),true,(entE,false),tuE,(List.range 9).map clE,methL.map meE,exE)
theorem head0:HeadK 0:=by unfold HeadK;intro w os o;kernel_rfl
theorem head1:HeadK 1:=by unfold HeadK;intro w os o;kernel_rfl
theorem head2:HeadK 2:=by unfold HeadK;intro w os o;kernel_rfl
theorem head3:HeadK 3:=by unfold HeadK;intro w os o;kernel_rfl
theorem head4 (w:World) (os:OsState) (o:Nat->Obj):(runK w os 4 o).map (fun r=>((r.1,r.2.2.1,r.2.1.n),(oldK 4).map r.2.1.tree.get,seenL w r.2.1.abs,looksT r.2.1.tree))=some ((Flow.next,code0,1140),(oldK 4).map (SK w os 4 o).tree.get,(true,openGood qL looseN),looksE):=by kernel_rfl
end Mine.C
namespace Mine.C
def Facts (h:Heap):Prop:=∃ t:BT,(∀ a∈kAL,∃ o,t.get a=some o/\h.get? a=some o)/\(∀ k < 4,lkT t (flK k) (dvK k)=lkE (fiK k) (dvK k))/\looksT t=looksE
theorem Facts.keeps {h h':Heap} (f:Facts h) (k:∀ b o,h.get? b=some o->h'.get? b=some o):Facts h':=f.imp fun t q=>⟨fun a m=>(q.1 a m).imp fun o r=>⟨r.1,k _ _ r.2⟩,q.2⟩
theorem alive_of {o:Obj} (h:livO o=true):alive o=some o:=by
 obtain ⟨c,d,dt,sl⟩:=o
 cases dt<;>first | rfl | exact nomatch h
theorem liv_get {t:BT} {a n:Nat} {life:Life} (hn:Nat.blt a n=true) (h:livT t a=true):∃ o,t.get a=some o/\(absHeap t n life).get? a=some o:=by
 unfold livT at h
 cases e:t.get a with
 | none=>rw [e] at h;cases h
 | some o=>rw [e] at h;exact ⟨o,rfl,(abs_get (Nat.le_of_ble_eq_true hn) e).trans (alive_of h)⟩
theorem low0:kAL.all (fun a=>Nat.blt a 1140)=true:=by kernel_rfl
theorem prod4 {α β γ δ:Type} {a a':α} {b b':β} {c c':γ} {d d':δ} (h:(a,b,c,d)=(a',b',c',d')):a=a'/\b=b'/\c=c'/\d=d':=by cases h;exact ⟨rfl,rfl,rfl,rfl⟩
theorem prod3 {α β γ:Type} {a a':α} {b b':β} {c c':γ} (h:(a,b,c)=(a',b',c')):a=a'/\b=b'/\c=c':=by cases h;exact ⟨rfl,rfl,rfl⟩
theorem lk_same {t t1:BT} {k:Nat} (e:∀ a∈newK k,t.get a=t1.get a):lkT t (flK k) (dvK k)=lkT t1 (flK k) (dvK k):=by
 unfold lkT
 refine congr (congrArg Prod.mk (List.map_congr_left fun a m=>?_)) (congr (congrArg Prod.mk (List.map_congr_left fun a m=>?_)) (List.map_congr_left fun a m=>?_))
 ·exact congrArg fnO (e a (List.mem_append_left _ m))
 ·exact congrArg cdO (e _ (List.mem_append_right _ (List.mem_append_left _ (List.mem_map.mpr ⟨a,m,rfl⟩))))
 ·exact congrArg sqO (e _ (List.mem_append_right _ (List.mem_append_right _ (List.mem_append_left _ (List.mem_map.mpr ⟨a,m,rfl⟩)))))
structure Left (k:Nat) (t:BT):Prop where
 lk:∀ j < k,lkT t (flK j) (dvK j)=lkE (fiK j) (dvK j)
 liv:(oldK k).all (livT t)=true
theorem new_old {k:Nat}:∀ {j:Nat},j < k->∀ a∈newK j,a∈oldK k:=by
 induction k with
 | zero=>exact fun h=>nomatch h
 | succ k ih =>
  intro j h a m
  rcases Nat.lt_succ_iff_lt_or_eq.mp h with h | h
  ·exact List.mem_append_right _ (ih h a m)
  ·subst h;exact List.mem_append_left _ m
theorem Left.keep {k:Nat} {t t1:BT} (L:Left k t1) (e:∀ a∈oldK k,t.get a=t1.get a):Left k t :=
 ⟨fun j h=>(lk_same fun a m=>e a (new_old h a m)).trans (L.lk j h),List.all_eq_true.mpr fun a m=>by
  have:=List.all_eq_true.mp L.liv a m
  unfold livT at this ⊢
  rw [e a m];exact this⟩
theorem Left.step {k:Nat} {t t1:BT} (L:Left k t1) (e:(oldK k).map t.get=(oldK k).map t1.get) (h:lkT t (flK k) (dvK k)=lkE (fiK k) (dvK k)) (l:(newK k).all (livT t)=true):Left (k+1) t:=by
 have L:=L.keep (List.map_inj_left.mp e)
 refine ⟨fun j hj=>?_,?_⟩
 ·rcases Nat.lt_succ_iff_lt_or_eq.mp hj with q | q
  ·exact L.lk j q
  ·rw [q];exact h
 ·show (newK k++oldK k).all _=true
  rw [List.all_append,l,L.liv];rfl
theorem cls_old:(clK 0++(clK 1++(clK 2++(clK 3++clK 4)))).all (fun a=>(oldK 5).contains a)=true:=by kernel_rfl
theorem looks_liv {t:BT} (h:looksT t=looksE):(1::3::(tuL++newK 4)).all (livT t)=true:=by
 unfold looksT looksE at h
 exact (prod3 h).2.1
theorem facts_of {t:BT} {life:Life} (L:Left 4 t) (h2:looksT t=looksE):Facts (absHeap t 1140 life):=by
 refine ⟨t,fun a m=>liv_get (List.all_eq_true.mp low0 a m) ?_,L.lk,h2⟩
 have z:=List.all_eq_true.mp (looks_liv h2)
 have y:∀ a∈oldK 5,livT t a=true:=fun a m=>(List.mem_append.mp m).elim (fun m=>z a (.tail _ (.tail _ (List.mem_append_right _ m)))) (List.all_eq_true.mp L.liv a)
 rcases List.mem_cons.mp m with e | m
 ·rw [e];exact z 1 (.head _)
 ·rcases List.mem_cons.mp m with e | m
  ·rw [e];exact z 3 (.tail _ (.head _))
  ·rcases List.mem_append.mp m with m | m
   ·exact y a (List.contains_iff_mem.mp (List.all_eq_true.mp cls_old a m))
   ·rcases List.mem_append.mp m with m | m
    ·exact z a (.tail _ (.tail _ (List.mem_append_left _ m)))
    ·exact y a m
def Runs (w:World) (os:OsState) (k N:Nat) (s s1:SharedT):Prop:=topRun treeTable pw w 11 (some (.ref 6)) N s.abs (restOf (body0.drop (cutK k)) env0 code0 (pK k) B0)=some s1.abs
theorem cut_le:(List.range 5).all (fun k=>Nat.ble (cutK k) (cutK (k+1)))=true:=by kernel_rfl
theorem cut_last:body0.drop (cutK 5)=[]:=by kernel_rfl
theorem body_cut {k:Nat} (h:k < 5):bodyK k++body0.drop (cutK (k+1))=body0.drop (cutK k):=by
 have e:cutK (k+1)=cutK k+(cutK (k+1) - cutK k):=(Nat.add_sub_cancel' (Nat.le_of_ble_eq_true (List.all_eq_true.mp cut_le k (List.mem_range.mpr h)))).symm
 unfold bodyK
 rw [show body0.drop (cutK (k+1))=(body0.drop (cutK k)).drop (cutK (k+1) - cutK k) by rw [List.drop_drop,<- e],List.take_append_drop]
theorem runs_step {w:World} {os:OsState} {k N:Nat} {o:Nat->Obj} {s s1:SharedT} {q:Pos} (hk:k < 5) (hq:q=pK (k+1)) (h:runK w os k o=some (.next,s,code0,q)) (r:Runs w os (k+1) N s s1):Runs w os k (stK k+N) (SK w os k o) s1:=by
 subst hq
 unfold runK at h
 rw [<- Fast.te10110043849684766642] at h
 have z:=piece_app (q:=p0) (rest:=body0.drop (cutK (k+1))) (segRun_of h) r
 rw [body_cut hk] at z
 exact z
theorem runs_last {w:World} {os:OsState} {o:Nat->Obj} {s:SharedT} {q:Pos} (h:runK w os 4 o=some (.next,s,code0,q)):Runs w os 4 (stK 4+2) (SK w os 4 o) s:=by
 unfold runK at h
 rw [<- Fast.te10110043849684766642] at h
 have z:=piece_app (q:=p0) (rest:=body0.drop (cutK 5)) (segRun_of h) (by rw [cut_last];exact fin0 s.abs w q)
 rw [body_cut (by decide)] at z
 exact z
theorem ran_of {w:World} {os:OsState} {o:Nat->Obj} {s:SharedT} {M:Nat} (k:Runs w os 0 M (SK w os 0 o) s) :
  topRun treeTable pw w 11 (some (.ref 6)) (12+(1+M)) ⟨boot_heap w.params,#[],boot_drawn,boot_toks,os⟩ (topStub pw)=some s.abs:=go_top (pre0 w os) (piece_block (block0 _ w) k)
theorem head_step {k:Nat} (H:HeadK k) {w:World} {os:OsState} {o:Nat->Obj} (L:Left k (SK w os k o).tree):runK w os k o=some (.next,SK w os (k+1) (oo (runK w os k o)),code0,pK (k+1))/\Left (k+1) (SK w os (k+1) (oo (runK w os k o))).tree:=by
 obtain ⟨r,hr,e⟩:=Option.map_eq_some_iff.mp (H w os o)
 obtain ⟨ea,eb,ec,ed⟩:=prod4 e
 refine ⟨hr.trans (congrArg some ea),?_⟩
 have t:r.2.1.tree=(SK w os (k+1) (oo (runK w os k o))).tree:=congrArg (fun r=>r.2.1.tree) ea
 rw [<- t]
 exact L.step ed eb ec
theorem ranTop (w:World) (os:OsState):∃ s:SharedT,topRun treeTable pw w 11 (some (.ref 6)) (12+(1+(stK 0+(stK 1+(stK 2+(stK 3+(stK 4+2))))))) ⟨boot_heap w.params,#[],boot_drawn,boot_toks,os⟩ (topStub pw)=some s.abs/\seenL w s.abs=(true,openGood qL looseN)/\Facts s.abs.heap:=by
 have h0:=head_step head0 (w:=w) (os:=os) (o:=fun i=>default) ⟨fun j h=>(nomatch h),rfl⟩
 have h1:=head_step head1 h0.2
 have h2:=head_step head2 h1.2
 have h3:=head_step head3 h2.2
 generalize oo (runK w os 3 _)=o4 at h3
 obtain ⟨⟨f,⟨t,n,life,gs,dr,tk,os2⟩,c,q⟩,hr,e⟩:=Option.map_eq_some_iff.mp (head4 w os o4)
 obtain ⟨fa,fb,fc,fd⟩:=prod4 e
 obtain ⟨ga,gb,gc⟩:=prod3 fa
 dsimp only at ga gb gc
 subst ga gb gc
 exact ⟨_,ran_of (runs_step (by decide) rfl h0.1 (runs_step (by decide) rfl h1.1 (runs_step (by decide) rfl h2.1 (runs_step (by decide) rfl h3.1 (runs_last hr))))),fc,facts_of (h3.2.keep (List.map_inj_left.mp fb)) fd⟩
theorem op0:opening pw=plainProg pw.main.scope.names:=by kernel_rfl
theorem fence0 (s:Shared):fenceModules? pw s=some s:=by kernel_rfl
theorem sz1 (P:Params):(boot_heap P).isNs mainGlobals=true:=by kernel_rfl
theorem sz2 (P:Params):(boot_heap P).objs.size=11:=by kernel_rfl
theorem sz3 (P:Params):(boot_heap P).nsMap mainGlobals "__annotations__" = some (.ref 6):=by kernel_rfl
theorem left_of {p q:Program} {loose:List Str} {Xt:Shared->Bool} {Yf:Shared->Prop} {N M m0:Nat} {H:Params->Heap} {dr:Drawn} {tk:Tok} {ann:Option Value}
  (op:∀ w:World,(fencedOpening treeTable p w N).map (fun s=>(s.heap,s.gens,s.drawn,s.toks))=some (H w.params,Array.mk [],dr,tk)) (z1:∀ P,(H P).isNs mainGlobals=true) (z2:∀ P,(H P).objs.size=m0) (z3:∀ P,(H P).nsMap mainGlobals "__annotations__" = ann) (le:M<=N)
  (run:∀ (w:World) (os:OsState),∃ s,topRun treeTable p w m0 ann M ⟨H w.params,Array.mk [],dr,tk,os⟩ (topStub p)=some s/\((staticsOk (importedModules p.main.body) (H w.params) s.heap&&namesBound p s.heap&&gensDone s&&laidKept (H w.params) s.heap),openSeen q loose (importedModules p.main.body) Xt true s)=(true,openGood q loose)/\Yf s) :
  LeftO p q loose Xt Yf (fun w=>True) N:=fun w=>by
 obtain ⟨⟨h,gs,d,k,os⟩,e,e'⟩:=Option.map_eq_some_iff.mp (op w)
 obtain ⟨ga,gb,gc,gd⟩:=prod4 e'
 dsimp only at ga gb gc gd
 subst ga gb gc gd
 obtain ⟨s,r,l,f⟩:=run w os
 have r:=topRun_mono (N - M) _ _ _ _ r
 rw [Nat.add_sub_cancel' le] at r
 have t:topFrom treeTable p w N ⟨H w.params,Array.mk [],d,k,os⟩=some s:=by
  unfold topFrom
  dsimp only
  rw [z1,z2,z3,r]
  show (match staticsOk (importedModules p.main.body) (H w.params) s.heap&&namesBound p s.heap&&gensDone s&&laidKept (H w.params) s.heap with | true=>some s | false=>none)=_
  rw [show (staticsOk (importedModules p.main.body) (H w.params) s.heap&&namesBound p s.heap&&gensDone s&&laidKept (H w.params) s.heap)=true from congrArg Prod.fst l]
 unfold openEnds
 rw [e]
 show (topFrom treeTable p w N _).map _=_
 rw [t]
 exact congrArg some (Prod.ext (congrArg Prod.snd l) (eq_true f))
theorem left0:LeftO pw qL looseN (fun s=>true) (fun s=>Facts s.heap) (fun w=>True) 16000 :=
 left_of (boot_open op0 rfl fence0) sz1 sz2 sz3 (by decide +kernel) fun w os=>(ranTop w os).elim fun s h=>⟨s.abs,h⟩
end Mine.C
namespace Mine.C
abbrev Has (t:BT) (h:Heap):Prop:=∀ a∈kAL,∃ o,t.get a=some o/\h.get? a=some o
theorem filt_look {f:Nat->Option Obj} {l:List Nat} (h:∀ b∈l,∃ o,f b=some o) (a:Nat):(l.filterMap fun a=>(f a).map fun o=>(a,o)).lookup a=cond (l.contains a) (f a) none:=by
 induction l with
 | nil=>rfl
 | cons b r ih =>
  obtain ⟨o,e⟩:=h b (.head _)
  rw [List.filterMap_cons,e,List.contains_cons]
  show List.lookup a ((b,o)::_)=_
  rw [List.lookup_cons]
  cases q:a==b with
  | true=>cases beq_iff_eq.mp q;exact e.symm
  | false=>exact ih fun c m=>h c (.tail _ m)
section
variable {t:BT} {h:Heap}
theorem kOf_all (hk:Has t h) (a:Nat):(kOf t).lookup a=cond (kAL.contains a) (t.get a) none:=filt_look (fun b m=>(hk b m).imp fun o q=>q.1) a
theorem kOf_at (hk:Has t h) {a:Nat} (m:kAL.contains a=true):(kOf t).lookup a=t.get a:=by rw [kOf_all hk,m];rfl
theorem kOf_in (hk:Has t h):(kOf t).In h:=fun a o e=>by
 rw [kOf_all hk] at e
 cases m:kAL.contains a with
 | false=>rw [m] at e;cases e
 | true =>
  rw [m] at e
  obtain ⟨o',e1,e2⟩:=hk a (List.contains_iff_mem.mp m)
  cases e1.symm.trans e
  exact e2
theorem fAd_mem (k:Nat):fAd k∈fAL:=by
 unfold fAd
 rw [List.getD_eq_getElem?_getD]
 cases e:fAL[k]? with
 | none=>exact List.contains_iff_mem.mp (by kernel_rfl)
 | some a=>exact List.mem_of_getElem? e
theorem inK1:fAL.all (fun a=>kAL.contains a&&kAL.contains (a - 1))=true:=by kernel_rfl
theorem inK2:dvL.all (fun p=>kAL.contains p.2)=true:=by kernel_rfl
theorem fisLen:(fis.zipIdx.map fun p=>fAd p.2)=fAL:=by kernel_rfl
theorem zip_cut:fiK 0++(fiK 1++(fiK 2++(fiK 3++fiK 4)))=fis.zipIdx:=by kernel_rfl
theorem map_cut {α β γ:Type} {f:α->γ} {g:β->γ} {A:Nat->List α} {B:Nat->List β} (h:∀ k < 5,(A k).map f=(B k).map g):(A 0++(A 1++(A 2++(A 3++A 4)))).map f=(B 0++(B 1++(B 2++(B 3++B 4)))).map g:=by
 have z:∀ {l m:List α} {l' m':List β},l.map f=l'.map g->m.map f=m'.map g->(l++m).map f=(l'++m').map g:=fun x y=>by rw [List.map_append,x,y,<- List.map_append]
 exact z (h 0 (by decide)) (z (h 1 (by decide)) (z (h 2 (by decide)) (z (h 3 (by decide)) (h 4 (by decide)))))
theorem fnAll (h0:∀ k < 4,lkT t (flK k) (dvK k)=lkE (fiK k) (dvK k)) (h1:lkT t (flK 4) (dvK 4)=lkE (fiK 4) (dvK 4)) :
  (∀ p∈fis.zipIdx,fnO (t.get (fAd p.2))=fnX p/\cdO (t.get (fAd p.2 - 1))=some p.1.qual)/\∀ p∈dvL,sqO (t.get p.2)=some (dfl p.1):=by
 have h:∀ k < 5,lkT t (flK k) (dvK k)=lkE (fiK k) (dvK k):=fun k hk=>(Nat.lt_succ_iff_lt_or_eq.mp hk).elim (h0 k) fun e=>e▸h1
 have a:=map_cut fun k hk=>(prod3 (h k hk)).1
 have b:=map_cut fun k hk=>(prod3 (h k hk)).2.1
 have c:=map_cut fun k hk=>(prod3 (h k hk)).2.2
 rw [zip_cut] at a b
 have a:fAL.map (fun a=>fnO (t.get a))=fis.zipIdx.map fnX:=a
 have b:fAL.map (fun a=>cdO (t.get (a - 1)))=fis.zipIdx.map fun p=>some p.1.qual:=b
 rw [<- fisLen,List.map_map] at a b
 exact ⟨fun p m=>⟨List.map_inj_left.mp a p m,List.map_inj_left.mp b p m⟩,List.map_inj_left.mp c⟩
theorem zip_mem {α:Type} {l:List α} {k:Nat} {x:α} (e:l[k]?=some x):(x,k)∈l.zipIdx:=List.mk_mem_zipIdx_iff_getElem?.mpr e
structure FnSeen (K:Frag) (k:Nat) (f:Fi) (fd:FuncData):Prop where
 look:∃ oc od osl,K.lookup (fAd k)=some ⟨oc,od,.func fd,osl⟩
 code:codeIn K fd.code f.qual=true
 qual:fd.qualname=f.qual
 params:fd.params=f.params
 body:fd.body = .stmts f.body
 scope:fd.scope=f.scope
 globals:fd.globals=mainGlobals
 builtins:fd.builtins=builtinsNs
 closure:fd.closure=[]
 dv:fd.defaults=dvV k
theorem fd_of {o:Option Obj} {x} (h:fnO o=some x):∃ c d fd sl,o=some ⟨c,d,.func fd,sl⟩/\(fd.qualname,fd.params,fd.body,fd.scope,fd.globals,fd.builtins,fd.closure,fd.code,fd.defaults)=x:=by
 obtain ⟨fd,e,q⟩:=Option.map_eq_some_iff.mp h
 cases o with
 | none=>cases e
 | some o =>
  obtain ⟨c,d,dt,sl⟩:=o
  cases dt<;>first | (cases (show some _=some fd from e);exact ⟨c,d,fd,sl,rfl,q⟩) | exact nomatch e
theorem code_of {K:Frag} {a:Nat} {q:Str} (h:cdO (K.lookup a)=some q):codeIn K (.ref a) q=true:=by
 unfold codeIn
 dsimp only
 revert h
 cases K.lookup a with
 | none=>exact fun h=>nomatch h
 | some o =>
  obtain ⟨c,d,dt,sl⟩:=o
  cases dt with
  | fields vs =>
   intro h
   have h:(match vs.toList with | _ :: .str n _::_=>some n | _=>none)=some q:=h
   show (match vs.toList with | _ :: .str n _::_=>n==q | _=>false)=true
   revert h
   cases vs.toList with
   | nil=>exact fun h=>nomatch h
   | cons x r =>
    cases r with
    | nil=>exact fun h=>nomatch h
    | cons y r=>cases y<;>intro h<;>first | (cases h;exact beq_self_eq_true _) | exact nomatch h
  | _=>exact fun h=>nomatch h
theorem fn_seen (hk:Has t h) {k:Nat} {f:Fi} (e:fis[k]?=some f) (hf:fnO (t.get (fAd k))=fnX (f,k)) (hc:cdO (t.get (fAd k - 1))=some f.qual):∃ fd,FnSeen (kOf t) k f fd:=by
 have q:=Bool.and_eq_true_iff.mp (List.all_eq_true.mp inK1 _ (fAd_mem k))
 rw [<- kOf_at hk q.1] at hf
 rw [<- kOf_at hk q.2] at hc
 obtain ⟨c,d,fd,sl,e1,e2⟩:=fd_of hf
 simp only [Prod.mk.injEq] at e2
 obtain ⟨q1,q2,q3,q4,q5,q6,q7,q8,q9⟩:=e2
 exact ⟨fd,⟨c,d,sl,e1⟩,by rw [q8];exact code_of hc,q1,q2,q3,q4,q5,q6,q7,q9⟩
end
end Mine.C
namespace Mine.C
section
variable {S:Sx} {fz:Fz} {t:BT} {h:Heap}
theorem prim_rel {v:Value} {d:D} (h:primD v=some d):RelD S fz d v:=by
 cases v with
 | none=>cases (show some D.none=some d from h);rfl
 | bool b=>cases (show some (D.bool b)=some d from h);rfl
 | int i t=>cases (show some (D.int i)=some d from h);exact ⟨t,rfl⟩
 | bytes b t=>cases (show some (D.bytes b.toList)=some d from h);exact ⟨t,rfl⟩
 | _=>exact nomatch h
theorem prims_rel {l:List Value}:∀ {ds:List D},mapO primD l=some ds->All2 (RelD S fz) ds l:=by
 induction l with
 | nil=>intro ds e;cases (show some []=some ds from e);rfl
 | cons v r ih =>
  intro ds e
  have e:((primD v).casesOn none fun b=>(mapO primD r).casesOn none fun bs=>some (b::bs):Option (List D))=some ds:=e
  cases q:primD v with
  | none=>rw [q] at e;cases e
  | some b =>
   rw [q] at e
   cases q2:mapO primD r with
   | none=>rw [q2] at e;cases e
   | some bs=>rw [q2] at e;cases e;exact .mk (prim_rel q) (ih q2)
theorem sq_of {o:Option Obj} {ds:List D} (h:sqO o=some ds):∃ c d xs n sl,o=some ⟨c,d,.seq xs n,sl⟩/\mapO primD xs.toList=some ds:=by
 cases o with
 | none=>cases h
 | some o =>
  obtain ⟨c,d,dt,sl⟩:=o
  cases dt<;>first | exact ⟨c,d,_,_,sl,rfl,h⟩ | exact nomatch h
theorem noDv:((List.range 133).all fun k=>(dvL.lookup k).isSome||(dfl k).isEmpty)=true:=by kernel_rfl
theorem fisNum:fis.length=133:=by kernel_rfl
theorem look_mem {α:Type} {l:List (Nat×α)} {k:Nat} {a:α} (e:l.lookup k=some a):(k,a)∈l:=by
 induction l with
 | nil=>cases e
 | cons p r ih =>
  rw [List.lookup_cons] at e
  cases q:k==p.1 with
  | true=>rw [q] at e;cases e;rw [beq_iff_eq.mp q];exact .head _
  | false=>rw [q] at e;exact .tail _ (ih e)
theorem dv_at (hK:S.K=kOf t) (hk:Has t h) (hd:∀ p∈dvL,sqO (t.get p.2)=some (dfl p.1)) {k:Nat} {f:Fi} (e:fis[k]?=some f):∃ dl,DefsAt S (dvV k) dl/\All2 (RelD S fz) (dfl k) dl:=by
 unfold dvV
 cases q:dvL.lookup k with
 | none =>
  have hl:k < 133:=fisNum▸(List.getElem?_eq_some_iff.mp e).1
  have:=List.all_eq_true.mp noDv k (List.mem_range.mpr hl)
  rw [q] at this
  have z:dfl k=[]:=List.isEmpty_iff.mp this
  exact ⟨[],.inl ⟨rfl,rfl⟩,by rw [z];rfl⟩
 | some a =>
  have m:=look_mem q
  have m2:=List.all_eq_true.mp inK2 _ m
  have z:=hd _ m
  rw [<- kOf_at hk m2,<- hK] at z
  obtain ⟨c,d,xs,n,sl,e1,e2⟩:=sq_of z
  exact ⟨xs.toList,.inr ⟨a,_,n,rfl,e1,rfl⟩,prims_rel e2⟩
theorem en_dict {o:Option Obj} {l:List (Value×Value)} (h:enO o=(l,false)):∃ c d es n sl,o=some ⟨c,d,.dict es n,sl⟩/\es.toList.map (fun e=>(vS e.key,vS e.val))=l/\es.toList.any (·.refKey)=false:=by
 cases o with
 | none=>cases h
 | some o =>
  obtain ⟨c,d,dt,sl⟩:=o
  cases dt<;>first | exact ⟨c,d,_,_,sl,rfl,congrArg Prod.fst h,congrArg Prod.snd h⟩ | exact nomatch h
theorem vS_str (v:Value) (n:Str):(vS v).isStr n=v.isStr n:=by cases v<;>rfl
theorem find_struck (n:Str) (es:List DictEntry):(es.find? (·.key.isStr n)).map (fun e=>vS e.val)=((es.map fun e=>(vS e.key,vS e.val)).find? (fun p=>p.1.isStr n)).map (·.2):=by
 rw [List.find?_map,Option.map_map]
 refine congrArg (Option.map _) (congrArg (fun p=>List.find? p es) (funext fun e=>?_))
 exact (vS_str e.key n).symm
noncomputable def entF (n:Str):Option Value:=(entE.find? (fun p=>p.1.isStr n)).map (·.2)
theorem ns_look {K:Frag} (h:enO (K.lookup mainGlobals)=(entE,false)) (n:Str):∃ r,nsIn K mainGlobals n=some r/\r.map vS=entF n:=by
 obtain ⟨c,d,es,m,sl,e1,e2,e3⟩:=en_dict h
 have z:=find_struck n es.toList
 rw [e2] at z
 unfold nsIn
 rw [e1]
 dsimp only
 unfold entF
 cases q:es.toList.find? (·.key.isStr n) with
 | none=>rw [q] at z;rw [e3];exact ⟨none,rfl,z⟩
 | some e=>rw [q] at z;exact ⟨some e.val,rfl,z⟩
noncomputable def tuK:List (Nat×Nat):=[(93,633),(108,1026),(109,1027),(110,1028)]
noncomputable def gx (v:V) (j:Nat):Option Value:=v.casesOn (fun d=>d.casesOn (some .none) (fun b=>some (.bool b)) (fun i=>some (.int i 0)) (fun k=>some (.str (nm k) 0)) (fun b=>some (.bytes b.toArray 0)) (fun l=>(tuK.lookup j).map .ref) (fun a b=>none) (fun a=>none) fun a=>none) (fun a b=>none) (fun a=>none) (fun a b=>none) (fun k=>some (.ref (fAd k))) (fun c=>some (.ref (cAd c))) fun b=>none
noncomputable def gb (v:V) (j:Nat):Bool:=v.casesOn (fun d=>d.casesOn true (fun b=>true) (fun i=>true) (fun k=>true) (fun b=>true) (fun l=>true) (fun a b=>false) (fun a=>false) fun a=>false) (fun a b=>false) (fun a=>false) (fun a b=>false) (fun k=>true) (fun c=>true) fun b=>decide (bootBuiltins (glN j)=some (biV b)) && !(glN j == "__name__")
theorem gx_all:(List.range 138).map (fun j=>(entF (glN j),gb (glV j) j))=(List.range 138).map fun j=>(gx (glV j) j,true):=by kernel_rfl
theorem glNum:glL.length=138:=by kernel_rfl
theorem tuE_eq:tuE=tuK.map fun p=>(some (.type "tuple"),tupV (glV p.1)):=by kernel_rfl
theorem tuL_eq:tuL=tuK.map (·.2):=by kernel_rfl
theorem inK3:tuK.all (fun p=>kAL.contains p.2)=true:=by kernel_rfl
theorem inK4:kAL.contains mainGlobals=true:=by kernel_rfl
theorem struckInt {v:Value} {i:Int} (h:vS v = .int i 0):∃ t,v = .int i t:=by
 cases v<;>first | (cases h;exact ⟨_,rfl⟩) | exact nomatch h
theorem struckStr {v:Value} {i:Str} (h:vS v = .str i 0):∃ t,v = .str i t:=by
 cases v<;>first | (cases h;exact ⟨_,rfl⟩) | exact nomatch h
theorem struckBytes {v:Value} {i:Array UInt8} (h:vS v = .bytes i 0):∃ t,v = .bytes i t:=by
 cases v<;>first | (cases h;exact ⟨_,rfl⟩) | exact nomatch h
theorem struckRef {v:Value} {a:Addr} (h:vS v = .ref a):v = .ref a:=by
 cases v<;>first | exact h | exact nomatch h
theorem struckNone {v:Value} (h:vS v = .none):v = .none:=by
 cases v<;>first | exact h | exact nomatch h
theorem struckBool {v:Value} {b:Bool} (h:vS v = .bool b):v = .bool b:=by
 cases v<;>first | exact h | exact nomatch h
theorem glob_all (hK:S.K=kOf t) (hk:Has t h) (hA:S.fA=fAd) (hC:S.cA=cAd) (hz:∀ a o,S.K.lookup a=some o->S.fz0 a=some o) (he:enO (t.get 3)=(entE,false)) (ht:tuL.map (fun a=>tuO (t.get a))=tuE):GlobN S:=by
 have he:enO (t.get mainGlobals)=(entE,false):=he
 rw [<- kOf_at hk inK4,<- hK] at he
 rw [tuL_eq,tuE_eq,List.map_map] at ht
 intro j hj
 have hj:j < 138:=glNum▸hj
 have g:=List.map_inj_left.mp gx_all j (List.mem_range.mpr hj)
 have g1:entF (glN j)=gx (glV j) j:=congrArg Prod.fst g
 have g2:gb (glV j) j=true:=congrArg Prod.snd g
 obtain ⟨r,r1,r2⟩:=ns_look he (glN j)
 rw [g1] at r2
 have some_:∀ {x:Value},gx (glV j) j=some x->∃ cv,nsIn S.K mainGlobals (glN j)=some (some cv)/\vS cv=x:=fun {x} q=>by
  rw [q] at r2
  cases r with
  | none=>cases r2
  | some cv=>exact ⟨cv,r1,Option.some.inj r2⟩
 cases v:glV j with
 | d x =>
  rw [v] at g2 some_
  cases x with
  | none=>exact (some_ rfl).imp fun cv q=>⟨struckNone q.2,.inl q.1⟩
  | bool b=>exact (some_ rfl).imp fun cv q=>⟨struckBool q.2,.inl q.1⟩
  | int i=>exact (some_ rfl).imp fun cv q=>⟨struckInt q.2,.inl q.1⟩
  | str k=>exact (some_ rfl).imp fun cv q=>⟨struckStr q.2,.inl q.1⟩
  | bytes b=>exact (some_ rfl).imp fun cv q=>⟨struckBytes q.2,.inl q.1⟩
  | tup l =>
   cases q:tuK.lookup j with
   | none =>
    have e:r.map vS=gx (glV j) j:=r2
    rw [v] at e
    exact absurd (show (tuK.lookup j).isSome=true from by
     have:=List.all_eq_true.mp (show ((List.range 138).all fun j=>(tupV (glV j)).isNone||(tuK.lookup j).isSome)=true by kernel_rfl) j (List.mem_range.mpr hj)
     rw [v] at this;exact this) (by rw [q];exact Bool.false_ne_true)
   | some a =>
    have m:=look_mem q
    have m2:=List.all_eq_true.mp inK3 _ m
    have z:tuO (t.get a)=(some (.type "tuple"),tupV (glV j)):=List.map_inj_left.mp ht (j,a) m
    rw [v,<- kOf_at hk m2,<- hK] at z
    obtain ⟨c,d,xs,n,sl,e1,e2⟩:=sq_of (show sqO (S.K.lookup a)=some l from congrArg Prod.snd z)
    have ec:c = .type "tuple" := by
     have:=congrArg Prod.fst z
     rw [e1] at this
     exact Option.some.inj this
    subst ec
    have y:gx (.d (.tup l)) j=some (.ref a):=by show (tuK.lookup j).map Value.ref=_;rw [q];rfl
    refine (some_ y).imp fun cv q=>⟨?_,.inl q.1⟩
    rw [struckRef q.2]
    exact IsTup.mk (cvs:=xs.toList) (hz _ _ e1) (RelDs.eq.mpr (prims_rel e2))
  | obj a b=>cases g2
  | list a=>cases g2
  | barr a=>cases g2
 | pair a b=>rw [v] at g2;cases g2
 | ref i=>rw [v] at g2;cases g2
 | inst a b=>rw [v] at g2;cases g2
 | fn k=>rw [v] at some_;exact (some_ rfl).imp fun cv q=>⟨(struckRef q.2).trans (congrArg (fun f=>Value.ref (f k)) hA.symm),.inl q.1⟩
 | cls k=>rw [v] at some_;exact (some_ rfl).imp fun cv q=>⟨(struckRef q.2).trans (congrArg (fun f=>Value.ref (f k)) hC.symm),.inl q.1⟩
 | bi b =>
  rw [v] at g2 r2
  have g2:=Bool.and_eq_true_iff.mp g2
  cases r with
  | some cv=>cases r2
  | none=>exact ⟨biV b,rfl,.inr ⟨r1,of_decide_eq_true g2.1,fun e=>by have:=g2.2;rw [e] at this;exact nomatch this⟩⟩
end
end Mine.C
namespace Mine.C
theorem cls9 (c:Nat):∃ c',c'∈List.range 9/\cAd c=cAd c'/\initIx c=initIx c'/\(fld c=fld c'\/fld c=[]):=by
 by_cases h:c < 9
 ·exact ⟨c,List.mem_range.mpr h,rfl,rfl,.inl rfl⟩
 ·refine ⟨0,by decide,?_,?_,.inr ?_⟩
  ·unfold cAd;rw [List.getD_eq_getElem?_getD,List.getElem?_eq_none (Nat.not_lt.mp h)];rfl
  ·unfold initIx;rw [List.getD_eq_getElem?_getD,List.getElem?_eq_none (Nat.not_lt.mp h)];rfl
  ·unfold fld fldL;rw [List.getD_eq_getElem?_getD,List.getElem?_eq_none (Nat.not_lt.mp h)];rfl
structure ClsSeen (K:Frag) (c:Nat):Prop where
 get_:plainGet K (cAd c) "" = true
 dict:hasDictIn K (cAd c)=true
 keep:keepIn K (.ref (cAd c))=true
 over:plainOver K (cAd c)=true
 makes:makesIn K (cAd c)=true
 attr:∀ n∈fld c,findIn K (.ref (cAd c)) (nm n)=some none
 take:∀ n∈fld c,takerIn K (cAd c) (nm n)=some none
 set:findIn K (.ref (cAd c)) "__setattr__" = some (some (.builtin "object.__setattr__"))
 init:findIn K (.ref (cAd c)) "__init__" = some (some (.ref (fAd (initIx c))))
 fn:typeIn K (.ref (fAd (initIx c)))=some (.type "function")
theorem cls_seen {K:Frag} (h:(List.range 9).map (clL K)=(List.range 9).map clE) (c:Nat):ClsSeen K c:=by
 obtain ⟨c',m,e1,e2,e3⟩:=cls9 c
 have z:=List.map_inj_left.mp h c' m
 unfold clL clE at z
 simp only [Prod.mk.injEq,Bool.and_eq_true] at z
 obtain ⟨⟨z1,z2,z3,z4,z5⟩,z6,z7,z8,z9,z10⟩:=z
 have z6:=List.map_inj_left.mp z6
 have z7:=List.map_inj_left.mp z7
 have fl:∀ {P:Nat->Prop},(∀ n∈fld c',P n)->∀ n∈fld c,P n:=fun {P} k n hn=>by
  rcases e3 with e | e
  ·rw [e] at hn;exact k n hn
  ·rw [e] at hn;exact nomatch hn
 rw [<- e1] at z1 z2 z3 z4 z5 z6 z7 z8 z9
 rw [<- e2] at z9 z10
 exact ⟨z1,z2,z3,z4,z5,fl z6,fl z7,z8,z9,z10⟩
structure ExSeen (K:Frag):Prop where
 look:K.lookup 52=some exO
 init:findIn K (.ref 52) "__init__" = some (some (.ref (fAd 1)))
 set:findIn K (.ref 52) "__setattr__" = some (some (.builtin "object.__setattr__"))
 get_:findIn K (.ref 52) "__getattribute__" = some (some (.builtin "BaseException.__getattribute__"))
 told:findIn K (.ref 52) "told" = some none
 attr:findIn K (.ref 52) "__getattr__" = some none
 call:specialIn K (.ref 52) "__call__" = some (some (.builtin "type.__call__"))
 glob:nsIn K mainGlobals "PsError" = some (some (.ref 52))
 lvl:findIn K (.ref (cAd 3)) (nm 9)=some (some (.ref 775))
 pget:specialIn K (.ref 775) "__get__" = some (some (.builtin "property.__get__"))
 keep:keepIn K (.ref 52)=true
 fn:typeIn K (.ref (fAd 1))=some (.type "function")
 typ:instIn K (.ref 52) (.type "type")=some true
 take:takesIn K (.ref 775)=some true
 rec_:recIn K 775 "property" = some [.ref (fAd 84),.none,.none,.none,.str "level" 1318,.bool false]
theorem ex_seen {K:Frag} (h:exL K=exE):ExSeen K:=by
 unfold exL exE at h
 simp only [Prod.mk.injEq,List.cons.injEq] at h
 obtain ⟨h1,⟨a1,a2,a3,a4,a5,a6,a7,a8,a9,a10⟩,h3,h4,h5,h6,h7⟩:=h
 exact ⟨h1,a1,a2,a3,a4,a5,a6,a7,a8,a9,h3,h4,h5,h6,h7⟩
structure Seen (t:BT):Prop where
 fns:∀ p∈fis.zipIdx,fnO (t.get (fAd p.2))=fnX p/\cdO (t.get (fAd p.2 - 1))=some p.1.qual
 dvs:∀ p∈dvL,sqO (t.get p.2)=some (dfl p.1)
 ent:enO (t.get 3)=(entE,false)
 tup:tuL.map (fun a=>tuO (t.get a))=tuE
 cls:∀ c,ClsSeen (kOf t) c
 meth:∀ q∈methL,meL (kOf t) q=meE q
 ex:ExSeen (kOf t)
theorem seen_of {t:BT} (h0:∀ k < 4,lkT t (flK k) (dvK k)=lkE (fiK k) (dvK k)) (h:looksT t=looksE):Seen t:=by
 unfold looksT looksE at h
 obtain ⟨a,-,b,c⟩:=prod4 h
 obtain ⟨c,d,e,g⟩:=prod4 c
 have k:=fnAll h0 a
 exact ⟨k.1,k.2,b,c,cls_seen d,fun q m=>List.map_inj_left.mp e q m,ex_seen g⟩
theorem keep_all {t:BT} {h:Heap} (hk:Has t h) (z:Seen t) {a:Nat} (m:a∈fAL):keepIn (kOf t) (.ref a)=true:=by
 rw [<- fisLen] at m
 obtain ⟨p,mp,e⟩:=List.mem_map.mp m
 subst e
 have e:=(z.fns p mp).1
 rw [<- kOf_at hk (Bool.and_eq_true_iff.mp (List.all_eq_true.mp inK1 _ (fAd_mem p.2))).1] at e
 obtain ⟨c,d,fd,sl,e1,-⟩:=fd_of e
 unfold keepIn
 dsimp only
 rw [e1]
section
variable {t:BT} (w:World) (mg mb:Str->Option Value) (s:Shared)
noncomputable def sx (hk:Has t s.heap) (z:Seen t) (top:TopRead qL (looseW qL looseN) mg mb s.heap):Sx where
 prog:=pw
 w:=w
 K:=kOf t
 p:=qL
 loose:=looseW qL looseN
 mg:=mg
 mb:=mb
 cA:=cAd
 fA:=fAd
 base:=s.heap
 kin:=kOf_in hk
 top:=top
 sys:=by
  obtain ⟨o,-,e⟩:=hk sysModules (List.contains_iff_mem.mp (by kernel_rfl))
  rw [e];rfl
 os:=s.os
 fz0:=s.heap.get?
 fz0in:=fun a o e=>e
 clsGet:=fun c=>(z.cls c).get_
 clsDict:=fun c=>(z.cls c).dict
 clsAttr:=fun c n m=>⟨none,(z.cls c).attr n m,rfl⟩
 clsMeth:=fun q m=>⟨congrArg Prod.fst (z.meth q m),congrArg Prod.snd (z.meth q m)⟩
 fnKeep:=fun k=>keep_all hk z (fAd_mem k)
 clsKeep:=fun c=>(z.cls c).keep
 lvl:=⟨775,_,z.ex.lvl,z.ex.pget,z.ex.take,z.ex.rec_⟩
 clsSet:=fun c=>(z.cls c).set
 clsPlain:=fun c=>(z.cls c).over
 clsTake:=fun c=>(z.cls c).take
 cE:=52
 cP:=39
 xn := "PsError"
 xq := "PsError"
 xN:=51
 xbs:=[.ref 39]
 xsn:=[]
 xsub:=[]
 xcol:=none
 xdd:=none
 xk:=(some (.ref 43),none,some (.str "PsError" 246),some (.str "PsError" 254),some (.bool true))
 xlook:=z.ex.look
 xinit:=z.ex.init
 xfn:=z.ex.fn
 xset:=z.ex.set
 xget:=z.ex.get_
 xtold:=z.ex.told
 xkeep:=z.ex.keep
 xcall:=z.ex.call
 xtyp:=z.ex.typ
 xglob:=z.ex.glob
end
section
variable {t:BT} {w:World} {mg mb:Str->Option Value} {s:Shared} {hk:Has t s.heap} {z:Seen t} {top:TopRead qL (looseW qL looseN) mg mb s.heap}
theorem fn_at {k:Nat} {f:Fi} (e:fis[k]?=some f):∃ fd dl,FnAt (sx w mg mb s hk z top) k f fd/\DefsAt (sx w mg mb s hk z top) fd.defaults dl/\All2 (RelD (sx w mg mb s hk z top) (sx w mg mb s hk z top).fz0) (dfl k) dl:=by
 have q:=z.fns _ (zip_mem e)
 obtain ⟨fd,F⟩:=fn_seen hk e q.1 q.2
 obtain ⟨dl,d1,d2⟩:=dv_at (S:=sx w mg mb s hk z top) (fz:=(sx w mg mb s hk z top).fz0) rfl hk z.dvs e
 exact ⟨fd,dl,⟨F.look,F.code,F.qual,F.params,F.body,F.scope,F.globals,F.builtins,F.closure⟩,F.dv▸d1,d2⟩
theorem at1:fis[1]?=some (fi 1):=by kernel_rfl
theorem at84:fis[84]?=some (fi 84):=by kernel_rfl
theorem ok1:decide (FnOk (fi 1) 1 2)=true:=by kernel_rfl
theorem ok84:decide (FnOk (fi 84) 0 1)=true:=by kernel_rfl
theorem par1:(fi 1).par=[("self" : Str),("told" : Str)]:=by kernel_rfl
theorem nam84:(fi 84).names=[("self" : Str)]:=by kernel_rfl
theorem len84:(fi 84).scope.names.lookup ("len" : Str)=some .globalImplicit:=by kernel_rfl
theorem bod1:∃ p1 p2 p3 p4,(fi 1).body=[.Assign [.Attribute (.Name "self" p1) "told" p2] (.Name "told" p3) p4]:=⟨_,_,_,_,rfl⟩
theorem bod84:∃ p1 p2 p3 p4 p5,(fi 84).body=[.Return (some (.Call (.Name "len" p1) [.Attribute (.Name "self" p2) "saves" p3] [] p4)) p5]:=⟨_,_,_,_,_,rfl⟩
theorem std_ok:Std (sx w mg mb s hk z top):=by
 refine ⟨⟨fun k f e=>fn_at e,?_,?_,?_,z.ex.attr⟩,⟨fun c=>(z.cls c).makes,fun c=>(z.cls c).init,fun c=>(z.cls c).fn⟩⟩
 ·exact glob_all rfl hk rfl rfl (fun a o e=>kOf_in hk a o e) z.ent z.tup
 ·obtain ⟨fd,dl,F,D,R⟩:=fn_at (w:=w) (mg:=mg) (mb:=mb) (hk:=hk) (z:=z) (top:=top) at1
  obtain ⟨p1,p2,p3,p4,b⟩:=bod1
  exact ⟨fi 1,fd,dl,p1,p2,p3,p4,F,D,R.length,of_decide_eq_true ok1,par1,b⟩
 ·obtain ⟨fd,dl,F,D,R⟩:=fn_at (w:=w) (mg:=mg) (mb:=mb) (hk:=hk) (z:=z) (top:=top) at84
  obtain ⟨p1,p2,p3,p4,p5,b⟩:=bod84
  cases (show dl=[] from R)
  exact ⟨fi 84,fd,p1,p2,p3,p4,p5,F,D,of_decide_eq_true ok84,nam84,len84,b⟩
end
end Mine.C
namespace Mine.C
theorem dNe {P:Prop} (h:V.d .none = .d (.bool true)):P:=nomatch (show true=false from congrArg (fun v:V=>v.casesOn (motive:=fun z=>Bool) (fun x=>x.casesOn (motive_1:=fun z=>Bool) true (fun b=>false) (fun b=>true) (fun b=>true) (fun b=>true) (fun b=>true) (fun a b=>true) (fun b=>true) fun b=>true) (fun a b=>true) (fun a=>true) (fun a b=>true) (fun a=>true) (fun a=>true) fun a=>true) h)
section
variable {S:Sx} {s:Shared} {R:Result->Shared->Prop} {xs:List Int} {cv:Value}
theorem law_run (Y:Std S) (P:Plain) (hb:S.base=s.heap) (hg:s.gens=#[]) (ho:s.os=S.os) (hx:xs.length<=63) (hr:RelD S S.fz0 (.list (xs.map .int)) cv)
  (hR:∀ s2,(∀ b o,s.heap.get? b=some o->s2.heap.get? b=some o)->s2.gens=#[]->s2.os=s.os->R (.ok (.ret (.bool true))) s2) :
  codeAny (model S.prog S.w) callerA (.call (.ref (S.fA 132)) ⟨[cv],[]⟩) R s:=by
 obtain ⟨fd,dl,fa,hdf,rd⟩:=Y.fns.fn 132 (fi 132) c132.at_
 cases (show dl=[] from rd)
 have hk:S.K.In s.heap:=hb▸S.kin
 obtain ⟨hbd,lc,hn,sc,c13⟩:=fn_pre (s:=s) (cvs:=[cv]) fa.params hdf rd.length (of_decide_eq_true c132.ok) rfl hk
 obtain ⟨oc,od,osl,hl⟩:=fa.look
 have es:fd.scope=(fi 132).scope:=fa.scope
 refine codeAny_call_def (fd:=fd) (body:=(fi 132).body) (by decide) (hk _ _ hl) rfl (hb▸S.top.nolimit) (codeRec_of hk (fa.qual▸fa.code)) fa.body hbd (es▸sc.cell) (es▸fun y m=>?_) (fun h1 hns hk1=>?_) (es▸sc.co) (es▸sc.gen) (es▸sc.kind)
 ·obtain ⟨n,m,e⟩:=List.mem_map.mp m
  rw [<- e];exact c13 n m
 let env':=callEnv fd s.heap.objs.size (S.fA 132)
 have hkind:fd.scope.kind = .function:=es▸sc.kind
 have hfrs:∀ e∈[env'],e.scope.kind ≠ .module/\(e.frame=some env'.locals\/∃ a o,(a,Spc o)∈([] : Cl)/\e.frame=some a/\∀ vs,o.data ≠ .fields vs):=fun e he=>by
  cases List.mem_singleton.mp he
  exact ⟨fun q=>(nomatch hkind.symm.trans q),.inl rfl⟩
 have hroom:(callerA.deeper env').depth+1+2*19<=recursionLimit:=by show callerA.depth+1+1+2*19<=recursionLimit;decide
 have hunits:(callerA.deeper env').units+5+8*19<=cLine:=by show callerA.units+3+5+8*19<=cLine;decide
 let F':Fx S:={ A:=callerA.deeper env',env:=env',fr:=[env'],hid:=[],L:=env'.locals,names:=(fi 132).cx.names,d:=19,stack:=rfl,loc:=rfl,glob:=fa.globals,bi:=fa.builtins,kind:=hkind,nodup:=sc.nodup,frs:=hfrs,handled:=rfl,guards:=rfl,room:=hroom,units:=hunits }
 have a0:At F' (fun x=>(bound (fi 132).par ([cv]++[].drop ((fi 132).p2 (dfl 132).length 1).length)).reverse.lookup x) [] ⟨[],S.fz0⟩ { s with heap:=h1,toks:=s.toks+(bound (fi 132).par ([cv]++[].drop ((fi 132).p2 (dfl 132).length 1).length)).length } :=
  ⟨⟨rfl,List.nodup_nil,fun i a e=>(nomatch (show (none:Option Addr)=some a from e))⟩,[],⟨hns,fun b o e=>hk1 b o (hb▸e),by rw [hb];exact Nat.le_refl _⟩,fun p m=>(nomatch m),List.nodup_nil,List.nodup_nil,fun p m=>(nomatch (show p∈([] : Cl) from m)),fun p m=>(nomatch (show p∈([] : Cl) from m)),fun a o e=>e,fun a o e => .inl (S.fz0in a o e),hg,ho⟩
 have hp0:0 < (fi 132).par.length:=lc▸Nat.succ_pos _
 have hx0:=List.getElem?_eq_getElem hp0
 have lr:LocRel F' ⟨[],S.fz0⟩ ((([V.d (.list (xs.map .int))]++([] : List D).map V.d).map some++List.replicate 14 none)) (fun x=>(bound (fi 132).par ([cv]++[].drop ((fi 132).p2 (dfl 132).length 1).length)).reverse.lookup x):=fun i v e=>by
  cases i with
  | zero =>
   cases (show V.d (.list (xs.map .int))=v from Option.some.inj (Option.some.inj e))
   exact ⟨_,(List.getElem?_append_left hp0).trans hx0,.inl ⟨by show fd.scope.names.lookup _=_;rw [es];exact c13 _ (List.mem_of_getElem? hx0),cv,bound_at hn hx0 rfl,hr⟩⟩
  | succ i=>exact absurd (List.eq_of_mem_replicate (List.mem_of_getElem? (show (List.replicate 14 none)[i]?=some (some v) from e))) (fun q=>nomatch q)
 have R0:=Rd.mk (cx:=(fi 132).cx) (F:=F') (d:=19) es rfl (Nat.le_refl _) a0 lr Y.fns.glob
 refine wpAny_mono (Wss_ok b132 c132.chk R0 ⟨[],rfl,rfl⟩ (law_body (d:=0) (X:=fun b=>False) (Q:=fun v hp=>v = .d (.bool true)) Y P hx fun hp=>rfl)) (fun g s2 p=>?_) fun e s2 p=>?_
 ·cases p with
  | next l a b q=>exact dNe q
  | brk l a b q=>exact q.elim
  | cont l a b q=>exact q.elim
  | ret l r a q =>
   obtain ⟨news,i⟩:=a.inv
   cases (show _=V.d (.bool true) from q)
   cases (show _=Value.bool true from r)
   exact hR s2 (fun b o e=>i.fr.keep b o (hb▸e)) i.gens (i.os.trans ho.symm)
 ·cases p with | mk l r x=>exact x.elim
end
theorem runs_C {prog:Program} {w:World} {t:Sem Fin} {s:Shared} {R:Result->Shared->Prop} (z:s.asleep)
  (h:wpAny (model prog w) callerA t (fun fin s'=>∃ f,fin = .done f/\(R (.ok f) s'/\leftWithCleanup s'.gens=false)) (fun e s'=>R (.error e) s'/\leftWithCleanup s'.gens=false) s) :
  ∃ n r s' s'',schedN (denote table) prog w n (.single s ⟨t,.builtin "claim.caller" {},default,[]⟩) = .halted (outcomeOf r) s'/\PySem.runN (denote table) prog w n s ⟨t,.builtin "claim.caller" {},default,[]⟩ = .halted (outcomeOf r) s'/\s'.forget=s''.forget/\R r s'':=by
 obtain ⟨n,r,s1,s2,hs,hn,hf,hR⟩:=wp_halts_full (M:=model prog w) (R:=R) (c := .builtin "claim.caller" {}) (p:=default) z
  (Sem.wp_mono _ _ t (fun fin p s' q=>by obtain ⟨f,rfl,q⟩:=q;exact q) (fun e p s' q=>q) default s (h ⟨.builtin "claim.caller" {},none,none,[],none⟩ default caller_in rfl fun q m=>nomatch m))
 exact ⟨n,r,s2,s1,hs,hn,hf,hR⟩
end Mine.C
namespace Mine.C
noncomputable abbrev rowL:OpenRow:=PySem.Challenge.rw_pb0518_01.row
noncomputable abbrev clm:ClaimW:=rowL.toRowW.claim
theorem args_of {args:List WData} (h:clm.pre args=true):∃ xs:List Int,args=[.list (xs.map .int)]/\xs.length<=63:=by
 obtain ⟨h1,h2⟩:=pre_splitW (r:=rowL.toRowW) h
 obtain ⟨d,r,rfl,h3,h4⟩:=hasAllW_cons (e := .list .int) (es:=[]) h1
 cases hasAllW_nil h4
 obtain ⟨ds,rfl,h5⟩:=hasW_list h3
 obtain ⟨xs,rfl⟩:=items_int h5
 refine ⟨xs,rfl,Nat.not_lt.mp fun q=>?_⟩
 have h2:(match (match (match less? (.int 63) (.int (xs.map WData.int).length) |>.map WData.bool with | some (.bool b)=>some (.bool (!b)) | _=>none:Option WData) with | some (.bool false)=>some (.bool false) | some (.bool true)=>some (.bool true) | _=>none:Option WData) with | some (.bool true)=>true | _=>false)=true:=h2
 have e:less? (.int 63) (.int (xs.map WData.int).length)=some true:=by
  show some (decide ((63:Int) < ((xs.map WData.int).length:Nat)))=_
  rw [List.length_map]
  exact congrArg some (decide_eq_true (Int.ofNat_lt.mpr q))
 rw [e] at h2
 exact nomatch h2
theorem well_ints {P:Params} {h:Heap} {S:Sx} {fz:Fz} {xs:List Int}:∀ {vs:List Value},WellAll P h vs (xs.map .int)->All2 (RelD S fz) (xs.map D.int) vs:=by
 induction xs with
 | nil=>intro vs w;cases w;rfl
 | cons x r ih =>
  intro vs w
  cases w with | cons a b =>
  cases a with | int i t=>exact .mk ⟨t,rfl⟩ (ih b)
theorem well_script {P:Params} {h:Heap} {S:Sx} {xs:List Int} {vs:List Value} (w:WellAll P h vs [.list (xs.map .int)]):∃ cv,vs=[cv]/\RelD S h.get? (.list (xs.map .int)) cv:=by
 cases w with | cons a b =>
 cases b
 cases a with | list e q=>exact ⟨_,rfl,IsFl.mk e (RelDs.eq.mpr (well_ints q))⟩
theorem lawF:entF ("law" : Str)=some (.ref 1139):=by kernel_rfl
theorem law_glob {t:BT} {h:Heap} (hk:Has t h) (z:Seen t):nsIn (kOf t) mainGlobals ("law" : Str)=some (some (.ref 1139)):=by
 have he:enO (t.get mainGlobals)=(entE,false):=z.ent
 rw [<- kOf_at hk inK4] at he
 obtain ⟨r,r1,r2⟩:=ns_look he ("law" : Str)
 rw [lawF] at r2
 cases r with
 | none=>cases r2
 | some cv=>rw [r1,struckRef (Option.some.inj r2)]
theorem left_nil:leftWithCleanup #[]=false:=by kernel_rfl
theorem post0 (args:List WData):clm.post args (.bool true) args=true:=by kernel_rfl
theorem row_run {w:World} {s s1:Shared} {Q:Fin->Shared->Prop} {E:Value->Shared->Prop} (P:Plain) (G:Ground qL looseN [] (fun mg h=>True) w s (s.heap.nsMap mainGlobals) (s.heap.nsMap builtinsNs) s1.heap) (f:Facts s1.heap) (hg:s1.gens=#[]) {xs:List Int} (hx:xs.length<=63) {vs:List Value} (wl:WellAll w.params s1.heap vs [.list (xs.map .int)])
  (hQ:∀ s2,(∀ b o,s1.heap.get? b=some o->s2.heap.get? b=some o)->s2.gens=#[]->s2.os=s1.os->Q (.done (.ret (.bool true))) s2):wpAny (model pw w) callerA (callStub rowL.name vs).cur Q E s1:=by
 obtain ⟨t,hk,h0,h1⟩:=f
 have z:=seen_of h0 h1
 have top:=topRead_of G.T
 obtain ⟨cv,rfl,hr⟩:=well_script (S:=sx w _ _ s1 hk z top) wl
 refine wpAny_bind (lf ((looks_nsIn (kOf_in hk) (law_glob hk z)).at ?_))
 refine wpAny_bind (wpAny_call (codeAny_mono (law_run (S:=sx w _ _ s1 hk z top) (xs:=xs) (cv:=cv) (R:=fun r s2=>r = .ok (.ret (.bool true))/\Q (.done (.ret (.bool true))) s2) std_ok P rfl hg rfl hx hr fun s2 a b c=>⟨rfl,hQ s2 a b c⟩) fun r s2 q=>?_))
 obtain ⟨rfl,q⟩:=q
 exact wpAny_pure q
theorem noGens {g:Array GenState} (h:g=#[]) {Q:Prop} {i:Nat} {x:GenState} (e:g[i]?=some x):Q:=by subst h;exact nomatch e
structure Ran (w:World) (s:Shared) (args:List WData) (ord:List DictEntry->List DictEntry) (vs:List Value) (s1:Shared) (n:Nat) (s2:Shared):Prop where
 laid:layAllW [] (classAt s.heap) w.params ord args s=some (vs,s1)
 run:schedN (denote table) pw w n (.single s1 (callStub rowL.name vs)) = .halted (.done (.ret (.bool true))) s2
 keep:∀ b o,s1.heap.get? b=some o->s2.heap.get? b=some o
 life:s2.heap.life=s.heap.life
 os:s2.os=s.os
theorem ran_row {w:World} {s:Shared} (P:Plain) (z:s.asleep) (hg:s.gens=#[]) (G:Ground qL looseN [] (fun mg h=>True) w s (s.heap.nsMap mainGlobals) (s.heap.nsMap builtinsNs) s.heap) (f:Facts s.heap) {args:List WData} (hpre:clm.pre args=true) {ord:List DictEntry->List DictEntry} (hord:∀ l,(ord l).Perm l) :
  ∃ vs s1 n s2,Ran w s args ord vs s1 n s2:=by
 obtain ⟨⟨vs,s1⟩,hl⟩:=Option.isSome_iff_exists.mp (layAllW_isSome (P:=w.params) (ord:=ord) G.has args rowL.args s (pre_splitW hpre).1)
 have keeps:=layAllW_keeps _ _ _ hl
 have al:=layAllW_rest _ _ _ hl
 obtain ⟨xs,e,hx⟩:=args_of hpre
 have wl:=well_layAllW hord _ s _ hl s1.heap fun b o e=>e
 rw [e] at wl
 obtain ⟨n,r,s2,s3,hs,hn,hf,hR⟩:=runs_C (R:=fun r s2=>r = .ok (.ret (.bool true))/\(∀ b o,s1.heap.get? b=some o->s2.heap.get? b=some o)/\s2.os=s1.os) (Shared.asleep_of_life al.2.2.2 z)
  (row_run P (G.keeps (fun a b c d e=>trivial) keeps) (f.keeps keeps) (al.1.trans hg) hx wl fun s2 a b c=>⟨_,rfl,⟨rfl,a,c⟩,by rw [b];exact left_nil⟩)
 have hR1:=hR.1
 subst hR1
 have eh:=Shared.forget_eq hf
 exact ⟨vs,s1,n,s2,hl,hs,eh.1.symm▸hR.2.1,(runN_life _ _ _ hn).trans al.2.2.2,eh.2.2.2.1.trans (hR.2.2.trans al.2.2.1)⟩
theorem call_from {w:World} {s:Shared} {free:Addr->Prop} {gens:Prop} {kept:Heap->Prop} (P:Plain) (z:s.asleep) (hg:s.gens=#[]) (G:Ground qL looseN [] (fun mg h=>True) w s (s.heap.nsMap mainGlobals) (s.heap.nsMap builtinsNs) s.heap) (f:Facts s.heap) (hkept:∀ h,kept h) :
  clm.CallFrom (callStub rowL.name) w free gens kept s:=fun args hpre hlay ord hord =>
 (ran_row P z hg G f hpre hord).imp fun vs=>Exists.imp fun s1=>fun ⟨n,s2,R⟩=>⟨R.laid,n,_,s2,R.run,
  (reads_layAllW hord _ _ _ R.laid hlay s2.heap R.keep).elim fun as h => .inl ⟨.bool true,rfl,fun c=>rfl,⟨.bool true,_,[],as,ReadsW.bool true,h.1,post0 _,fun u=>⟨List.nodup_nil,fun a m=>(nomatch m),fun a m=>(nomatch m)⟩,fun a b=>ident_freeW rfl rfl rfl _ _⟩,fun i e=>(nomatch e),fun b o e a c d => .inl (R.keep b o e),fun i m=>(nomatch m)⟩,
  fun a i x e=>noGens hg e,hkept _,congrArg Life.seen R.life,Shared.rest_eq R.os⟩
theorem chains0:chainsOk qL=true:=by kernel_rfl
theorem opens0:opensWell pw=true:=by kernel_rfl
theorem bare0:pw.bare:=⟨rfl,rfl,rfl,rfl,rfl,by decide +kernel⟩
theorem def1:(defOf qL ("law" : Str)).isSome=true:=by kernel_rfl
theorem def2:(defOf qL ("law" : Str)).map (fun x=>some (x.1.params,x.1.body,x.1.scope))=some (pw.theDef ("law" : Str)):=by kernel_rfl
theorem def3:(defOf qL ("law" : Str)).map (fun x=>kwWritten? x.1.params.kwonlyargs x.1.params.kw_defaults)=(defOf qL ("law" : Str)).map fun x=>some x.2:=by kernel_rfl
theorem def0:∃ d kwd,defOf qL ("law" : Str)=some (d,kwd)/\pw.theDef ("law" : Str)=some (d.params,d.body,d.scope)/\kwWritten? d.params.kwonlyargs d.params.kw_defaults=some kwd:=by
 obtain ⟨x,e⟩:=Option.isSome_iff_exists.mp def1
 have h2:=def2
 have h3:=def3
 rw [e] at h2 h3
 exact ⟨x.1,x.2,e,(Option.some.inj h2).symm,Option.some.inj h3⟩
theorem wit0:rowL.toRowW.promised:=⟨[.list []],rfl,rfl⟩
theorem row_holds (P:Plain):clm.HoldsOpenBy (callStub rowL.name) (if rowL.pinned then [rowL.name] else []) rowL.keeps rowL.writes:=by
 refine ⟨⟨bare0,opens0,rfl⟩,wit0.imp fun a h=>⟨h.1,(Bool.and_eq_true_iff.mp h.2).1⟩,fun w=>?_⟩
 have B:=left0.behind (XP:=fun mg h=>True) (fun s h=>trivial) chains0 w
 refine ⟨B.1,fun s hs=>?_⟩
 obtain ⟨s0,hf,hg0,s1,hT,z,hgens,hg,G,y⟩:=B.2 s hs
 refine ⟨s0,hf,hg0,s1,hT,fun n hn=>?_,fun x m=>(nomatch m),fun x m=>(nomatch m),call_from P z (Array.eq_empty_of_size_eq_zero (beq_iff_eq.mp hgens)) G (of_eq_true y) fun h e=>(nomatch e)⟩
 cases List.mem_singleton.mp (show n∈[("law" : Str)] from hn)
 obtain ⟨d,kwd,h1,h2,h3⟩:=def0
 exact pinned_of_view hg G h1 h2 h3
end Mine.C
namespace Mine.C
noncomputable abbrev lw:OpenLaw:=PySem.Challenge.rw_pb0518_01
theorem sd2:namesResolve pw=true:=by rw [Fast.te8377067652309620493];kernel_rfl
theorem sd4:noRoadLSs { strict := !(importedModules pw.main.body).all cThrough.contains,foot:=none,bare:=(["vars","dir","locals"] : List Str).filter (readsOut pw pw.main.body) } pw.main.body=true:=by rw [Fast.te8326940854005059898];kernel_rfl
theorem sd5:namesMeet pw pw.main.body (fun x n=>attrL n)=true:=by rw [Fast.te17119622794617984870];kernel_rfl
theorem sd26:noRoadLSs { strict:=true,foot:=some lw.bound',writes:=lw.writes,may:=lw.may } lw.footing=true:=by rw [Fast.te8326940854005059898];kernel_rfl
theorem sd30:(lw.bound'.all fun n => !builtinNamed n||lw.about==[n] || !lw.reads n)=true:=by kernel_rfl
theorem sd37:namesMeet pw lw.above (fun x n => !lw.own.contains n)=true:=by rw [Fast.te17119622794617984870];kernel_rfl
theorem said0:lw.wellSaid=true:=by
 unfold OpenLaw.wellSaid OpenRow.wellSaid OpenRow.partSaid looksOpen
 repeat' with_reducible apply look_both
 iterate 2 kernel_rfl
 exact sd2
 kernel_rfl
 exact sd4
 exact sd5
 iterate 20 kernel_rfl
 exact sd26
 iterate 3 kernel_rfl
 exact sd30
 iterate 6 kernel_rfl
 exact sd37
 kernel_rfl
theorem the_claim:PySem.Challenge.rw_pb0518_01.Holds:=holds_law said0 fun h=>⟨h,wit0,row_holds plain⟩
end Mine.C
end Mine.Internal
theorem PySem.Challenge.cw_pb0518_01_holds : PySem.Challenge.rw_pb0518_01.Holds :=
 Mine.Internal.Mine.C.the_claim
