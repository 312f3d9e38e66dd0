import PyProof.Rows.All
import Wide.All
import OpenK.AllK
import Wide.FinOn
import PySem.Challenge.RW_nz0401_01
set_option maxRecDepth 100000
set_option Elab.async false
set_option linter.all false
set_option genSizeOf false
set_option genInjectivity false
set_option tactic.hygienic false
namespace Mine.Internal
open PySem PySem.W PySem.Spec PySem.Calls
section
noncomputable abbrev Nm:=List Nat
noncomputable def toS (n:Nm):Str:=⟨n.toArray⟩
theorem toS_inj {a b:Nm} (h:toS a = toS b):a = b:=congrArg (fun s:Str=>s.cps.toList) h
theorem toS_eq {a b:Nm}:(toS a = toS b) = (a = b):=propext ⟨toS_inj,congrArg _⟩
inductive PV where
 | none
 | bool (b:Bool)
 | int (i:Int)
 | str (s:Nm)
 | tup (l:List PV)
 | lst (l:List PV)
 | dct (l:List (Nm × PV))
 | reg (k:Nat)
 | tdc (l:List (List Int))
 | idc (l:List (Int × PV))
structure RC where
 addr:Addr
 d:Addr
structure Fz where
 rs:List RC
 fz:Addr -> Option Obj
noncomputable def tupO (vs:List Value) (n:Nat):Obj:={ cls:=.type "tuple",data:=.seq vs.toArray n }
noncomputable def lstO (vs:List Value) (n:Nat):Obj:={ cls:=.type "list",data:=.seq vs.toArray n }
structure PW where
 prog:Program
 w:World
noncomputable abbrev PW.sk (P:PW):=strKind P.prog P.w
noncomputable abbrev PW.ik (P:PW):=intKind P.prog P.w
noncomputable abbrev PW.M (P:PW):Model:=model P.prog P.w
section
variable (P:PW) (f:Addr -> Option Obj)
structure DctO (o:Obj) (kvs:List (Str × Value)):Prop where
 x:o.ExactDict
 e:∃ es ep,o.data = .dict es ep /\ KeysOf P.sk es /\ Pairs P.sk es.toList kvs
 nd:(kvs.map (fun q=>q.1)).Nodup
structure IctO (o:Obj) (kvs:List (Int × Value)):Prop where
 x:o.ExactDict
 e:∃ es ep,o.data = .dict es ep /\ KeysOf P.ik es /\ Pairs P.ik es.toList kvs
 nd:(kvs.map (fun q=>q.1)).Nodup
structure TctO (o:Obj) (xs:List (List Int × Addr × Value)):Prop where
 x:o.ExactDict
 e:∃ es ep,o.data = .dict es ep /\ es.toList = xs.map (entryOfKey (tupleKind P.ik))
 k:∀ x ∈ xs,∃ vs n,f x.2.1 = some (tupO vs n) /\ ItemsAre P.ik x.1 vs
 nd:(xs.map (fun q=>q.1)).Nodup
variable {P f} {h:Heap} {a:Addr} {o:Obj}
theorem DctO.of {kvs:List (Str × Value)} (x:h.DictOf P.sk a kvs):∃ o,h.get? a = some o /\ DctO P o kvs:=by obtain ⟨o,es,ep,ho,hx,hd,hk,hp,hn⟩:=x; exact ⟨o,ho,hx,⟨es,ep,hd,hk,hp⟩,hn⟩
theorem DctO.at {kvs:List (Str × Value)} (x:DctO P o kvs) (ho:h.get? a = some o):h.DictOf P.sk a kvs:=by obtain ⟨es,ep,hd,hk,hp⟩:=x.e; exact ⟨o,es,ep,ho,x.x,hd,hk,hp,x.nd⟩
theorem IctO.of {kvs:List (Int × Value)} (x:h.DictOf P.ik a kvs):∃ o,h.get? a = some o /\ IctO P o kvs:=by obtain ⟨o,es,ep,ho,hx,hd,hk,hp,hn⟩:=x; exact ⟨o,ho,hx,⟨es,ep,hd,hk,hp⟩,hn⟩
theorem IctO.at {kvs:List (Int × Value)} (x:IctO P o kvs) (ho:h.get? a = some o):h.DictOf P.ik a kvs:=by obtain ⟨es,ep,hd,hk,hp⟩:=x.e; exact ⟨o,es,ep,ho,x.x,hd,hk,hp,x.nd⟩
theorem tupKey_of {vs:List Value} {n:Nat} {ks:List Int} (e:h.get? a = some (tupO vs n)) (i:ItemsAre P.ik ks vs):IsTupleKey P.ik h ks a :=
 ⟨_,vs.toArray,n,e,rfl,rfl,i⟩
theorem TctO.at {xs:List (List Int × Addr × Value)} (k:∀ a o,f a = some o -> h.get? a = some o) (x:TctO P f o xs) (ho:h.get? a = some o):h.DictOfH (tupleKind P.ik) a xs:=by obtain ⟨es,ep,hd,he⟩:=x.e; exact ⟨o,es,ep,ho,x.x,hd,he,fun y hy=>let ⟨_,_,e,i⟩:=x.k y hy; tupKey_of (k _ _ e) i,x.nd⟩
end
inductive IsInt (i:Int):Value -> Prop | mk (t:Tok):IsInt i (.int i t)
inductive IsStr (s:Nm):Value -> Prop | mk (t:Tok):IsStr s (.str (toS s) t)
section
variable (P:PW) (f:Addr -> Option Obj)
inductive IsSq (mk:List Value -> Nat -> Obj) (A:List Value -> Prop):Value -> Prop
 | mk (a:Addr) (vs:List Value) (n:Nat) (e:f a = some (mk vs n)) (g:A vs):IsSq mk A (.ref a)
inductive IsD (A:List (Str × Value) -> Prop):Value -> Prop
 | mk (a:Addr) (o:Obj) (kvs:List (Str × Value)) (e:f a = some o) (m:(a == sysModules) = false) (d:DctO P o kvs) (g:A kvs):IsD A (.ref a)
inductive IsI (A:List (Int × Value) -> Prop):Value -> Prop
 | mk (a:Addr) (o:Obj) (kvs:List (Int × Value)) (e:f a = some o) (m:(a == sysModules) = false) (d:IctO P o kvs) (g:A kvs):IsI A (.ref a)
inductive IsT (l:List (List Int)):Value -> Prop
 | mk (a:Addr) (o:Obj) (xs:List (List Int × Addr × Value)) (e:f a = some o) (m:(a == sysModules) = false) (d:TctO P f o xs) (g:xs.map (fun q=>q.1) = l):IsT l (.ref a)
end
inductive IsR (rs:List RC) (k:Nat):Value -> Prop | mk (c:RC) (e:rs[k]? = some c):IsR rs k (.ref c.addr)
inductive IsN {α:Type}:List α -> Prop | mk:IsN []
inductive IsC {α:Type} (b:Value -> α) (A:Value -> Prop) (B:List α -> Prop):List α -> Prop | mk (v:Value) (r:List α) (x:A v) (y:B r):IsC b A B (b v :: r)
section
variable (P:PW) (Φ:Fz)
mutual
noncomputable def VR:PV -> Value -> Prop
 | .none,v=>v = .none
 | .bool b,v=>v = .bool b
 | .int i,v=>IsInt i v
 | .str s,v=>IsStr s v
 | .tup l,v=>IsSq Φ.fz tupO (VRs l) v
 | .lst l,v=>IsSq Φ.fz lstO (VRs l) v
 | .dct l,v=>IsD P Φ.fz (VRd l) v
 | .reg k,v=>IsR Φ.rs k v
 | .tdc l,v=>IsT P Φ.fz l v
 | .idc l,v=>IsI P Φ.fz (VRi l) v
noncomputable def VRs:List PV -> List Value -> Prop
 | [],vs=>IsN vs
 | p :: l,vs=>IsC id (VR p) (VRs l) vs
noncomputable def VRd:List (Nm × PV) -> List (Str × Value) -> Prop
 | [],kvs=>IsN kvs
 | (n,p) :: l,kvs=>IsC (Prod.mk (toS n)) (VR p) (VRd l) kvs
noncomputable def VRi:List (Int × PV) -> List (Int × Value) -> Prop
 | [],kvs=>IsN kvs
 | (n,p) :: l,kvs=>IsC (Prod.mk n) (VR p) (VRi l) kvs
end
end
structure Fz.le (Φ Φ':Fz):Prop where
 r:Φ.rs <+: Φ'.rs
 f:∀ a o,Φ.fz a = some o -> Φ'.fz a = some o
theorem get_le {Φ Φ':Fz} (h:Fz.le Φ Φ') {k:Nat} {c:RC} (e:Φ.rs[k]? = some c):Φ'.rs[k]? = some c :=
 let ⟨_,hr⟩:=h.r; hr ▸ (List.getElem?_append_left (List.getElem?_eq_some_iff.mp e).1).trans e
section
variable {P:PW} {f f':Addr -> Option Obj}
theorem IsSq.mono {mk:List Value -> Nat -> Obj} {A B:List Value -> Prop} {v:Value} (h:∀ a o,f a = some o -> f' a = some o) (k:∀ vs,A vs -> B vs) (x:IsSq f mk A v):IsSq f' mk B v:=by obtain ⟨a,vs,n,e,g⟩:=x; exact ⟨a,vs,n,h _ _ e,k _ g⟩
theorem IsD.mono {A B:List (Str × Value) -> Prop} {v:Value} (h:∀ a o,f a = some o -> f' a = some o) (k:∀ vs,A vs -> B vs) (x:IsD P f A v):IsD P f' B v:=by obtain ⟨a,o,vs,e,m,d,g⟩:=x; exact ⟨a,o,vs,h _ _ e,m,d,k _ g⟩
theorem IsI.mono {A B:List (Int × Value) -> Prop} {v:Value} (h:∀ a o,f a = some o -> f' a = some o) (k:∀ vs,A vs -> B vs) (x:IsI P f A v):IsI P f' B v:=by obtain ⟨a,o,vs,e,m,d,g⟩:=x; exact ⟨a,o,vs,h _ _ e,m,d,k _ g⟩
theorem TctO.mono (h:∀ a o,f a = some o -> f' a = some o) {o:Obj} {xs:List (List Int × Addr × Value)} (x:TctO P f o xs):TctO P f' o xs :=
 ⟨x.x,x.e,fun y hy=>let ⟨vs,n,e,i⟩:=x.k y hy; ⟨vs,n,h _ _ e,i⟩,x.nd⟩
theorem IsT.mono {l:List (List Int)} {v:Value} (h:∀ a o,f a = some o -> f' a = some o) (x:IsT P f l v):IsT P f' l v:=by obtain ⟨a,o,vs,e,m,d,g⟩:=x; exact ⟨a,o,vs,h _ _ e,m,d.mono h,g⟩
theorem IsC.mono {α:Type} {b:Value -> α} {A A':Value -> Prop} {B B':List α -> Prop} {l:List α} (h:∀ v,A v -> A' v) (k:∀ r,B r -> B' r) (x:IsC b A B l):IsC b A' B' l:=by obtain ⟨v,r,x,y⟩:=x; exact ⟨v,r,h _ x,k _ y⟩
end
section
variable {P:PW} {Φ Φ':Fz}
theorem IsR.mono {k:Nat} {v:Value} (h:Fz.le Φ Φ') (x:IsR Φ.rs k v):IsR Φ'.rs k v:=let ⟨c,e⟩:=x; ⟨c,get_le h e⟩
mutual
theorem VR.mono (h:Fz.le Φ Φ'):∀ (p:PV) (v:Value),VR P Φ p v -> VR P Φ' p v
 | .none,_,x=>x
 | .bool _,_,x=>x
 | .int _,_,x=>x
 | .str _,_,x=>x
 | .tup l,_,x=>IsSq.mono h.f (VRs.mono h l) x
 | .lst l,_,x=>IsSq.mono h.f (VRs.mono h l) x
 | .dct l,_,x=>IsD.mono h.f (VRd.mono h l) x
 | .reg _,_,x=>IsR.mono h x
 | .tdc _,_,x=>IsT.mono h.f x
 | .idc l,_,x=>IsI.mono h.f (VRi.mono h l) x
theorem VRs.mono (h:Fz.le Φ Φ'):∀ (p:List PV) (v:List Value),VRs P Φ p v -> VRs P Φ' p v
 | [],_,x=>x
 | p :: l,_,x=>IsC.mono (VR.mono h p) (VRs.mono h l) x
theorem VRd.mono (h:Fz.le Φ Φ'):∀ (p:List (Nm × PV)) (v:List (Str × Value)),VRd P Φ p v -> VRd P Φ' p v
 | [],_,x=>x
 | (_,p) :: l,_,x=>IsC.mono (VR.mono h p) (VRd.mono h l) x
theorem VRi.mono (h:Fz.le Φ Φ'):∀ (p:List (Int × PV)) (v:List (Int × Value)),VRi P Φ p v -> VRi P Φ' p v
 | [],_,x=>x
 | (_,p) :: l,_,x=>IsC.mono (VR.mono h p) (VRi.mono h l) x
end
theorem VRs.length {p:List PV} {v:List Value} (x:VRs P Φ p v):v.length = p.length:=by
 induction p generalizing v with
 | nil=>cases x; rfl
 | cons p l ih=>obtain ⟨v,r,_,y⟩:=x; exact congrArg (fun q=>q + 1) (ih y)
theorem VRs.append {p q:List PV} {v u:List Value} (x:VRs P Φ p v) (y:VRs P Φ q u):VRs P Φ (p ++ q) (v ++ u):=by
 induction p generalizing v with
 | nil=>cases x; exact y
 | cons p l ih=>obtain ⟨v,r,x,z⟩:=x; exact ⟨v,r ++ u,x,ih z⟩
theorem VRs.get {p:List PV} {v:List Value} (x:VRs P Φ p v) {i:Nat} {z:PV} (h:p[i]? = some z):∃ y,v[i]? = some y /\ VR P Φ z y:=by
 induction p generalizing v i with
 | nil=>cases h
 | cons p l ih =>
  obtain ⟨v,r,x,y⟩:=x
  cases i with
  | zero=>cases h; exact ⟨v,rfl,x⟩
  | succ i=>exact ih y h
end
end
section
inductive RA where
 | inst (C:Addr) (fs:List (Nm × PV))
 | dict (fs:List (Nm × PV))
 | list (l:List PV)
 | idict (fs:List (Int × PV))
noncomputable abbrev Gs:=List RA
noncomputable def ras (R:List RC):List Addr:=R.map (fun q=>q.addr)
noncomputable def rds (R:List RC):List Addr:=R.map (fun q=>q.d)
inductive Reg (R:List RC) (a:Addr):Prop
 | a (h:a ∈ ras R)
 | d (h:a ∈ rds R)
section
variable (P:PW) (h:Heap) (Φ:Fz) (c:RC)
inductive DD (d:Addr) (fs:List (Nm × PV)):Prop | mk (m:(d == sysModules) = false) (kvs:List (Str × Value)) (v:VRd P Φ fs kvs) (e:h.DictOf P.sk d kvs)
structure RegI (C:Addr) (fs:List (Nm × PV)):Prop where
 o:h.get? c.addr = some (instObj C c.d)
 ne:c.addr ≠ c.d
 k:DD P h Φ c.d fs
inductive RegL (l:List PV):Prop | mk (e:c.d = c.addr) (vs:List Value) (n:Nat) (v:VRs P Φ l vs) (o:h.get? c.d = some (lstO vs n))
inductive RegD (fs:List (Nm × PV)):Prop | mk (e:c.d = c.addr) (k:DD P h Φ c.d fs)
inductive RegX (fs:List (Int × PV)):Prop | mk (e:c.d = c.addr) (m:(c.d == sysModules) = false) (kvs:List (Int × Value)) (v:VRi P Φ fs kvs) (o:h.DictOf P.ik c.d kvs)
noncomputable def RegH:RA -> Prop
 | .inst C fs=>RegI P h Φ c C fs
 | .dict fs=>RegD P h Φ c fs
 | .list l=>RegL P h Φ c l
 | .idict fs=>RegX P h Φ c fs
end
inductive IsG (A:RA -> Prop) (B:Gs -> Prop):Gs -> Prop | mk (a:RA) (G:Gs) (x:A a) (y:B G):IsG A B (a :: G)
noncomputable def RegsH (P:PW) (h:Heap) (Φ:Fz):List RC -> Gs -> Prop
 | [],g=>IsN g
 | c :: R,g=>IsG (RegH P h Φ c) (RegsH P h Φ R) g
structure Sep (R:List RC):Prop where
 nd:(rds R).Nodup
 k:∀ a ∈ rds R,∀ c ∈ R,c.addr = a -> c.d = a
structure Core (P:PW) (h0:Heap) (Φ0:Fz) (Φ:Fz) (h:Heap) (G:Gs):Prop where
 frz:∀ a o,Φ.fz a = some o -> h.get? a = some o
 mono:Fz.le Φ0 Φ
 new:∀ a o,Φ.fz a = some o -> (∃ o',Φ0.fz a = some o') \/ h0.get? a = none
 keep:∀ a o,h0.get? a = some o -> a ∉ rds Φ0.rs -> h.get? a = some o
 regs:RegsH P h Φ Φ.rs G
 rfr:∀ d,Reg Φ.rs d -> Φ.fz d = none
 rnew:∀ c ∈ Φ.rs,c ∈ Φ0.rs \/ (h0.get? c.d = none /\ h0.get? c.addr = none)
 sep:Sep Φ.rs
section
variable {P:PW} {h0 h h':Heap} {Φ0 Φ Φ' Φ'':Fz} {G G':Gs} {a:Addr} {o:Obj}
theorem Fz.le_refl:Fz.le Φ Φ:=⟨List.prefix_refl _,fun zq zq e=>e⟩
theorem Fz.le_trans (a:Fz.le Φ Φ') (b:Fz.le Φ' Φ''):Fz.le Φ Φ'':=⟨a.1.trans b.1,fun x o e=>b.2 x o (a.2 x o e)⟩
theorem mem_rds {R:List RC} {c:RC} (h:c ∈ R):c.d ∈ rds R:=List.mem_map_of_mem h
theorem mem_ras {R:List RC} {c:RC} (h:c ∈ R):c.addr ∈ ras R:=List.mem_map_of_mem h
theorem rds_el {R:List RC} {C:Addr -> Prop} (h:a ∈ rds R) (k:∀ c ∈ R,C c.d):C a:=by obtain ⟨c,hc,rfl⟩:=List.mem_map.mp h; exact k c hc
theorem ras_el {R:List RC} {C:Addr -> Prop} (h:a ∈ ras R) (k:∀ c ∈ R,C c.addr):C a:=by obtain ⟨c,hc,rfl⟩:=List.mem_map.mp h; exact k c hc
theorem Reg.el {R:List RC} {C:Addr -> Prop} (h:Reg R a) (k:∀ c ∈ R,C c.addr) (k2:∀ c ∈ R,C c.d):C a:=by cases h with | a h=>exact ras_el h k | d h=>exact rds_el h k2
theorem rds_mono (h:Fz.le Φ Φ') (e:a ∈ rds Φ.rs):a ∈ rds Φ'.rs:=rds_el (C:=(· ∈ rds Φ'.rs)) e fun zq hc=>mem_rds (h.r.subset hc)
theorem ras_mono (h:Fz.le Φ Φ') (e:a ∈ ras Φ.rs):a ∈ ras Φ'.rs:=ras_el (C:=(· ∈ ras Φ'.rs)) e fun zq hc=>mem_ras (h.r.subset hc)
theorem Reg.mono (h:Fz.le Φ Φ') (e:Reg Φ.rs a):Reg Φ'.rs a:=by cases e with | a e=>exact .a (ras_mono h e) | d e=>exact .d (rds_mono h e)
theorem no_live {C:Prop} (e:h.get? a = none) (x:∃ o,h.get? a = some o):C:=by obtain ⟨o,x⟩:=x; exact nomatch e.symm.trans x
theorem DictOf.live {α:Type} [DecidableEq α] {k:KeyKind P.prog P.w α} {kvs:List (α × Value)} (x:h.DictOf k a kvs):∃ o,h.get? a = some o:=by obtain ⟨o,_,_,ho,_⟩:=x; exact ⟨o,ho⟩
theorem RegH.live {c:RC} {r:RA} (x:RegH P h Φ c r):(∃ o,h.get? c.addr = some o) /\ ∃ o,h.get? c.d = some o:=by
 cases r with
 | inst C fs=>obtain ⟨m,kvs,v,e⟩:=x.k; exact ⟨⟨_,x.o⟩,DictOf.live e⟩
 | dict fs=>obtain ⟨i,m,kvs,v,e⟩:=x; exact ⟨i ▸ DictOf.live e,DictOf.live e⟩
 | list l=>obtain ⟨i,vs,n,_,ho⟩:=x; exact ⟨i ▸ ⟨_,ho⟩,_,ho⟩
 | idict fs=>obtain ⟨i,m,kvs,v,e⟩:=x; exact ⟨i ▸ DictOf.live e,DictOf.live e⟩
theorem RegsH.mem {R:List RC} {G:Gs} (x:RegsH P h Φ R G):∀ c ∈ R,∃ r,RegH P h Φ c r:=by
 induction R generalizing G with
 | nil=>intro c hc; exact nomatch hc
 | cons c R ih =>
  obtain ⟨r,G,x,y⟩:=x
  intro c' hc
  cases hc with
  | head=>exact ⟨r,x⟩
  | tail _ hc=>exact ih y c' hc
theorem RegsH.live {R:List RC} (x:RegsH P h Φ R G) (hb:Reg R a):∃ o,h.get? a = some o :=
 hb.el (C:=fun a=>∃ o,h.get? a = some o) (fun c hc=>by obtain ⟨r,y⟩:=x.mem c hc; exact y.live.1) fun c hc=>by obtain ⟨r,y⟩:=x.mem c hc; exact y.live.2
theorem Core.noneD (x:Core P h0 Φ0 Φ h G) (e:h.get? a = none):h0.get? a = none:=by
 cases q:h0.get? a with
 | none=>rfl
 | some o =>
  refine Decidable.byCases (fun hd:a ∈ rds Φ0.rs=>no_live e (x.regs.live (.d (rds_mono x.mono hd)))) fun hd=>?_
  exact nomatch e.symm.trans (x.keep a o q hd)
theorem Core.trans {h1:Heap} {Φ1:Fz} {G1:Gs} (x:Core P h0 Φ0 Φ1 h1 G1) (y:Core P h1 Φ1 Φ h G):Core P h0 Φ0 Φ h G where
 frz:=y.frz
 mono:=Fz.le_trans x.mono y.mono
 new:=fun a o e=>(y.new a o e).elim (fun ⟨o',e'⟩=>x.new a o' e') fun e'=>.inr (x.noneD e')
 keep:=fun a o e hd=>y.keep a o (x.keep a o e hd) fun hd1=>by
  obtain ⟨c,hc,rfl⟩:=List.mem_map.mp hd1
  exact (x.rnew c hc).elim (fun hc=>hd (mem_rds hc)) fun hc=>nomatch hc.1.symm.trans e
 regs:=y.regs
 rfr:=y.rfr
 rnew:=fun c hc=>(y.rnew c hc).elim (x.rnew c) fun hc=>.inr ⟨x.noneD hc.1,x.noneD hc.2⟩
 sep:=y.sep
theorem DictOf.keeps {α:Type} [DecidableEq α] {k:KeyKind P.prog P.w α} {kvs:List (α × Value)} (x:h.DictOf k a kvs) (f:∀ o,h.get? a = some o -> h'.get? a = some o):h'.DictOf k a kvs:=by
 obtain ⟨o,es,ep,ho,r⟩:=x; exact ⟨o,es,ep,f _ ho,r⟩
theorem DD.keeps {fs:List (Nm × PV)} (x:DD P h Φ a fs) (hΦ:Fz.le Φ Φ') (f:∀ o,h.get? a = some o -> h'.get? a = some o):DD P h' Φ' a fs:=by
 obtain ⟨m,kvs,v,e⟩:=x; exact ⟨m,kvs,VRd.mono hΦ _ _ v,DictOf.keeps e f⟩
theorem RegH.keeps {c:RC} {r:RA} (x:RegH P h Φ c r) (hΦ:Fz.le Φ Φ') (k:∀ o,h.get? c.addr = some o -> h'.get? c.addr = some o) (k2:∀ o,h.get? c.d = some o -> h'.get? c.d = some o):RegH P h' Φ' c r:=by
 cases r with
 | inst C fs=>exact ⟨k _ x.o,x.ne,x.k.keeps hΦ k2⟩
 | dict fs=>exact ⟨x.1,x.2.keeps hΦ k2⟩
 | list l=>obtain ⟨i,vs,n,v,ho⟩:=x; exact ⟨i,vs,n,VRs.mono hΦ _ _ v,k2 _ ho⟩
 | idict fs=>obtain ⟨i,m,kvs,v,e⟩:=x; exact ⟨i,m,kvs,VRi.mono hΦ _ _ v,DictOf.keeps e k2⟩
theorem RegsH.keeps (hΦ:Fz.le Φ Φ') {R:List RC} {G:Gs} (x:RegsH P h Φ R G) (k:∀ b o,Reg R b -> h.get? b = some o -> h'.get? b = some o):RegsH P h' Φ' R G:=by
 induction R generalizing G with
 | nil=>exact x
 | cons c R ih =>
  obtain ⟨r,G,x,y⟩:=x
  exact ⟨r,G,x.keeps hΦ (fun o=>k _ o (.a (.head _))) (fun o=>k _ o (.d (.head _))),ih y fun b o hb=>k b o (by cases hb with | a h=>exact .a (.tail _ h) | d h=>exact .d (.tail _ h))⟩
theorem Core.step (x:Core P h0 Φ0 Φ h G) (k:∀ b o,(Φ.fz b = some o \/ h0.get? b = some o \/ Reg Φ.rs b) -> h.get? b = some o -> h'.get? b = some o):Core P h0 Φ0 Φ h' G where
 frz:=fun a o e=>k a o (.inl e) (x.frz a o e)
 mono:=x.mono
 new:=x.new
 keep:=fun a o e hd=>k a o (.inr (.inl e)) (x.keep a o e hd)
 regs:=x.regs.keeps Fz.le_refl fun b o hb=>k b o (.inr (.inr hb))
 rfr:=x.rfr
 rnew:=x.rnew
 sep:=x.sep
theorem Core.keepAll (x:Core P h0 Φ0 Φ h G) (k:∀ b o,h.get? b = some o -> h'.get? b = some o):Core P h0 Φ0 Φ h' G:=x.step fun b o zq=>k b o
theorem Core.turn (x:Core P h0 Φ0 Φ h G) (hf:Φ.fz a = none) (h00:h0.get? a = none) (hr:¬ Reg Φ.rs a) (k:∀ b o,b ≠ a -> h.get? b = some o -> h'.get? b = some o):Core P h0 Φ0 Φ h' G :=
 x.step fun b o q=>k b o fun e=>by subst e; exact q.elim (fun q=>nomatch hf.symm.trans q) fun q=>q.elim (fun q=>nomatch h00.symm.trans q) hr
noncomputable def Fz.put (Φ:Fz) (a:Addr) (o:Obj):Fz:=⟨Φ.rs,fun b=>if b = a then some o else Φ.fz b⟩
theorem Fz.put_self:(Fz.put Φ a o).fz a = some o:=if_pos rfl
theorem Fz.put_ne {b:Addr} (e:b ≠ a):(Fz.put Φ a o).fz b = Φ.fz b:=if_neg e
theorem Fz.put_el {b:Addr} {o':Obj} {C:Prop} (h:(Fz.put Φ a o).fz b = some o') (k:b = a -> o = o' -> C) (k2:b ≠ a -> Φ.fz b = some o' -> C):C :=
 Decidable.byCases (fun q:b = a=>k q (Option.some.inj ((if_pos q).symm.trans h))) fun q=>k2 q ((if_neg q).symm.trans h)
theorem Fz.le_put (e:Φ.fz a = none):Fz.le Φ (Fz.put Φ a o):=⟨List.prefix_refl _,fun b zq h=>(if_neg fun q:b = a=>nomatch (q ▸ e).symm.trans h).trans h⟩
theorem Core.freeze (x:Core P h0 Φ0 Φ h G) (ho:h.get? a = some o) (hf:Φ.fz a = none) (h00:h0.get? a = none) (hr:¬ Reg Φ.rs a):Core P h0 Φ0 (Fz.put Φ a o) h G where
 frz:=fun b o' e=>Fz.put_el e (fun q r=>q ▸ r ▸ ho) fun zq e=>x.frz b o' e
 mono:=Fz.le_trans x.mono (Fz.le_put hf)
 new:=fun b o' e=>Fz.put_el e (fun q zq=>.inr (q ▸ h00)) fun zq e=>x.new b o' e
 keep:=x.keep
 regs:=x.regs.keeps (Fz.le_put hf) fun zq zq zq e=>e
 rfr:=fun d hd=>(Fz.put_ne fun q:d = a=>hr (by subst q; exact hd)).trans (x.rfr d hd)
 rnew:=x.rnew
 sep:=x.sep
end
inductive Place where
 | loc (L:Addr) (x:Str)
 | cell (c:Addr)
noncomputable def Place.at:Place -> Addr
 | .loc L _=>L
 | .cell c=>c
noncomputable def Place.Has (h:Heap):Place -> Option Value -> Prop
 | .loc L x,v=>∃ m,h.Ns L m /\ m x = v
 | .cell c,v=>h.IsCell c v
inductive LV where
 | unset
 | val (p:PV)
 | ol (l:List PV)
 | od (l:List (Nm × PV))
 | any
section
variable (P:PW) (Φ:Fz) (h:Heap)
inductive LU:Option Value -> List Addr -> Prop | mk:LU none []
inductive LVal (A:Value -> Prop):Option Value -> List Addr -> Prop | mk (v:Value) (x:A v):LVal A (some v) []
inductive LO (C:Obj -> Prop):Option Value -> List Addr -> Prop | mk (a:Addr) (o:Obj) (m:(a == sysModules) = false) (e:h.get? a = some o) (c:C o):LO C (some (.ref a)) [a]
inductive IsLO (l:List PV):Obj -> Prop | mk (vs:List Value) (n:Nat) (x:VRs P Φ l vs):IsLO l (lstO vs n)
inductive IsDO (l:List (Nm × PV)) (o:Obj):Prop | mk (kvs:List (Str × Value)) (d:DctO P o kvs) (x:VRd P Φ l kvs)
inductive LAny:Option Value -> List Addr -> Prop | mk (v:Option Value):LAny v []
inductive AtO (C:Obj -> Prop) (a:Addr):Prop | mk (o:Obj) (m:(a == sysModules) = false) (e:h.get? a = some o) (c:C o)
noncomputable def LR:LV -> Option Value -> List Addr -> Prop
 | .unset=>LU
 | .val p=>LVal (VR P Φ p)
 | .ol l=>LO h (IsLO P Φ l)
 | .od l=>LO h (IsDO P Φ l)
 | .any=>LAny
end
section
variable {P:PW} {h h':Heap} {Φ Φ':Fz}
theorem IsLO.mono (hΦ:Fz.le Φ Φ') {l:List PV} {o:Obj} (x:IsLO P Φ l o):IsLO P Φ' l o:=by obtain ⟨vs,n,x⟩:=x; exact ⟨vs,n,VRs.mono hΦ _ _ x⟩
theorem IsDO.mono (hΦ:Fz.le Φ Φ') {l:List (Nm × PV)} {o:Obj} (x:IsDO P Φ l o):IsDO P Φ' l o:=by obtain ⟨kvs,d,x⟩:=x; exact ⟨kvs,d,VRd.mono hΦ _ _ x⟩
theorem LO.at {C:Obj -> Prop} {v:Option Value} {a:Addr} (x:LO h C v [a]):v = some (.ref a) /\ AtO h C a:=by cases x with | mk _ o m e c=>exact ⟨rfl,o,m,e,c⟩
theorem LO.keeps {C D:Obj -> Prop} {v:Option Value} {own:List Addr} (x:LO h C v own) (j:∀ o,C o -> D o) (k:∀ b o,b ∈ own -> h.get? b = some o -> h'.get? b = some o):LO h' D v own:=by
 obtain ⟨a,o,m,e,c⟩:=x; exact ⟨a,o,m,k _ _ (.head _) e,j o c⟩
theorem LR.keeps {lv:LV} {v:Option Value} {own:List Addr} (x:LR P Φ h lv v own) (hΦ:Fz.le Φ Φ') (k:∀ b o,b ∈ own -> h.get? b = some o -> h'.get? b = some o):LR P Φ' h' lv v own:=by
 cases lv with
 | unset=>exact x
 | val p=>obtain ⟨v,x⟩:=x; exact ⟨v,VR.mono hΦ _ _ x⟩
 | ol l=>exact LO.keeps x (fun zq=>IsLO.mono hΦ) k
 | od l=>exact LO.keeps x (fun zq=>IsDO.mono hΦ) k
 | any=>exact x
theorem LO.live {C:Obj -> Prop} {v:Option Value} {own:List Addr} (x:LO h C v own):∀ b ∈ own,∃ o,h.get? b = some o:=by
 obtain ⟨a,o,m,e,c⟩:=x; intro b hb; cases hb with | head=>exact ⟨o,e⟩ | tail _ hb=>exact nomatch hb
theorem LR.live {lv:LV} {v:Option Value} {own:List Addr} (x:LR P Φ h lv v own):∀ b ∈ own,∃ o,h.get? b = some o:=by
 cases lv with
 | unset=>cases x; exact fun zq h=>nomatch h
 | val p=>cases x; exact fun zq h=>nomatch h
 | ol l=>exact LO.live x
 | od l=>exact LO.live x
 | any=>cases x; exact fun zq h=>nomatch h
inductive Slot (P:PW) (Φ:Fz) (h:Heap) (p:Place) (lv:LV) (own:List Addr):Prop | mk (v:Option Value) (k:p.Has h v) (l:LR P Φ h lv v own)
inductive IsSl (A:LV -> List Addr -> Prop) (B:List LV -> List (List Addr) -> Prop):List LV -> List (List Addr) -> Prop
 | mk (lv:LV) (fr:List LV) (o:List Addr) (ow:List (List Addr)) (x:A lv o) (y:B fr ow):IsSl A B (lv :: fr) (o :: ow)
inductive IsN2:List LV -> List (List Addr) -> Prop | mk:IsN2 [] []
noncomputable def Slots (P:PW) (Φ:Fz) (h:Heap):List Place -> List LV -> List (List Addr) -> Prop
 | []=>IsN2
 | p :: ps=>IsSl (Slot P Φ h p) (Slots P Φ h ps)
theorem Ns.keeps {L:Addr} {m:Str -> Option Value} (x:h.Ns L m) (k:∀ o,h.get? L = some o -> h'.get? L = some o):h'.Ns L m:=by obtain ⟨o,es,ep,ho,r⟩:=x; exact ⟨o,es,ep,k _ ho,r⟩
theorem Ns.live {L:Addr} {m:Str -> Option Value} (x:h.Ns L m):∃ o,h.get? L = some o:=by obtain ⟨o,es,ep,ho,r⟩:=x; exact ⟨o,ho⟩
theorem Place.Has.keeps {p:Place} {v:Option Value} (x:p.Has h v) (k:∀ o,h.get? p.at = some o -> h'.get? p.at = some o):p.Has h' v:=by
 cases p with
 | loc L y=>obtain ⟨m,x,e⟩:=x; exact ⟨m,Ns.keeps x k,e⟩
 | cell c=>obtain ⟨o,ho,hd⟩:=x; exact ⟨o,k _ ho,hd⟩
theorem Place.Has.live {p:Place} {v:Option Value} (x:p.Has h v):∃ o,h.get? p.at = some o:=by
 cases p with
 | loc L y=>obtain ⟨m,x,e⟩:=x; exact Ns.live x
 | cell c=>obtain ⟨o,ho,hd⟩:=x; exact ⟨o,ho⟩
theorem Slot.keeps {p:Place} {lv:LV} {own:List Addr} (x:Slot P Φ h p lv own) (hΦ:Fz.le Φ Φ') (k:∀ o,h.get? p.at = some o -> h'.get? p.at = some o) (k2:∀ b o,b ∈ own -> h.get? b = some o -> h'.get? b = some o):Slot P Φ' h' p lv own:=by
 obtain ⟨v,a,b⟩:=x; exact ⟨v,a.keeps k,b.keeps hΦ k2⟩
theorem Slots.keeps (hΦ:Fz.le Φ Φ') {ps:List Place} {fr:List LV} {ow:List (List Addr)} (x:Slots P Φ h ps fr ow)
  (k:∀ b o,b ∈ ps.map Place.at -> h.get? b = some o -> h'.get? b = some o) (k2:∀ b o,b ∈ ow.flatten -> h.get? b = some o -> h'.get? b = some o):Slots P Φ' h' ps fr ow:=by
 induction ps generalizing fr ow with
 | nil=>exact x
 | cons p ps ih =>
  obtain ⟨lv,fr,o,ow,x,y⟩:=x
  exact ⟨lv,fr,o,ow,x.keeps hΦ (fun o'=>k _ o' (.head _)) fun b o' hb=>k2 b o' (List.mem_append_left _ hb),ih y (fun b o' hb=>k b o' (.tail _ hb)) fun b o' hb=>k2 b o' (List.mem_append_right _ hb)⟩
theorem Slots.live {ps:List Place} {fr:List LV} {ow:List (List Addr)} (x:Slots P Φ h ps fr ow):∀ b ∈ ow.flatten,∃ o,h.get? b = some o:=by
 induction ps generalizing fr ow with
 | nil=>cases x; exact fun b hb=>nomatch hb
 | cons p ps ih =>
  obtain ⟨lv,fr,o,ow,x,y⟩:=x
  obtain ⟨v,a,b⟩:=x; exact fun c hb=>(List.mem_append.mp hb).elim (b.live c) (ih y c)
theorem Slots.len {ps:List Place} {fr:List LV} {ow:List (List Addr)} (x:Slots P Φ h ps fr ow):fr.length = ps.length:=by
 induction ps generalizing fr ow with
 | nil=>cases x; rfl
 | cons p ps ih=>obtain ⟨lv,fr,o,ow,x,y⟩:=x; exact congrArg (fun q=>q + 1) (ih y)
theorem Slots.get {ps:List Place} {fr:List LV} {ow:List (List Addr)} (x:Slots P Φ h ps fr ow) {i:Nat} {lv:LV} (hl:fr[i]? = some lv):∃ p o,ps[i]? = some p /\ ow[i]? = some o /\ Slot P Φ h p lv o:=by
 induction ps generalizing fr ow i with
 | nil=>cases x; exact nomatch hl
 | cons q ps ih =>
  obtain ⟨lv,fr,o,ow,x,y⟩:=x
  cases i with
  | zero=>cases hl; exact ⟨q,o,rfl,rfl,x⟩
  | succ i=>exact ih y hl
end
end
section
inductive Sm (s:Shared):Shared -> Prop | mk (h:Heap) (t:Nat):Sm s { s with heap:=h,toks:=t }
theorem Sm.refl {s:Shared}:Sm s s:=⟨s.heap,s.toks⟩
theorem Sm.trans {s s1 s2:Shared} (a:Sm s s1) (b:Sm s1 s2):Sm s s2:=by cases a; cases b; exact ⟨_,_⟩
noncomputable def gv (K:Frag) (x:Str):Option Value:=match nsIn K mainGlobals x with
 | some (some v)=>some v
 | some none=>(match nsIn K builtinsNs x with | some (some v)=>some v | _=>none)
 | none=>none
noncomputable abbrev WP (α:Type):=(α -> Gs -> Prop) -> Prop
noncomputable abbrev CallT:=Addr -> List PV -> Gs -> WP PV
structure Orc where
 c:CallT
 i:CallT
noncomputable abbrev Fr:=List LV
noncomputable abbrev D (α:Type):=Orc -> Fr -> Gs -> WP α
noncomputable abbrev DE:=D PV
noncomputable abbrev DL:=D (List PV)
noncomputable abbrev DB:=D Bool
inductive CV where
 | l (l:List PV)
 | d (l:List (Nm × PV))
noncomputable abbrev DO:=D CV
noncomputable def CV.pv:CV -> PV
 | .l x=>.lst x
 | .d x=>.dct x
noncomputable def CV.lv:CV -> LV
 | .l x=>.ol x
 | .d x=>.od x
noncomputable abbrev Tb:=List (Str × NameKind × Nat)
structure Cx where
 tb:Tb
 gl:List Str
 kp:PW -> Frag -> Prop
structure Act where
 h0:Heap
 Φ0:Fz
 env:Env
 pl:List Place
 fa:List Addr
 still:List (Addr × Obj)
structure Room (n:Nat) (A:Around):Prop where
 hd:A.handled = none
 d:A.depth + 2 * n + 2 < recursionLimit
 u:A.units + 12 * n + 60 < cLine
structure KBase (K:Frag) (Φ:Fz):Prop where
 kfz:∀ a o,K.lookup a = some o -> Φ.fz a = some o
 smod:∃ o,K.lookup sysModules = some o
 nolim:nsOkIn K cStatics = true /\ nsIn K cStatics "sys.recursionlimit" = some none
theorem KBase.mono {K:Frag} {Φ Φ':Fz} (x:KBase K Φ) (h:Fz.le Φ Φ'):KBase K Φ':=⟨fun a o e=>h.f _ _ (x.kfz a o e),x.smod,x.nolim⟩
structure Pre (P:PW) (K:Frag) (h:Heap) (Φ:Fz) (G:Gs):Prop where
 core:Core P h Φ Φ h G
 kb:KBase K Φ
inductive Res2 (env:Env) (x:Str):Option NameKind -> NameKind -> Place -> Prop
 | loc:Res2 env x (some .local) .local (.loc env.locals x)
 | cell (c:Addr) (h:env.cells.lookup x = some c):Res2 env x (some .cell) .cell (.cell c)
 | free (c:Addr) (h:env.cells.lookup x = some c):Res2 env x (some .free) .free (.cell c)
 | fcell (c:Addr) (h:env.cells.lookup x = some c):Res2 env x (some .cell) .free (.cell c)
noncomputable abbrev Resolves (env:Env) (x:Str) (k:NameKind) (p:Place):Prop:=Res2 env x (env.kindOf x) k p
structure Rn where
 P:PW
 K:Frag
 n:Nat
 o:Orc
 X:Act
 A:Around
noncomputable abbrev Rn.M (R:Rn):Model:=R.P.M
structure Tau where
 G:Gs
 Φ:Fz
 s:Shared
noncomputable abbrev Tau.h (τ:Tau):Heap:=τ.s.heap
inductive PoC {β:Type} (P:PW) (s:Shared) (Φ:Fz) (Q:β -> Gs -> Prop) (V:Fz -> β -> Value -> Prop) (v:Value):Shared -> Prop
 | mk (p:β) (G':Gs) (Φ':Fz) (s':Shared) (q:Q p G') (t:Sm s s') (c:Core P s.heap Φ Φ' s'.heap G') (r:V Φ' p v):PoC P s Φ Q V v s'
noncomputable def codeR (Q:Value -> Shared -> Prop) (E:Value -> Shared -> Prop):Result -> Shared -> Prop:=fun r s'=>match r with | .ok (.ret v)=>Q v s' | .ok _=>False | .error e=>E e s'
noncomputable def Contract (P:PW) (K:Frag) (o:CallT) (n:Nat):Prop:=∀ f args G Q,o f args G Q -> ∀ Φ s vs A,Pre P K s.heap Φ G -> VRs P Φ args vs -> Room n A ->
 codeAny P.M A (.call (.ref f) ⟨vs,[]⟩) (codeR (PoC P s Φ Q (VR P)) fun zq zq=>False) s
noncomputable def Lower (P:PW) (K:Frag) (o:CallT) (n:Nat):Prop:=∀ f args G Q,o f args G Q -> ∃ m,n = m + 1 /\ Contract P K o m
structure Rn.Ok (R:Rn) (cx:Cx):Prop where
 room:Room R.n R.A
 con:Contract R.P R.K R.o.c R.n
 con':Lower R.P R.K R.o.i R.n
 kk:cx.kp R.P R.K
 kb:KBase R.K R.X.Φ0
 kind:R.X.env.scope.kind = .function
 glob:R.X.env.globals = mainGlobals
 blt:R.X.env.builtins = builtinsNs
 tb:∀ x k i,(x,k,i) ∈ cx.tb -> ∃ p,R.X.pl[i]? = some p /\ Resolves R.X.env x k p
 gl:∀ x ∈ cx.gl,R.X.env.kindOf x = some .globalImplicit
 plf:∀ p ∈ R.X.pl,p.at ∈ R.X.fa
 pln:R.X.pl.Nodup
noncomputable abbrev Act.own (X:Act) (ow:List (List Addr)):List Addr:=X.fa ++ X.still.map (fun q=>q.1) ++ ow.flatten
structure Off (X:Act) (Φ:Fz) (a:Addr):Prop where
 f:Φ.fz a = none
 h0:X.h0.get? a = none
 r:¬ Reg Φ.rs a
structure St (R:Rn) (fr:Fr) (ow:List (List Addr)) (τ:Tau):Prop where
 core:Core R.P R.X.h0 R.X.Φ0 τ.Φ τ.h τ.G
 slots:Slots R.P τ.Φ τ.h R.X.pl fr ow
 nd:(R.X.own ow).Nodup
 off:∀ a ∈ R.X.own ow,Off R.X τ.Φ a
 live:∀ a ∈ R.X.fa,∃ o,τ.h.get? a = some o
 still:∀ p ∈ R.X.still,τ.h.get? p.1 = some p.2
structure To (τ τ':Tau):Prop where
 sm:Sm τ.s τ'.s
 le:Fz.le τ.Φ τ'.Φ
theorem To.refl {τ:Tau}:To τ τ:=⟨.refl,Fz.le_refl⟩
theorem To.trans {τ τ' τ'':Tau} (a:To τ τ') (b:To τ' τ''):To τ τ'':=⟨a.1.trans b.1,Fz.le_trans a.2 b.2⟩
inductive Po {α β:Type} (R:Rn) (fr:Fr) (ow:List (List Addr)) (τ:Tau) (Q:β -> Gs -> Prop) (V:Tau -> β -> α -> Prop) (v:α):Shared -> Prop
 | mk (p:β) (τ':Tau) (q:Q p τ'.G) (t:To τ τ') (S:St R fr ow τ') (r:V τ' p v):Po R fr ow τ Q V v τ'.s
noncomputable def Tr {α β:Type} (R:Rn) (fr:Fr) (ow:List (List Addr)) (τ:Tau) (t:Sem α) (d:WP β) (V:Tau -> β -> α -> Prop):Prop :=
 ∀ Q,d Q -> wpAny R.M R.A t (Po R fr ow τ Q V) (fun zq zq=>False) τ.s
section
variable {α β:Type} {R:Rn} {fr:Fr} {ow:List (List Addr)} {τ:Tau} {t:Sem α} {d:WP β} {V:Tau -> β -> α -> Prop}
theorem Tr.mk (x:∀ Q Q' E',d Q -> (∀ p τ' v,Q p τ'.G -> To τ τ' -> St R fr ow τ' -> V τ' p v -> Q' v τ'.s) -> wpAny R.M R.A t Q' E' τ.s):Tr R fr ow τ t d V :=
 fun Q h=>x Q _ _ h fun p τ' v a b c e=>⟨p,τ',a,b,c,e⟩
theorem Tr.use (x:Tr R fr ow τ t d V) {Q:β -> Gs -> Prop} (h:d Q) {Q':α -> Shared -> Prop} {E':Value -> Shared -> Prop} (k:∀ p τ' v,Q p τ'.G -> To τ τ' -> St R fr ow τ' -> V τ' p v -> Q' v τ'.s):wpAny R.M R.A t Q' E' τ.s :=
 wpAny_mono (x Q h) (fun v zq y=>by obtain ⟨p,τ',a,b,c,e⟩:=y; exact k p τ' v a b c e) fun zq zq f=>f.elim
theorem Tr.imp {W:Tau -> β -> α -> Prop} (x:Tr R fr ow τ t d V) (k:∀ τ' p v,V τ' p v -> W τ' p v):Tr R fr ow τ t d W:=fun Q h=>x.use h fun p τ' v a b c e=>⟨p,τ',a,b,c,k _ _ _ e⟩
end
noncomputable abbrev Rn.VR (R:Rn) (τ:Tau):=Mine.Internal.VR R.P τ.Φ
noncomputable abbrev Rn.VRs (R:Rn) (τ:Tau):=Mine.Internal.VRs R.P τ.Φ
inductive CO (P:PW) (Φ:Fz):CV -> Obj -> Prop
 | l (l:List PV) (vs:List Value) (n:Nat) (x:VRs P Φ l vs):CO P Φ (.l l) (lstO vs n)
 | d (l:List (Nm × PV)) (o:Obj) (kvs:List (Str × Value)) (x:DctO P o kvs) (y:VRd P Φ l kvs):CO P Φ (.d l) o
structure New (X:Act) (Φ:Fz) (ow:List (List Addr)) (a:Addr):Prop extends Off X Φ a where
 apart:a ∉ X.own ow
 sm:(a == sysModules) = false
inductive IsO (R:Rn) (ow:List (List Addr)) (τ:Tau) (C:Obj -> Prop):Value -> Prop
 | mk (a:Addr) (o:Obj) (e:τ.h.get? a = some o) (c:C o) (n:New R.X τ.Φ ow a):IsO R ow τ C (.ref a)
noncomputable def SE (cx:Cx) (e:Expr) (d:DE):Prop:=∀ R fr ow τ,R.Ok cx -> St R fr ow τ -> Tr R fr ow τ (eval e R.X.env) (d R.o fr τ.G) R.VR
noncomputable def SO (cx:Cx) (e:Expr) (d:DO):Prop:=∀ R fr ow τ,R.Ok cx -> St R fr ow τ -> Tr R fr ow τ (eval e R.X.env) (d R.o fr τ.G) fun τ' c=>IsO R ow τ' (CO R.P τ'.Φ c)
noncomputable def SB (cx:Cx) (e:Expr) (d:DB):Prop:=∀ R fr ow τ,R.Ok cx -> St R fr ow τ -> Tr R fr ow τ (isTrue e R.X.env (eval e R.X.env)) (d R.o fr τ.G) fun zq b v=>v = b
noncomputable def SL (cx:Cx) (es:List Expr) (d:DL):Prop:=∀ R fr ow τ pos,R.Ok cx -> St R fr ow τ -> Tr R fr ow τ (spliced (backTo pos (starEach es R.X.env))) (d R.o fr τ.G) R.VRs
noncomputable def bq (b:Bool) (P:Prop):Prop:=match b with | true=>P | false=>False
noncomputable def oq {α:Type} (x:Option α) (K:α -> Prop):Prop:=match x with | some a=>K a | none=>False
theorem bq.el {b:Bool} {P C:Prop} (h:bq b P) (k:b = true -> P -> C):C:=by cases b with | true=>exact k rfl h | false=>exact h.elim
theorem oq.el {α:Type} {x:Option α} {K:α -> Prop} {C:Prop} (h:oq x K) (k:∀ a,x = some a -> K a -> C):C:=by cases x with | some a=>exact k a rfl h | none=>exact h.elim
theorem bq.mk {b:Bool} {P:Prop} (h:b = true) (k:P):bq b P:=by subst h; exact k
theorem oq.mk {α:Type} {x:Option α} {K:α -> Prop} {a:α} (h:x = some a) (k:K a):oq x K:=by subst h; exact k
section
variable {R:Rn} {fr:Fr} {ow:List (List Addr)} {τ:Tau} {h':Heap} {a:Addr} {o:Obj} {cx:Cx}
theorem St.all (S:St R fr ow τ) {a:Addr} (ha:a ∈ R.X.own ow):∃ o,τ.h.get? a = some o :=
 (List.mem_append.mp ha).elim (fun ha=>(List.mem_append.mp ha).elim (S.live a) fun ha=>by obtain ⟨p,hp,rfl⟩:=List.mem_map.mp ha; exact ⟨_,S.still p hp⟩) (S.slots.live a)
theorem St.keepAll (S:St R fr ow τ) {s':Shared} (k:∀ b o,τ.h.get? b = some o -> s'.heap.get? b = some o):St R fr ow ⟨τ.G,τ.Φ,s'⟩ where
 core:=S.core.keepAll k
 slots:=S.slots.keeps Fz.le_refl (fun b o zq=>k b o) fun b o zq=>k b o
 nd:=S.nd
 off:=S.off
 live:=fun a ha=>by obtain ⟨o,e⟩:=S.live a ha; exact ⟨o,k _ _ e⟩
 still:=fun p hp=>k _ _ (S.still p hp)
theorem St.tok (S:St R fr ow τ) {t:Nat}:St R fr ow ⟨τ.G,τ.Φ,{ τ.s with toks:=t }⟩:=⟨S.core,S.slots,S.nd,S.off,S.live,S.still⟩
noncomputable abbrev Tau.tk (τ:Tau):Tau:=⟨τ.G,τ.Φ,{ τ.s with toks:=τ.s.toks + 1 }⟩
theorem To.tok {t:Nat}:To τ ⟨τ.G,τ.Φ,{ τ.s with toks:=t }⟩:=⟨⟨τ.h,t⟩,Fz.le_refl⟩
theorem St.freeze (S:St R fr ow τ) (ho:τ.h.get? a = some o) (N:New R.X τ.Φ ow a):St R fr ow ⟨τ.G,Fz.put τ.Φ a o,τ.s⟩ where
 core:=S.core.freeze ho N.f N.h0 N.r
 slots:=S.slots.keeps (Fz.le_put N.f) (fun zq zq zq e=>e) fun zq zq zq e=>e
 nd:=S.nd
 off:=fun b hb=>⟨(Fz.put_ne fun q:b = a=>N.apart (by subst q; exact hb)).trans (S.off b hb).f,(S.off b hb).h0,(S.off b hb).r⟩
 live:=S.live
 still:=S.still
theorem not_some {α:Type} {x:Option α} (h:¬ ∃ o,x = some o):x = none:=by cases x with | none=>rfl | some o=>exact absurd ⟨o,rfl⟩ h
theorem St.kin (O:R.Ok cx) (S:St R fr ow τ):R.K.In τ.h:=fun a o e=>S.core.frz a o (S.core.mono.f a o (O.kb.kfz a o e))
theorem St.isNew (O:R.Ok cx) (S:St R fr ow τ) (e:τ.h.get? a = none):New R.X τ.Φ ow a where
 f:=not_some fun ⟨o,q⟩=>nomatch e.symm.trans (S.core.frz a o q)
 h0:=S.core.noneD e
 r:=fun ha=>no_live e (S.core.regs.live ha)
 apart:=fun ha=>no_live e (S.all ha)
 sm:=Bool.eq_false_iff.mpr fun q=>by have q:=beq_iff_eq.mp q; subst q; obtain ⟨o,ho⟩:=O.kb.smod; exact nomatch e.symm.trans (S.kin O _ _ ho)
theorem get_size {h:Heap}:h.get? h.objs.size = none:=not_some fun ⟨_,q⟩=>Nat.lt_irrefl _ (Heap.lt_size q)
theorem St.push (O:R.Ok cx) (S:St R fr ow τ) (o:Obj) (t:Nat):St R fr ow ⟨τ.G,τ.Φ,{ τ.s with heap:=τ.h.push o,toks:=t }⟩:=S.keepAll fun b o' e=>Heap.get?_push_of_some _ e
theorem St.pushF (O:R.Ok cx) (S:St R fr ow τ) (o:Obj) (hf:o.isFreed = false) (t:Nat):St R fr ow ⟨τ.G,Fz.put τ.Φ τ.h.objs.size o,{ τ.s with heap:=τ.h.push o,toks:=t }⟩ :=
 (S.push O o t).freeze (Heap.get?_push_size _ hf) (St.isNew (τ:=τ) O S get_size)
theorem To.pushF (O:R.Ok cx) (S:St R fr ow τ) (o:Obj) (t:Nat):To τ ⟨τ.G,Fz.put τ.Φ τ.h.objs.size o,{ τ.s with heap:=τ.h.push o,toks:=t }⟩:=⟨⟨_,_⟩,Fz.le_put (S.isNew O get_size).f⟩
theorem To.heap {G:Gs} {h:Heap} {t:Nat}:To τ ⟨G,τ.Φ,{ τ.s with heap:=h,toks:=t }⟩:=⟨⟨h,t⟩,Fz.le_refl⟩
theorem VR.of_put {P:PW} {Φ:Fz} {l:List PV} {vs:List Value} (n:Nat) (x:VRs P Φ l vs) (e:Φ.fz a = none):VR P (Fz.put Φ a (tupO vs n)) (.tup l) (.ref a):=⟨a,vs,n,Fz.put_self,VRs.mono (Fz.le_put e) _ _ x⟩
theorem loadName_place {M:Model} {A:Around} {E:Value -> Shared -> Prop} {s:Shared} {env:Env} {x:Str} {k:NameKind} {p:Place} {v:Value} {Q:Value -> Shared -> Prop} (hk:env.scope.kind = .function)
  (hp:Resolves env x k p) (hc:(x == ("__classdict__":Str)) = false) (hv:p.Has s.heap (some v)) (h:Q v s):wpAny M A (loadName env x) Q E s:=by
 have hp:Res2 env x (env.kindOf x) k p:=hp
 generalize hq:env.kindOf x = q at hp
 cases hp with
 | loc=>obtain ⟨m,hn,e⟩:=hv; exact wpAny_loadName_local hk hq hn e h
 | cell c hc'=>exact wpAny_loadName_cell hk hq hc' hv h
 | free c hc'=>exact wpAny_loadName_free hk hq hc' hv h hc
 | fcell c hc'=>exact wpAny_loadName_cell hk hq hc' hv h
noncomputable def okName (x:Str):Bool:=!(x == ("__classdict__":Str)) && !(x == ("__debug__":Str))
theorem nt {b:Bool} (h:(!b) = true):b = false:=by cases b with | true=>cases h | false=>rfl
theorem okName.el {x:Str} (h:okName x = true):(x == ("__classdict__":Str)) = false /\ (x == ("__debug__":Str)) = false :=
 ⟨nt (Bool.and_eq_true_iff.mp h).1,nt (Bool.and_eq_true_iff.mp h).2⟩
noncomputable def fv (fr:Fr) (i:Nat):Option PV:=match fr[i]? with | some (.val p)=>some p | _=>none
theorem fv_at {i:Nat} {p:PV} (h:fv fr i = some p):fr[i]? = some (.val p):=by
 unfold fv at h; cases q:fr[i]? with
 | none=>rw [q] at h; cases h
 | some l=>rw [q] at h; cases l with | val p=>cases h; rfl | _=>cases h
noncomputable def dName (i:Nat):DE:=fun zq fr G Q=>oq (fv fr i) fun p=>Q p G
theorem E.name {x:Str} {k:NameKind} {i:Nat} {pos:Pos} (hm:(x,k,i) ∈ cx.tb) (hx:okName x = true):SE cx (.Name x pos) (dName i) :=
 fun R fr ow τ O S=>.mk fun zq zq zq h j=>h.el fun p e h=>by
  obtain ⟨pl,hpl,hk⟩:=O.tb x k i hm
  obtain ⟨pl',o,h1,_,v,hv,l⟩:=S.slots.get (fv_at e)
  cases hpl.symm.trans h1
  obtain ⟨v,l⟩:=l
  exact wpAny_Name (loadName_place O.kind hk (okName.el hx).1 hv (j _ τ _ h .refl S l)) (okName.el hx).2
noncomputable def dConst (p:PV):DE:=fun zq zq G Q=>Q p G
theorem E.int {i:Int} {k:Nat} {pos:Pos}:SE cx (.Constant (.int i) k pos) (dConst (.int i)) :=
 fun zq zq zq τ zq S=>.mk fun zq zq zq h k=>wpAny_Constant_int (k _ τ.tk _ h .tok S.tok ⟨_⟩)
theorem E.strc {x:Str} {c:Nm} {k:Nat} {pos:Pos} (hx:x = toS c):SE cx (.Constant (.str x) k pos) (dConst (.str c)):=by
 subst hx; exact fun zq zq zq τ zq S=>.mk fun zq zq zq h k=>show wpAny _ _ (mkText (toS c)) _ _ _ from fun Γ p hΓ=>k _ τ.tk _ h .tok S.tok ⟨_⟩
theorem E.bool {b:Bool} {k:Nat} {pos:Pos}:SE cx (.Constant (.bool b) k pos) (dConst (.bool b)) :=
 fun zq zq zq τ zq S=>.mk fun zq zq zq h k=>show wpAny _ _ (pure (Value.bool b)) _ _ _ from wpAny_pure (k _ τ _ h .refl S rfl)
theorem E.none {k:Nat} {pos:Pos}:SE cx (.Constant .none k pos) (dConst .none) :=
 fun zq zq zq τ zq S=>.mk fun zq zq zq h k=>show wpAny _ _ (pure Value.none) _ _ _ from wpAny_pure (k _ τ _ h .refl S rfl)
end
end
section
noncomputable def pvI:PV -> Option Int | .int i=>some i | _=>none
noncomputable def pvS:PV -> Option Nm | .str s=>some s | _=>none
noncomputable def pvB:PV -> Option Bool | .bool b=>some b | _=>none
noncomputable def pvT:PV -> Option Bool
 | .bool b=>some b
 | .int i=>some (i != 0)
 | .none=>some false
 | _=>none
section
variable {P:PW} {Φ:Fz} {p:PV} {v:Value} {C:Value -> Prop}
theorem pvI.el {K:Int -> Prop} (h:oq (pvI p) K) (x:VR P Φ p v) (k:∀ i t,K i -> C (.int i t)):C v:=by
 cases p with | int i=>obtain ⟨t⟩:=x; exact k i t h | _=>exact h.elim
theorem pvS.el {K:Nm -> Prop} (h:oq (pvS p) K) (x:VR P Φ p v) (k:∀ i t,K i -> C (.str (toS i) t)):C v:=by
 cases p with | str i=>obtain ⟨t⟩:=x; exact k i t h | _=>exact h.elim
theorem pvB.el {K:Bool -> Prop} (h:oq (pvB p) K) (x:VR P Φ p v) (k:∀ i,K i -> C (.bool i)):C v:=by
 cases p with | bool i=>cases x; exact k i h | _=>exact h.elim
end
variable {cx:Cx}
noncomputable abbrev F1:=PV -> (PV -> Prop) -> Prop
noncomputable abbrev F2:=PV -> PV -> (PV -> Prop) -> Prop
noncomputable def Prim1 (t:Value -> Sem Value) (f:F1):Prop:=∀ cx R fr ow τ va a,R.Ok cx -> St R fr ow τ -> R.VR τ a va -> Tr R fr ow τ (t va) (fun Q=>f a fun c=>Q c τ.G) R.VR
noncomputable def Prim2 (t:Value -> Value -> Sem Value) (f:F2):Prop:=∀ cx R fr ow τ va vb a b,R.Ok cx -> St R fr ow τ -> R.VR τ a va -> R.VR τ b vb -> Tr R fr ow τ (t va vb) (fun Q=>f a b fun c=>Q c τ.G) R.VR
theorem primT {R:Rn} {fr:Fr} {ow:List (List Addr)} {τ:Tau} {v:Value} {a:PV} (S:St R fr ow τ) (x:R.VR τ a v):Tr R fr ow τ (truthy v) (fun Q=>oq (pvT a) fun c=>Q c τ.G) fun zq b v=>v = b :=
 .mk fun Q zq zq h k=>by
  cases a with
  | bool b=>cases x; exact wpAny_truthy_bool (k _ τ _ h .refl S rfl)
  | int i=>obtain ⟨t⟩:=x; exact PySem.P.truthy_int (k _ τ _ h .refl S rfl)
  | none=>cases x; exact PyProof.Rows.truthy_none (k _ τ _ h .refl S rfl)
  | _=>exact h.elim
noncomputable def dNil:DL:=fun zq zq G Q=>Q [] G
noncomputable def dCons (d:DE) (r:DL):DL:=fun o fr G Q=>d o fr G fun a G=>r o fr G fun l G=>Q (a :: l) G
theorem L.nil:SL cx [] dNil:=fun zq zq zq τ zq zq S=>.mk fun zq zq zq h k=>PyProof.Rows.args_nil (k _ τ _ h .refl S ⟨⟩)
theorem L.cons {e:Expr} {es:List Expr} {d:DE} {r:DL} (he:∀ env,starEach (e :: es) env = (false,eval e env) :: starEach es env) (x:SE cx e d) (y:SL cx es r):SL cx (e :: es) (dCons d r) :=
 fun R fr ow τ pos O S=>.mk fun zq zq zq h k=>PyProof.Rows.args_cons ((x R fr ow τ O S).use h fun zq τ1 zq h t1 S v1=>(y R fr ow τ1 pos O S).use h fun zq τ2 zq h t2 S v2 =>
  k _ τ2 _ h (t1.trans t2) S ⟨_,_,VR.mono t2.le _ _ v1,v2⟩) (he _)
theorem fits {P:PW} {Φ:Fz} {l:List PV} {vs:List Value} (x:VRs P Φ l vs) (h:decide (l.length <= 1000) = true):vs.toArray.size <= sizeLine:=by
 rw [List.size_toArray,x.length,sizeLine_eq]; exact Nat.le_trans (of_decide_eq_true h) (by decide)
noncomputable def dTup (d:DL):DE:=fun o fr G Q=>d o fr G fun l G=>bq (decide (l.length <= 1000)) (Q (.tup l) G)
theorem E.tup {es:List Expr} {k:Nat} {pos:Pos} {d:DL} (x:SL cx es d):SE cx (.Tuple es k pos) (dTup d) :=
 fun R fr ow τ O S=>.mk fun zq zq zq h k=>PyProof.Rows.Tuple_ ((x R fr ow τ pos O S).use h fun l τ1 vs h t1 S v1=>h.el fun hl h =>
  wpAny_newObj_type (k _ ⟨τ1.G,Fz.put τ1.Φ τ1.h.objs.size (tupO vs 0),_⟩ _ h (t1.trans (.pushF O S _ _)) (S.pushF O (tupO vs 0) rfl _) (VR.of_put 0 v1 (S.isNew O get_size).f)) (fits v1 hl))
noncomputable def dLst (d:DL):DO:=fun o fr G Q=>d o fr G fun l G=>bq (decide (l.length <= 1000)) (Q (.l l) G)
theorem O.lst {es:List Expr} {pos:Pos} {d:DL} (x:SL cx es d):SO cx (.List es pos) (dLst d) :=
 fun R fr ow τ O S=>.mk fun zq zq zq h k=>PyProof.Rows.List_ ((x R fr ow τ pos O S).use h fun l τ1 vs h t1 S v1=>h.el fun hl h =>
  wpAny_newObj_type (k _ ⟨τ1.G,τ1.Φ,_⟩ _ h (t1.trans .heap) (S.push O (lstO vs 0) _) ⟨_,lstO vs 0,Heap.get?_push_size _ rfl,.l l vs 0 v1,St.isNew (τ:=τ1) O S get_size⟩) (fits v1 hl))
noncomputable def dFr (d:DO):DE:=fun o fr G Q=>d o fr G fun c G=>Q c.pv G
theorem CO.mono {P:PW} {Φ Φ':Fz} {c:CV} {ob:Obj} (h:Fz.le Φ Φ') (x:CO P Φ c ob):CO P Φ' c ob:=by
 cases x with
 | l l vs n v=>exact .l l vs n (VRs.mono h _ _ v)
 | d l _ kvs e v=>exact .d l _ kvs e (VRd.mono h _ _ v)
theorem CO.vr {P:PW} {Φ:Fz} {c:CV} {ob:Obj} {a:Addr} (x:CO P Φ c ob) (e:Φ.fz a = some ob) (m:(a == sysModules) = false):VR P Φ c.pv (.ref a):=by
 cases x with
 | l l vs n v=>exact ⟨a,vs,n,e,v⟩
 | d l _ kvs q v=>exact ⟨a,ob,kvs,e,m,q,v⟩
theorem E.fr {e:Expr} {d:DO} (x:SO cx e d):SE cx e (dFr d) :=
 fun R fr ow τ O S=>.mk fun zq zq zq h k=>(x R fr ow τ O S).use h fun c τ1 zq h t1 S v1=>by
  obtain ⟨a,ob,e,c,n⟩:=v1
  exact k _ ⟨τ1.G,Fz.put τ1.Φ a ob,τ1.s⟩ _ h ⟨t1.sm,Fz.le_trans t1.le (Fz.le_put n.f)⟩ (S.freeze e n) ((c.mono (Fz.le_put n.f)).vr Fz.put_self n.sm)
noncomputable def dBin (f:F2) (l r:DE):DE:=fun o fr G Q=>l o fr G fun a G=>r o fr G fun b G=>f a b fun c=>Q c G
section
variable {op:Operator} {co:CmpOp} {l r:Expr} {pos:Pos} {f:F2} {dl dr:DE}
theorem E.bin (p:Prim2 (binaryOp op) f) (x:SE cx l dl) (y:SE cx r dr):SE cx (.BinOp l op r pos) (dBin f dl dr) :=
 fun R fr ow τ O S=>.mk fun Q zq zq h k=>wpAny_BinOp ((x R fr ow τ O S).use h fun zq τ1 zq h t1 S v1=>(y R fr ow τ1 O S).use h fun zq τ2 zq h t2 S v2 =>
  (p cx R fr ow τ2 _ _ _ _ O S (VR.mono t2.le _ _ v1) v2).use (Q:=Q) h fun zq τ3 zq h t3 S v3=>k _ τ3 _ h (t1.trans (t2.trans t3)) S v3)
theorem E.cmp (hm:behindInMarks co r = false) (p:Prim2 (compareOp co) f) (x:SE cx l dl) (y:SE cx r dr):SE cx (.Compare l [co] [r] pos) (dBin f dl dr) :=
 fun R fr ow τ O S=>.mk fun Q zq zq h k=>wpAny_Compare1 ((x R fr ow τ O S).use h fun zq τ1 zq h t1 S v1=>(y R fr ow τ1 O S).use h fun zq τ2 zq h t2 S v2 =>
  (p cx R fr ow τ2 _ _ _ _ O S (VR.mono t2.le _ _ v1) v2).use (Q:=Q) h fun zq τ3 zq h t3 S v3=>k _ τ3 _ h (t1.trans (t2.trans t3)) S v3) hm
noncomputable def dB (d:DE):DB:=fun o fr G Q=>d o fr G fun a G=>oq (pvB a) fun b=>Q b G
theorem B.cmp (hm:behindInMarks co r = false) (p:Prim2 (compareOp co) f) (x:SE cx l dl) (y:SE cx r dr):SB cx (.Compare l [co] [r] pos) (dB (dBin f dl dr)) :=
 fun R fr ow τ O S=>.mk fun Q Q' E' h k=>wpAny_isTrue_Compare1 ((x R fr ow τ O S).use h fun zq τ1 zq h t1 S v1=>(y R fr ow τ1 O S).use h fun zq τ2 zq h t2 S v2 =>
  (p cx R fr ow τ2 _ _ _ _ O S (VR.mono t2.le _ _ v1) v2).use (Q:=fun a G=>oq (pvB a) fun b=>Q b G) h fun zq τ3 zq h t3 S v3 =>
   pvB.el (C:=fun v=>wpAny R.M R.A (truthy v) Q' E' τ3.s) h v3 fun b h=>wpAny_truthy_bool (k b τ3 _ h (t1.trans (t2.trans t3)) S rfl)) hm
end
noncomputable def dT (d:DE):DB:=fun o fr G Q=>d o fr G fun a G=>oq (pvT a) fun b=>Q b G
theorem B.plain {e:Expr} {d:DE} (he:∀ env whole,isTrue e env whole = (do let v <- whole; standAt e.pos; holding [v] (truthy v))) (x:SE cx e d):SB cx e (dT d) :=
 fun R fr ow τ O S=>.mk fun Q zq zq h k=>PyProof.Rows.isTrue_plain ((x R fr ow τ O S).use h fun zq τ1 zq h t1 S v1=>(primT S v1).use (Q:=Q) h fun zq τ2 zq h t2 S v2=>k _ τ2 _ h (t1.trans t2) S v2) (he _ _)
noncomputable def dNot (d:DB):DB:=fun o fr G Q=>d o fr G fun a G=>Q (!a) G
theorem B.not {e:Expr} {pos:Pos} {d:DB} (x:SB cx e d):SB cx (.UnaryOp .Not e pos) (dNot d) :=
 fun R fr ow τ O S=>.mk fun zq zq zq h k=>PyProof.Rows.isTrue_not ((x R fr ow τ O S).use h fun zq τ1 zq h t1 S v1=>k _ τ1 _ h t1 S (congrArg _ v1))
noncomputable def dIte {α:Type} (c:DB) (a b:D α):D α:=fun o fr G Q=>c o fr G fun t G=>cond t (a o fr G Q) (b o fr G Q)
noncomputable def dTrue:DB:=fun zq zq G Q=>Q true G
noncomputable def dFalse:DB:=fun zq zq G Q=>Q false G
noncomputable abbrev dAnd (d r:DB):DB:=dIte d r dFalse
noncomputable abbrev dOr (d r:DB):DB:=dIte d dTrue r
theorem B.andN {pos:Pos}:SB cx (.BoolOp .And [] pos) dTrue:=fun zq zq zq τ zq S=>.mk fun zq zq zq h k=>PyProof.Rows.isTrue_and_nil (k _ τ _ h .refl S rfl)
theorem B.orN {pos:Pos}:SB cx (.BoolOp .Or [] pos) dFalse:=fun zq zq zq τ zq S=>.mk fun zq zq zq h k=>PyProof.Rows.isTrue_or_nil (k _ τ _ h .refl S rfl)
section
variable {e:Expr} {rest:List Expr} {pos:Pos} {d r:DB}
theorem B.and (x:SB cx e d) (y:SB cx (.BoolOp .And rest pos) r):SB cx (.BoolOp .And (e :: rest) pos) (dAnd d r) :=
 fun R fr ow τ O S=>.mk fun zq zq zq h k=>PyProof.Rows.isTrue_and ((x R fr ow τ O S).use h fun b τ1 v h t1 S v1=>by
  subst v1; cases v with
  | true=>exact (y R fr ow τ1 O S).use h fun zq τ2 zq h t2 S v2=>k _ τ2 _ h (t1.trans t2) S v2
  | false=>exact k _ τ1 _ h t1 S rfl)
theorem B.or (x:SB cx e d) (y:SB cx (.BoolOp .Or rest pos) r):SB cx (.BoolOp .Or (e :: rest) pos) (dOr d r) :=
 fun R fr ow τ O S=>.mk fun zq zq zq h k=>PyProof.Rows.isTrue_or ((x R fr ow τ O S).use h fun b τ1 v h t1 S v1=>by
  subst v1; cases v with
  | false=>exact (y R fr ow τ1 O S).use h fun zq τ2 zq h t2 S v2=>k _ τ2 _ h (t1.trans t2) S v2
  | true=>exact k _ τ1 _ h t1 S rfl)
theorem E.ite {t b e:Expr} {pos:Pos} {c:DB} {da db:DE} (x:SB cx t c) (y:SE cx b da) (z:SE cx e db):SE cx (.IfExp t b e pos) (dIte c da db) :=
 fun R fr ow τ O S=>.mk fun zq zq zq h k=>PyProof.Rows.IfExp_ ((x R fr ow τ O S).use h fun b τ1 v h t1 S v1=>by
  subst v1; cases v with
  | false=>exact (z R fr ow τ1 O S).use h fun zq τ2 zq h t2 S v2=>k _ τ2 _ h (t1.trans t2) S v2
  | true=>exact (y R fr ow τ1 O S).use h fun zq τ2 zq h t2 S v2=>k _ τ2 _ h (t1.trans t2) S v2)
end
end
section
section
variable (P:PW) (h:Heap) (Φ:Fz)
noncomputable def HR:PV -> Value -> Prop
 | .lst l=>IsSq h.get? lstO (VRs P Φ l)
 | .tup l=>IsSq h.get? tupO (VRs P Φ l)
 | .dct l=>IsD P h.get? (VRd P Φ l)
 | .idc l=>IsI P h.get? (VRi P Φ l)
 | p=>VR P Φ p
end
inductive HV where
 | v (p:PV)
 | sl (i:Nat)
 | rg (k:Nat)
noncomputable def slPV:Option LV -> Option PV
 | some (.ol l)=>some (.lst l)
 | some (.od l)=>some (.dct l)
 | _=>none
noncomputable def rgPV:Option RA -> Option PV
 | some (.dict fs)=>some (.dct fs)
 | some (.list l)=>some (.lst l)
 | some (.idict l)=>some (.idc l)
 | _=>none
noncomputable def HV.res (fr:Fr) (G:Gs):HV -> Option PV
 | .v p=>some p
 | .sl i=>slPV fr[i]?
 | .rg k=>rgPV G[k]?
inductive IsS (ow:List (List Addr)) (i:Nat):Value -> Prop | mk (a:Addr) (e:ow[i]? = some [a]):IsS ow i (.ref a)
noncomputable def Held (P:PW) (Φ:Fz) (ow:List (List Addr)):HV -> Value -> Prop
 | .v p=>VR P Φ p
 | .sl i=>IsS ow i
 | .rg k=>IsR Φ.rs k
noncomputable abbrev DH:=D HV
noncomputable def SH (cx:Cx) (e:Expr) (d:DH):Prop:=∀ R fr ow τ,R.Ok cx -> St R fr ow τ -> Tr R fr ow τ (eval e R.X.env) (d R.o fr τ.G) fun τ'=>Held R.P τ'.Φ ow
section
variable {P:PW} {h:Heap} {Φ Φ':Fz} {R:Rn} {fr:Fr} {ow:List (List Addr)} {τ:Tau} {cx:Cx}
theorem VR.held (k:∀ a o,Φ.fz a = some o -> h.get? a = some o) {p:PV} {v:Value} (x:VR P Φ p v):HR P h Φ p v:=by
 cases p with
 | lst l=>exact IsSq.mono k (fun zq h=>h) x
 | tup l=>exact IsSq.mono k (fun zq h=>h) x
 | dct l=>exact IsD.mono k (fun zq h=>h) x
 | idc l=>exact IsI.mono k (fun zq h=>h) x
 | _=>exact x
theorem Held.mono {p:HV} {v:Value} (h:Fz.le Φ Φ') (x:Held P Φ ow p v):Held P Φ' ow p v:=by
 cases p with
 | v p=>exact VR.mono h _ _ x
 | sl i=>exact x
 | rg k=>exact IsR.mono h x
theorem RegsH.get {R:List RC} {G:Gs} (x:RegsH P h Φ R G) {k:Nat} {a:RA} (hk:G[k]? = some a):∃ c,R[k]? = some c /\ RegH P h Φ c a:=by
 induction R generalizing G k with
 | nil=>cases x; cases hk
 | cons c R ih =>
  obtain ⟨b,G,x,y⟩:=x
  cases k with
  | zero=>cases hk; exact ⟨c,rfl,x⟩
  | succ k=>exact ih y hk
theorem RegsH.at {R:List RC} {G:Gs} (x:RegsH P h Φ R G) {k:Nat} {a:RA} {c:RC} (hc:R[k]? = some c) (hk:G[k]? = some a):RegH P h Φ c a:=by
 obtain ⟨c',e,y⟩:=x.get hk; cases hc.symm.trans e; exact y
theorem St.slotOwn (S:St R fr ow τ) {i:Nat} {lv:LV} {a:Addr} (hl:fr[i]? = some lv) (ha:ow[i]? = some [a]):∃ v,LR R.P τ.Φ τ.h lv v [a]:=by
 obtain ⟨p,o,_,e,v,_,l⟩:=S.slots.get hl; cases ha.symm.trans e; exact ⟨v,l⟩
theorem St.held (S:St R fr ow τ) {p:HV} {c:PV} {v:Value} (x:Held R.P τ.Φ ow p v) (e:p.res fr τ.G = some c):HR R.P τ.h τ.Φ c v:=by
 cases p with
 | v p=>cases e; exact VR.held S.core.frz x
 | sl i =>
  obtain ⟨a,ha⟩:=x
  change slPV fr[i]? = some c at e
  cases hl:fr[i]? with
  | none=>rw [hl] at e; cases e
  | some lv =>
   rw [hl] at e
   obtain ⟨v,l⟩:=S.slotOwn hl ha
   cases lv with
   | ol l=>cases e; obtain ⟨_,_,g,c⟩:=(LO.at l).2; obtain ⟨vs,n,c⟩:=c; exact ⟨_,vs,n,g,c⟩
   | od l=>cases e; obtain ⟨_,m,g,c⟩:=(LO.at l).2; obtain ⟨kvs,d,c⟩:=c; exact ⟨_,_,kvs,g,m,d,c⟩
   | _=>cases e
 | rg k =>
  obtain ⟨rc,hc⟩:=x
  change rgPV τ.G[k]? = some c at e
  cases hl:τ.G[k]? with
  | none=>rw [hl] at e; cases e
  | some ra =>
   rw [hl] at e
   have r:=S.core.regs.at hc hl
   cases ra with
   | inst=>cases e
   | dict fs=>cases e; obtain ⟨i,m,kvs,v,d⟩:=r; obtain ⟨o,ho,d⟩:=DctO.of d; exact i ▸ ⟨_,o,kvs,ho,m,d,v⟩
   | list l=>cases e; obtain ⟨i,vs,n,v,d⟩:=r; exact i ▸ ⟨_,vs,n,d,v⟩
   | idict fs=>cases e; obtain ⟨i,m,kvs,v,d⟩:=r; obtain ⟨o,ho,d⟩:=IctO.of d; exact i ▸ ⟨_,o,kvs,ho,m,d,v⟩
end
noncomputable def Prim2H (t:Value -> Value -> Sem Value) (f:F2):Prop:=∀ cx R fr ow τ va vb a b,R.Ok cx -> St R fr ow τ -> R.VR τ a va -> HR R.P τ.h τ.Φ b vb -> Tr R fr ow τ (t va vb) (fun Q=>f a b fun c=>Q c τ.G) R.VR
noncomputable def PrimH2 (t:Value -> Value -> Sem Value) (f:F2):Prop:=∀ cx R fr ow τ va vb a b,R.Ok cx -> St R fr ow τ -> HR R.P τ.h τ.Φ a va -> R.VR τ b vb -> Tr R fr ow τ (t va vb) (fun Q=>f a b fun c=>Q c τ.G) R.VR
theorem Room.units {n:Nat} {A:Around} (r:Room n A):A.units < cLine:=Nat.lt_of_le_of_lt (Nat.le_trans (Nat.le_add_right _ (12 * n)) (Nat.le_add_right _ 60)) r.u
noncomputable def int2 (f:Int -> Int -> (PV -> Prop) -> Prop):F2:=fun a b Q=>oq (pvI a) fun i=>oq (pvI b) fun j=>f i j Q
section
variable {t:Value -> Value -> Sem Value}
theorem p_intI {g:Int -> Int -> Int} {c:Int -> Int -> Bool} (x:∀ (P:PW) A i j u v Q E s,c i j = true -> Q (.int (g i j) s.toks) { s with toks:=s.toks + 1 } -> wpAny P.M A (t (.int i u) (.int j v)) Q E s):Prim2 t (int2 fun i j Q=>bq (c i j) (Q (.int (g i j)))) :=
 fun cx R fr ow τ va vb a b O S xa xb=>.mk fun Q Q' E' h k=>pvI.el (C:=fun va=>wpAny R.M R.A (t va vb) Q' E' τ.s) h xa fun i u h =>
  pvI.el (C:=fun vb=>wpAny R.M R.A (t (.int i u) vb) Q' E' τ.s) h xb fun j v h=>h.el fun e h=>x R.P R.A i j u v Q' E' τ.s e (k _ τ.tk _ h .tok S.tok ⟨_⟩)
theorem p_intB {g:Int -> Int -> Bool} (x:∀ (P:PW) A i j u v Q E s,Q (.bool (g i j)) s -> wpAny P.M A (t (.int i u) (.int j v)) Q E s):Prim2 t (int2 fun i j Q=>Q (.bool (g i j))) :=
 fun cx R fr ow τ va vb a b O S xa xb=>.mk fun Q Q' E' h k=>pvI.el (C:=fun va=>wpAny R.M R.A (t va vb) Q' E' τ.s) h xa fun i u h =>
  pvI.el (C:=fun vb=>wpAny R.M R.A (t (.int i u) vb) Q' E' τ.s) h xb fun j v h=>x R.P R.A i j u v Q' E' τ.s (k _ τ _ h .refl S rfl)
end
noncomputable abbrev fSub:F2:=int2 fun i j Q=>bq true (Q (.int (i - j)))
noncomputable abbrev fMul:F2:=int2 fun i j Q=>bq (decide (-(2 ^ 64) < i /\ i < 2 ^ 64)) (Q (.int (i * j)))
noncomputable abbrev fMod:F2:=int2 fun i j Q=>bq (decide (j ≠ 0)) (Q (.int (i.fmod j)))
noncomputable abbrev fDiv:F2:=int2 fun i j Q=>bq (decide (j ≠ 0 /\ j.natAbs < 1073741824)) (Q (.int (i.fdiv j)))
noncomputable abbrev fPow:F2:=int2 fun i j Q=>bq (decide (i = 2 /\ 0 <= j /\ j <= 60)) (Q (.int (i ^ j.toNat)))
noncomputable abbrev fLt:F2:=int2 fun i j Q=>Q (.bool (decide (i < j)))
noncomputable abbrev fLe:F2:=int2 fun i j Q=>Q (.bool (decide (i <= j)))
noncomputable abbrev fGt:F2:=int2 fun i j Q=>Q (.bool (decide (j < i)))
noncomputable abbrev fGe:F2:=int2 fun i j Q=>Q (.bool (decide (j <= i)))
theorem p_sub:Prim2 (binaryOp .Sub) fSub:=p_intI fun zq zq zq zq zq zq zq zq zq zq h=>PyProof.Rows.sub_int h
theorem p_mul:Prim2 (binaryOp .Mult) fMul:=p_intI fun zq zq zq zq zq zq zq zq zq e h=>PyProof.Rows.mul_int h (.of_left (intBits_le_64 (of_decide_eq_true e).1 (of_decide_eq_true e).2))
theorem p_mod:Prim2 (binaryOp .Mod) fMod:=p_intI fun zq zq zq zq zq zq zq zq zq e h=>PyProof.Rows.mod_int' (of_decide_eq_true e) h
theorem p_div:Prim2 (binaryOp .FloorDiv) fDiv:=p_intI fun zq zq zq zq zq zq zq zq zq e h=>PyProof.Rows.floordiv_int (of_decide_eq_true e).1 h (.inl (PyProof.noPylong_small (of_decide_eq_true e).2))
theorem p_pow:Prim2 (binaryOp .Pow) fPow:=p_intI fun zq zq i j zq zq zq zq zq e h=>by
 obtain ⟨rfl,h0,h1⟩:=of_decide_eq_true e
 refine PyProof.Rows.pow_int h0 ?_ h
 exact Int.le_trans (Int.mul_le_mul (Int.ofNat_le.mpr (intBits_le_64 (by decide) (by decide))) h1 h0 (by decide)) (by decide)
theorem p_lt:Prim2 (compareOp .Lt) fLt:=p_intB fun zq zq zq zq zq zq zq zq zq h=>PyProof.Rows.lt_int h
theorem p_le:Prim2 (compareOp .LtE) fLe:=p_intB fun zq zq zq zq zq zq zq zq zq h=>PyProof.Rows.le_int h
theorem p_gt:Prim2 (compareOp .Gt) fGt:=p_intB fun zq zq zq zq zq zq zq zq zq h=>PyProof.Rows.gt_int h
theorem p_ge:Prim2 (compareOp .GtE) fGe:=p_intB fun zq zq zq zq zq zq zq zq zq h=>PyProof.Rows.ge_int h
theorem isTupleOf {h:Heap} {a:Addr} {vs:List Value} {k:Nat} (g:h.get? a = some (tupO vs k)):h.IsTuple a vs.toArray:=⟨_,g,rfl,k,rfl⟩
theorem isListOf {h:Heap} {a:Addr} {vs:List Value} {k:Nat} (g:h.get? a = some (lstO vs k)):h.IsList a vs.toArray:=⟨_,g,rfl,k,rfl⟩
theorem nil_eq {α:Type} (l:List α):l.isEmpty = decide (l.length = 0):=by cases l <;> rfl
noncomputable def isNil:PV -> Bool
 | .lst []=>true
 | .tup []=>true
 | _=>false
noncomputable def isT:PV -> Bool | .tup _=>true | _=>false
noncomputable def fAdd:F2:=fun a b Q=>match a with
 | .int i=>oq (pvI b) fun j=>Q (.int (i + j))
 | .tup l=>(match b with | .tup m=>bq (decide (l.length + m.length <= 1000000)) (Q (.tup (l ++ m))) | _=>False)
 | _=>False
noncomputable def fEq:F2:=fun a b Q=>match a with
 | .int i=>oq (pvI b) fun j=>Q (.bool (i == j))
 | .str s=>oq (pvS b) fun t=>Q (.bool (s == t))
 | .bool s=>oq (pvB b) fun t=>Q (.bool (s == t))
 | .lst l=>bq (!isT b && isNil b) (Q (.bool l.isEmpty))
 | .tup l=>bq (isT b && isNil b) (Q (.bool l.isEmpty))
 | _=>False
noncomputable def fNe:F2:=fun a b Q=>match a with
 | .int i=>oq (pvI b) fun j=>Q (.bool (i != j))
 | .str s=>oq (pvS b) fun t=>Q (.bool (s != t))
 | .bool s=>oq (pvB b) fun t=>Q (.bool (s != t))
 | .lst l=>bq (!isT b && isNil b) (Q (.bool !l.isEmpty))
 | _=>False
theorem nilT {b:PV} {C:PV -> Prop} (h:(isT b && isNil b) = true) (k:C (.tup [])):C b:=by
 cases b with
 | tup l=>cases l with | nil=>exact k | cons=>cases h
 | _=>cases h
theorem nilL {b:PV} {C:PV -> Prop} (h:(!isT b && isNil b) = true) (k:C (.lst [])):C b:=by
 cases b with
 | lst l=>cases l with | nil=>exact k | cons=>cases h
 | _=>cases h
end
section
section
variable {P:PW} {Φ:Fz} {h:Heap}
theorem VRs.nil {vs:List Value} (x:VRs P Φ [] vs):vs = []:=by cases x; rfl
theorem VRs.nilOf {l:List PV} (x:VRs P Φ l []):l = []:=by cases l with | nil=>rfl | cons=>cases x
theorem VRs.isE {l:List PV} {vs:List Value} (x:VRs P Φ l vs):vs.isEmpty = l.isEmpty:=by rw [nil_eq,nil_eq,x.length]
theorem size_le {P:PW} {l m:List PV} {vs us:List Value} (x:VRs P Φ l vs) (y:VRs P Φ m us) (e:decide (l.length + m.length <= 1000000) = true):vs.toArray.size + us.toArray.size <= sizeLine:=by
 rw [List.size_toArray,List.size_toArray,x.length,y.length,sizeLine_eq]; exact Nat.le_trans (of_decide_eq_true e) (by decide)
theorem isE {vs:List Value} (e:vs.toArray.isEmpty = true):vs = []:=by cases vs with | nil=>rfl | cons=>cases e
end
theorem p_add:Prim2 (binaryOp .Add) fAdd:=fun cx R fr ow τ va vb a b O S x y=>.mk fun Q Q' E' h k=>by
 cases a with
 | int i=>obtain ⟨t⟩:=x; exact pvI.el (C:=fun vb=>wpAny R.M R.A (binaryOp .Add (.int i t) vb) Q' E' τ.s) h y fun j u h=>PyProof.Rows.add_int (k _ τ.tk _ h .tok S.tok ⟨_⟩)
 | tup l =>
  cases b with
  | tup m =>
   obtain ⟨e,h⟩:=(h.el (C:=_ /\ Q _ τ.G) fun e h=>⟨e,h⟩:decide (l.length + m.length <= 1000000) = true /\ Q (.tup (l ++ m)) τ.G)
   obtain ⟨a1,vs,k1,f1,v1⟩:=x
   obtain ⟨a2,us,k2,f2,v2⟩:=y
   have g1:=S.core.frz _ _ f1
   have g2:=S.core.frz _ _ f2
   refine Decidable.byCases (fun h1:vs.toArray.isEmpty = true=>?_) fun h1=>Decidable.byCases (fun h2:us.toArray.isEmpty = true=>?_) fun h2=>?_
   ·have e1:=isE h1; subst e1; have e1:=v1.nilOf; subst e1
    exact concat_meets (id:="tuple.__add__") ⟨_,g1,rfl⟩ ⟨_,g2,rfl⟩ noFill_tuple_add seq_tuple_add PySem.F.slot_tuple_add PySem.F.entry_tuple_add (PySem.F.args_tuple_add_2 _ _) (AutoSeq1.tuple___add___tuple_tuple_0 a1 _ k1 a2 us.toArray k2 h1)
     ⟨g1,g2,k _ τ _ h .refl S ⟨a2,us,k2,f2,v2⟩⟩
   ·have e2:=isE h2; subst e2; have e2:=v2.nilOf; subst e2
    rw [List.append_nil] at h
    exact concat_meets (id:="tuple.__add__") ⟨_,g1,rfl⟩ ⟨_,g2,rfl⟩ noFill_tuple_add seq_tuple_add PySem.F.slot_tuple_add PySem.F.entry_tuple_add (PySem.F.args_tuple_add_2 _ _) (AutoSeq1.tuple___add___tuple_tuple_1 a1 vs.toArray k1 a2 _ k2 h1 h2)
     ⟨g1,g2,k _ τ _ h .refl S ⟨a1,vs,k1,f1,v1⟩⟩
   ·refine P.add_tuple (n:=k1) (n2:=k2) g1 g2 h1 h2 ?_ (size_le v1 v2 e)
    rw [show vs.toArray ++ us.toArray = (vs ++ us).toArray from List.append_toArray vs us]
    exact k _ ⟨τ.G,Fz.put τ.Φ τ.h.objs.size (tupO (vs ++ us) 0),_⟩ _ h (.pushF O S _ _) (S.pushF O (tupO (vs ++ us) 0) rfl _) (VR.of_put 0 (v1.append v2) (S.isNew O get_size).f)
  | _=>exact h.elim
 | _=>exact h.elim
theorem cps_toS (a:Nm):(toS a).cps.toList = a:=rfl
theorem p_eq:Prim2 (compareOp .Eq) fEq:=fun cx R fr ow τ va vb a b O S x y=>.mk fun Q Q' E' h k=>by
 cases a with
 | int i=>obtain ⟨t⟩:=x; exact pvI.el (C:=fun vb=>wpAny R.M R.A (compareOp .Eq (.int i t) vb) Q' E' τ.s) h y fun j u h=>PyProof.Rows.eq_int (k _ τ _ h .refl S rfl)
 | str i=>obtain ⟨t⟩:=x; exact pvS.el (C:=fun vb=>wpAny R.M R.A (compareOp .Eq (.str (toS i) t) vb) Q' E' τ.s) h y fun j u h=>PySem.P.eq_str (k _ τ _ h .refl S rfl)
 | bool i=>cases x; exact pvB.el (C:=fun vb=>wpAny R.M R.A (compareOp .Eq (.bool i) vb) Q' E' τ.s) h y fun j h=>PyProof.Rows.eq_bool (k _ τ _ h .refl S rfl)
 | lst l =>
   refine h.el fun e h=>?_
   refine nilL (C:=fun b=>R.VR τ b vb -> wpAny R.M R.A (compareOp .Eq va vb) Q' E' τ.s) e (fun y=>?_) y
   obtain ⟨a1,vs,k1,f1,v1⟩:=x
   obtain ⟨a2,us,k2,f2,v2⟩:=y
   cases v2
   have g1:=isListOf (S.core.frz _ _ f1)
   have g2:=isListOf (S.core.frz _ _ f2)
   have e1:=v1.isE
   cases vs with
   | nil=>rw [<- e1] at h; exact SeqAt.eq_listAt (e:=fun zq=>true) g1 g2 rfl O.room.units (fun j h1 zq=>absurd h1 (Nat.not_lt_zero _)) (k _ τ _ h .refl S rfl)
   | cons=>rw [<- e1] at h; exact SeqAt.eq_list_lengthsAt g1 g2 rfl O.room.units (k _ τ _ h .refl S rfl)
 | tup l =>
   refine h.el fun e h=>?_
   refine nilT (C:=fun b=>R.VR τ b vb -> wpAny R.M R.A (compareOp .Eq va vb) Q' E' τ.s) e (fun y=>?_) y
   obtain ⟨a1,vs,k1,f1,v1⟩:=x
   obtain ⟨a2,us,k2,f2,v2⟩:=y
   cases v2
   have g1:=isTupleOf (S.core.frz _ _ f1)
   have g2:=isTupleOf (S.core.frz _ _ f2)
   have e1:=v1.isE
   rw [<- e1] at h
   refine SeqAt.eq_tupleAt (e:=fun zq=>true) g1 g2 O.room.units (fun j zq h2=>absurd h2 (Nat.not_lt_zero _)) (k _ τ _ h .refl S ?_)
   cases vs <;> rfl
 | _=>exact h.elim
theorem p_ne:Prim2 (compareOp .NotEq) fNe:=fun cx R fr ow τ va vb a b O S x y=>.mk fun Q Q' E' h k=>by
 cases a with
 | int i=>obtain ⟨t⟩:=x; exact pvI.el (C:=fun vb=>wpAny R.M R.A (compareOp .NotEq (.int i t) vb) Q' E' τ.s) h y fun j u h=>PyProof.Rows.ne_int (k _ τ _ h .refl S rfl)
 | str i=>obtain ⟨t⟩:=x; exact pvS.el (C:=fun vb=>wpAny R.M R.A (compareOp .NotEq (.str (toS i) t) vb) Q' E' τ.s) h y fun j u h=>PySem.P.ne_str (k _ τ _ h .refl S rfl)
 | bool i=>cases x; exact pvB.el (C:=fun vb=>wpAny R.M R.A (compareOp .NotEq (.bool i) vb) Q' E' τ.s) h y fun j h=>PyProof.Rows.ne_bool (k _ τ _ h .refl S rfl)
 | lst l =>
   refine h.el fun e h=>?_
   refine nilL (C:=fun b=>R.VR τ b vb -> wpAny R.M R.A (compareOp .NotEq va vb) Q' E' τ.s) e (fun y=>?_) y
   obtain ⟨a1,vs,k1,f1,v1⟩:=x
   obtain ⟨a2,us,k2,f2,v2⟩:=y
   cases v2
   have g1:=isListOf (S.core.frz _ _ f1)
   have g2:=isListOf (S.core.frz _ _ f2)
   have e1:=v1.isE
   cases vs with
   | nil=>rw [<- e1] at h; exact SeqAt.RcNeAt.lists (e:=fun zq=>true) g1 g2 rfl O.room.units (fun j h1 zq=>absurd h1 (Nat.not_lt_zero _)) R.P.prog R.P.w E' Q' (k _ τ _ h .refl S rfl)
   | cons=>rw [<- e1] at h; exact SeqAt.RcNeAt.lists_lengths g1 g2 rfl O.room.units R.P.prog R.P.w E' Q' (k _ τ _ h .refl S rfl)
 | _=>exact h.elim
noncomputable def isStrP:PV -> Bool | .str _=>true | _=>false
noncomputable def isIntP:PV -> Bool | .int _=>true | _=>false
noncomputable def eqStrP (s:Nm):PV -> Bool | .str t=>t == s | _=>false
noncomputable def eqIntP (i:Int):PV -> Bool | .int j=>j == i | _=>false
noncomputable def inL (a:PV) (l:List PV) (Q:Bool -> Prop):Prop:=match a with
 | .str s=>bq (l.all isStrP) (Q (l.any (eqStrP s)))
 | .int s=>bq (l.all isIntP) (Q (l.any (eqIntP s)))
 | _=>False
noncomputable def fInB (a b:PV) (Q:Bool -> Prop):Prop:=match b with
 | .tup l=>inL a l Q
 | .lst l=>inL a l Q
 | .dct l=>oq (pvS a) fun s=>Q (l.any fun e=>e.1 == s)
 | _=>False
noncomputable def fIn:F2:=fun a b Q=>fInB a b fun c=>Q (.bool c)
noncomputable def fNotIn:F2:=fun a b Q=>fInB a b fun c=>Q (.bool !c)
section
variable {P:PW} {Φ:Fz}
theorem all_go {va:Value} {A B:PV -> Bool} {e:Value -> Bool} (j:∀ p v,A p = true -> VR P Φ p v -> MeetsSeq.EqGives v va (e v) /\ e v = B p) {l:List PV} {vs:List Value} (x:VRs P Φ l vs) (h:l.all A = true) :
  (∀ y ∈ vs,MeetsSeq.EqGives y va (e y)) /\ vs.any e = l.any B:=by
 induction l generalizing vs with
 | nil=>cases x; exact ⟨fun zq h=>(nomatch h),rfl⟩
 | cons p l ih =>
  obtain ⟨v,r,x,y⟩:=x
  obtain ⟨h1,h2⟩:=Bool.and_eq_true_iff.mp h
  obtain ⟨z1,z2⟩:=ih y h2
  obtain ⟨j1,j2⟩:=j p v h1 x
  exact ⟨List.forall_mem_cons.mpr ⟨j1,z1⟩,show (e v || r.any e) = (B p || l.any B) by rw [j2,z2]⟩
noncomputable def eqStrV (s:Nm):Value -> Bool | .str y _=>y.cps.toList == s | _=>false
noncomputable def eqIntV (i:Int):Value -> Bool | .int j _=>j == i | _=>false
theorem inL.el {a:PV} {l:List PV} {va:Value} {vs:List Value} {Q:Bool -> Prop} {C:Prop} (h:inL a l Q) (x:VR P Φ a va) (y:VRs P Φ l vs) (k:∀ e:Value -> Bool,(∀ y ∈ vs.toArray,MeetsSeq.EqGives y va (e y)) -> Q (vs.toArray.any e) -> C):C:=by
 cases a with
 | str s =>
  obtain ⟨t⟩:=x
  refine bq.el h fun g h=>?_
  obtain ⟨z1,z2⟩:=all_go (e:=eqStrV s) (B:=eqStrP s) (va:=.str (toS s) t) (fun p v q x=>by cases p with | str r=>obtain ⟨u⟩:=x; exact ⟨SeqRoads2.EqGives.str (toS r) (toS s) u t,rfl⟩ | _=>cases q) y g
  exact k _ (fun y hy=>z1 y (List.mem_toArray.mp hy)) (by rw [List.any_toArray,z2]; exact h)
 | int s =>
  obtain ⟨t⟩:=x
  refine bq.el h fun g h=>?_
  obtain ⟨z1,z2⟩:=all_go (e:=eqIntV s) (B:=eqIntP s) (va:=.int s t) (fun p v q x=>by cases p with | int r=>obtain ⟨u⟩:=x; exact ⟨MeetsSeq.EqGives.int r s u t,rfl⟩ | _=>cases q) y g
  exact k _ (fun y hy=>z1 y (List.mem_toArray.mp hy)) (by rw [List.any_toArray,z2]; exact h)
 | _=>exact h.elim
noncomputable def fd {α β:Type} [BEq α] (l:List (α × β)) (k:α):Option β:=match l with | []=>none | e :: l=>cond (e.1 == k) (some e.2) (fd l k)
theorem fd_any {α β:Type} [BEq α] {l:List (α × β)} {k:α}:(fd l k).isSome = l.any fun e=>e.1 == k:=by
 induction l with
 | nil=>rfl
 | cons e l ih=>show Option.isSome (cond (e.1 == k) (some e.2) (fd l k)) = (e.1 == k || l.any _); cases e.1 == k with | true=>rfl | false=>exact ih
inductive OptR {α β:Type} (A:α -> β -> Prop):Option α -> Option β -> Prop | some (a:α) (b:β) (x:A a b):OptR A (some a) (some b) | none:OptR A none none
theorem VRd.value {s:Nm} {l:List (Nm × PV)} {kvs:List (Str × Value)} (x:VRd P Φ l kvs):OptR (VR P Φ) (fd l s) (valueAt kvs (toS s)):=by
 induction l generalizing kvs with
 | nil=>cases x; exact .none
 | cons e l ih =>
  obtain ⟨m,p⟩:=e
  obtain ⟨v,r,x,y⟩:=x
  refine Decidable.byCases (fun q:m = s=>?_) fun q=>?_
  ·subst q
   rw [show fd ((m,p) :: l) m = some p from by show cond (m == m) _ _ = _; rw [beq_self_eq_true]; rfl,show valueAt ((toS m,v) :: r) (toS m) = some v from by simp [valueAt]]
   exact .some _ _ x
  ·rw [show fd ((m,p) :: l) s = fd l s from by show cond (m == s) _ _ = _; rw [beq_eq_false_iff_ne.mpr q]; rfl,show valueAt ((toS m,v) :: r) (toS s) = valueAt r (toS s) from by simp [valueAt,List.find?_cons,toS_eq,q]]
   exact ih y
theorem OptR.isSome {α β:Type} {A:α -> β -> Prop} {x:Option α} {y:Option β} (h:OptR A x y):y.isSome = x.isSome:=by cases h <;> rfl
theorem keyIs (s:Nm) (t:Tok):P.sk.is (toS s) (.str (toS s) t) = true:=by simp [strKind,Value.isStrOf]
end
theorem p_in:Prim2H (compareOp .In) fIn:=fun cx R fr ow τ va vb a b O S x y=>.mk fun Q Q' E' h k=>by
 cases b with
 | tup l=>obtain ⟨a2,us,k2,f2,v2⟩:=y; exact inL.el (a:=a) (l:=l) (Q:=fun c=>Q (.bool c) τ.G) h x v2 fun e z h=>SeqAt.in_tupleAt e (isTupleOf f2) (fun y hy=>(z y hy).at _ _) (k _ τ _ h .refl S rfl)
 | lst l=>obtain ⟨a2,us,k2,f2,v2⟩:=y; exact inL.el (a:=a) (l:=l) (Q:=fun c=>Q (.bool c) τ.G) h x v2 fun e z h=>SeqAt.in_listAt e (isListOf f2) (fun y hy=>(z y hy).at _ _) (k _ τ _ h .refl S rfl)
 | dct l =>
  obtain ⟨a2,ob,kvs,f2,m2,d2,v2⟩:=y
  refine pvS.el (C:=fun va=>wpAny R.M R.A (compareOp .In va (.ref a2)) Q' E' τ.s) h x fun s t h=>?_
  rw [<- fd_any,<- (VRd.value v2).isSome] at h
  exact wpAny_in_of (keyIs s t) m2 (d2.at f2).mapOf (k _ τ.tk _ h .tok S.tok rfl)
 | _=>exact h.elim
theorem p_notIn:Prim2H (compareOp .NotIn) fNotIn:=fun cx R fr ow τ va vb a b O S x y=>.mk fun Q Q' E' h k=>by
 cases b with
 | tup l=>obtain ⟨a2,us,k2,f2,v2⟩:=y; exact inL.el (a:=a) (l:=l) (Q:=fun c=>Q (.bool !c) τ.G) h x v2 fun e z h=>SeqAt.notIn_tupleAt e (isTupleOf f2) (fun y hy=>(z y hy).at _ _) (k _ τ _ h .refl S rfl)
 | lst l=>obtain ⟨a2,us,k2,f2,v2⟩:=y; exact inL.el (a:=a) (l:=l) (Q:=fun c=>Q (.bool !c) τ.G) h x v2 fun e z h=>SeqAt.notIn_listAt e (isListOf f2) (fun y hy=>(z y hy).at _ _) (k _ τ _ h .refl S rfl)
 | dct l =>
  obtain ⟨a2,ob,kvs,f2,m2,d2,v2⟩:=y
  refine pvS.el (C:=fun va=>wpAny R.M R.A (compareOp .NotIn va (.ref a2)) Q' E' τ.s) h x fun s t h=>?_
  rw [<- fd_any,<- (VRd.value v2).isSome] at h
  exact wpAny_notIn_of (keyIs s t) m2 (d2.at f2).mapOf (k _ τ.tk _ h .tok S.tok rfl)
 | _=>exact h.elim
end
section
variable {cx:Cx}
noncomputable def HV.of:PV -> HV
 | .reg k=>.rg k
 | p=>.v p
theorem Held.of {P:PW} {Φ:Fz} {ow:List (List Addr)} {p:PV} {v:Value} (x:VR P Φ p v):Held P Φ ow (HV.of p) v:=by cases p <;> exact x
noncomputable def dOf (d:DE):DH:=fun o fr G Q=>d o fr G fun a G=>Q (HV.of a) G
theorem SE.held {e:Expr} {d:DE} (x:SE cx e d):SH cx e (dOf d) :=
 fun R fr ow τ O S=>.mk fun zq zq zq h k=>(x R fr ow τ O S).use h fun zq τ1 zq h t1 S v1=>k _ τ1 _ h t1 S (Held.of v1)
noncomputable def fh (fr:Fr) (i:Nat):Option HV:=match fr[i]? with
 | some (.val p)=>some (HV.of p)
 | some (.ol _)=>some (.sl i)
 | some (.od _)=>some (.sl i)
 | _=>none
noncomputable def dNameH (i:Nat):DH:=fun zq fr G Q=>oq (fh fr i) fun p=>Q p G
theorem fh_at {P:PW} {Φ:Fz} {h:Heap} {fr:Fr} {i:Nat} {p:HV} (e:fh fr i = some p):∃ lv,fr[i]? = some lv /\ ∀ {v own} {ow:List (List Addr)},ow[i]? = some own -> LR P Φ h lv v own -> ∃ x,v = some x /\ Held P Φ ow p x:=by
 unfold fh at e
 cases q:fr[i]? with
 | none=>rw [q] at e; cases e
 | some lv =>
  rw [q] at e
  refine ⟨lv,rfl,fun {v own ow} hw l=>?_⟩
  cases lv with
  | val p=>cases e; obtain ⟨x,y⟩:=l; exact ⟨x,rfl,Held.of y⟩
  | ol l'=>cases e; obtain ⟨a,o,m,g,c⟩:=l; exact ⟨_,rfl,a,hw⟩
  | od l'=>cases e; obtain ⟨a,o,m,g,c⟩:=l; exact ⟨_,rfl,a,hw⟩
  | _=>cases e
theorem H.name {x:Str} {k:NameKind} {i:Nat} {pos:Pos} (hm:(x,k,i) ∈ cx.tb) (hx:okName x = true):SH cx (.Name x pos) (dNameH i) :=
 fun R fr ow τ O S=>.mk fun zq zq zq h j=>h.el fun p e h=>by
  obtain ⟨pl,hpl,hk⟩:=O.tb x k i hm
  obtain ⟨lv,e1,e2⟩:=fh_at (P:=R.P) (Φ:=τ.Φ) (h:=τ.h) e
  obtain ⟨pl',o,h1,h2,v,hv,l⟩:=S.slots.get e1
  cases hpl.symm.trans h1
  obtain ⟨v,rfl,l'⟩:=e2 h2 l
  exact wpAny_Name (loadName_place O.kind hk (okName.el hx).1 hv (j _ τ _ h .refl S l')) (okName.el hx).2
theorem subTail {P:PW} {A:Around} {E:Value -> Shared -> Prop} {s:Shared} {value slice:Expr} {o i:Value} {T id:String} {Q:Value -> Shared -> Prop} (hT:s.TypeIs o T)
  (hl:typeLookup (.type T) "__getitem__" = pure (some (.builtin id))) (h:wpAny P.M A (getItem o i) Q E s)
  (hs:∃ l,subscripted slice false o i = operate l (getItem o i)):wpAny P.M A (PyProof.Rows.subscriptTail value slice o i) Q E s:=by
 unfold PyProof.Rows.subscriptTail
 refine wpAny_bind ?_
 rw [getitemInPython_of_ne hT.not_modules]
 refine wpAny_bind (wpAny_specialOf hT hl ?_)
 have fin:wpAny P.M A (subscripted slice false o i) (fun r s₃=>wpAny P.M A (letTemporaryGo value o r >>= fun zq=>pure r) Q E s₃) E s:=by
  obtain ⟨l,hs⟩:=hs
  rw [hs]
  exact wpAny_operating (wpAny_mono h (fun r s₃ h₃=>wpAny_bind (wpAny_letTemporaryGo (wpAny_pure h₃))) fun zq zq x=>x)
 first
  | exact wpAny_pure (wpAny_bind fin)
  | exact wpAny_bind (wpAny_pure (wpAny_bind fin))
  | exact wpAny_bind fin
noncomputable def idxP {α:Type} (l:List α) (i:Int):Option α:=cond (decide (0 <= i)) l[i.toNat]? (cond (decide (-(l.length:Int) <= i)) l[(i + l.length).toNat]? none)
theorem idx_el {α:Type} {l:List α} {i:Int} {x:α} {C:Prop} (e:idxP l i = some x) (k:0 <= i -> l[i.toNat]? = some x -> C) (k2:i < 0 -> -(l.length:Int) <= i -> l[(i + l.length).toNat]? = some x -> C):C:=by
 unfold idxP at e
 cases h:decide (0 <= i) with
 | true=>rw [h] at e; exact k (of_decide_eq_true h) e
 | false =>
  rw [h] at e
  cases h2:decide (-(l.length:Int) <= i) with
  | true=>rw [h2] at e; exact k2 (Int.not_le.mp (of_decide_eq_false h)) (of_decide_eq_true h2) e
  | false=>rw [h2] at e; cases e
theorem seqIndex_neg {k:Int} {n:Nat} (h0:k < 0) (h1:-(n:Int) <= k):seqIndex? k n = some (k + n).toNat:=by
 unfold seqIndex?
 simp only [h0,if_true]
 rw [if_pos]
 simp; omega
theorem VRs.idx {P:PW} {Φ:Fz} {l:List PV} {vs:List Value} {i:Int} {c:PV} (x:VRs P Φ l vs) (e:idxP l i = some c):∃ y,idxP vs i = some y /\ VR P Φ c y:=by
 unfold idxP at e ⊢
 rw [x.length]
 cases h:decide (0 <= i) with
 | true=>rw [h] at e; exact x.get e
 | false =>
  rw [h] at e
  cases h2:decide (-(l.length:Int) <= i) with
  | true=>rw [h2] at e; exact x.get e
  | false=>rw [h2] at e; cases e
noncomputable abbrev okI (i:Int):Bool:=decide (-(2 ^ 62) <= i /\ i < 2 ^ 62)
noncomputable def fIdx:F2:=fun a b Q=>match a with
 | .lst l=>oq (pvI b) fun i=>bq (okI i) (oq (idxP l i) Q)
 | .tup l=>oq (pvI b) fun i=>bq (okI i) (oq (idxP l i) Q)
 | .str s=>oq (pvI b) fun i=>bq (decide (0 <= i /\ i < 2 ^ 62)) (oq s[i.toNat]? fun c=>Q (.str [c]))
 | .dct l=>oq (pvS b) fun k=>oq (fd l k) Q
 | _=>False
theorem okI.lo {i:Int} (h:okI i = true):-(2 ^ 63) <= i:=Int.le_trans (by decide) (of_decide_eq_true h).1
theorem okI.hi {i:Int} (h:i < 2 ^ 62):i < 2 ^ 63:=Int.lt_trans h (by decide)
theorem OptR.el {α β:Type} {A:α -> β -> Prop} {x:Option α} {y:Option β} {p:α} {C:Prop} (h:OptR A x y) (e:x = Option.some p) (k:∀ v,y = Option.some v -> A p v -> C):C:=by cases h with | some a b z=>cases e; exact k b rfl z | none=>cases e
theorem p_idx {value slice:Expr} (hs:∀ o i,∃ l,subscripted slice false o i = operate l (getItem o i)):PrimH2 (PyProof.Rows.subscriptTail value slice) fIdx:=fun cx R fr ow τ va vb a b O S x y=>.mk fun Q Q' E' h k=>by
 cases a with
 | lst l =>
  obtain ⟨a1,vs,k1,f1,v1⟩:=x
  refine pvI.el (C:=fun vb=>wpAny R.M R.A (PyProof.Rows.subscriptTail value slice (.ref a1) vb) Q' E' τ.s) h y fun i t h=>bq.el h fun g h=>oq.el h fun c e h=>?_
  obtain ⟨z,hz,vz⟩:=v1.idx e
  refine subTail (isListOf f1).typeIs slot_list_getitem.lookup ?_ (hs _ _)
  have fin:=k _ τ _ h .refl S vz
  exact idx_el hz (fun h0 hz=>wpAny_getItem_list (isListOf f1) h0 (okI.hi (of_decide_eq_true g).2) (by simpa using hz) fin) fun h0 h1 hz=>wpAny_getItem_list_neg (isListOf f1) h0 (by simpa using h1) (okI.lo g) (by simpa using hz) fin
 | tup l =>
  obtain ⟨a1,vs,k1,f1,v1⟩:=x
  refine pvI.el (C:=fun vb=>wpAny R.M R.A (PyProof.Rows.subscriptTail value slice (.ref a1) vb) Q' E' τ.s) h y fun i t h=>bq.el h fun g h=>oq.el h fun c e h=>?_
  obtain ⟨z,hz,vz⟩:=v1.idx e
  refine subTail (isTupleOf f1).typeIs PySem.F.slot_tuple_getitem.lookup ?_ (hs _ _)
  have fin:=k _ τ _ h .refl S vz
  have g2:=okI.hi (of_decide_eq_true g).2
  refine idx_el hz (fun h0 hz=>P.getItem_tuple (n:=k1) f1 (okI.lo g) g2 (seqIndex_of h0 ?_) (by simpa using hz) fin) fun h0 h1 hz=>P.getItem_tuple (n:=k1) f1 (okI.lo g) g2 (seqIndex_neg h0 (by simpa using h1)) (by simpa using hz) fin
  have:=(List.getElem?_eq_some_iff.mp hz).1
  simp; omega
 | str ss =>
  obtain ⟨u⟩:=x
  refine pvI.el (C:=fun vb=>wpAny R.M R.A (PyProof.Rows.subscriptTail value slice (.str (toS ss) u) vb) Q' E' τ.s) h y fun i t h=>bq.el h fun g h=>oq.el h fun c e h=>?_
  refine subTail (typeIs_str τ.s _ _) PySem.F.slot_str_getitem.lookup ?_ (hs _ _)
  obtain ⟨g1,g2⟩:=of_decide_eq_true g
  refine P.getItem_str (c:=c) (by simp; omega) ?_ (k _ τ.tk _ h .tok S.tok ⟨_⟩)
  obtain ⟨hl,_⟩:=List.getElem?_eq_some_iff.mp e
  have:(toS ss).length = ss.length:=by simp [toS,Str.length]
  rw [this,seqIndex_of g1 (by omega)]
  simpa [toS] using e
 | dct l =>
  obtain ⟨a2,ob,kvs,f2,m2,d2,v2⟩:=x
  refine pvS.el (C:=fun vb=>wpAny R.M R.A (PyProof.Rows.subscriptTail value slice (.ref a2) vb) Q' E' τ.s) h y fun s t h=>oq.el h fun c e h=>(VRd.value v2).el e fun v hv vv=>?_
  have g2:=(d2.at f2).mapOf
  exact subTail g2.typeIs slot_dict_getitem.lookup (wpAny_getItem_of (keyIs s t) g2 hv (k _ τ.tk _ h .tok S.tok vv)) (hs _ _)
 | _=>exact h.elim
noncomputable def dSub (v:DH) (i:DE):DE:=fun o fr G Q=>v o fr G fun a G=>i o fr G fun b G=>oq (a.res fr G) fun p=>fIdx p b fun c=>Q c G
theorem E.sub {v i:Expr} {pos:Pos} {dv:DH} {di:DE} (hs:∀ o j,∃ l,subscripted i false o j = operate l (getItem o j)) (x:SH cx v dv) (y:SE cx i di):SE cx (.Subscript v i pos) (dSub dv di) :=
 fun R fr ow τ O S=>.mk fun Q zq zq h k=>PyProof.Rows.Subscript_ ((x R fr ow τ O S).use h fun zq τ1 zq h t1 S v1=>(y R fr ow τ1 O S).use h fun zq τ2 zq h t2 S v2=>oq.el h fun zq e h =>
  (p_idx hs cx R fr ow τ2 _ _ _ _ O S (S.held (v1.mono t2.le) e) v2).use (Q:=Q) h fun zq τ3 zq h t3 S v3=>k _ τ3 _ h (t1.trans (t2.trans t3)) S v3)
noncomputable def dBinH (f:F2) (l:DE) (r:DH):DE:=fun o fr G Q=>l o fr G fun a G=>r o fr G fun b G=>oq (b.res fr G) fun p=>f a p fun c=>Q c G
section
variable {op:CmpOp} {l r:Expr} {pos:Pos} {f:F2} {dl:DE} {dr:DH}
theorem E.cmpH (hm:behindInMarks op r = false) (p:Prim2H (compareOp op) f) (x:SE cx l dl) (y:SH cx r dr):SE cx (.Compare l [op] [r] pos) (dBinH f dl dr) :=
 fun R fr ow τ O S=>.mk fun Q zq zq h k=>wpAny_Compare1 ((x R fr ow τ O S).use h fun zq τ1 zq h t1 S v1=>(y R fr ow τ1 O S).use h fun zq τ2 zq h t2 S v2=>oq.el h fun zq e h =>
  (p cx R fr ow τ2 _ _ _ _ O S (VR.mono t2.le _ _ v1) (S.held v2 e)).use (Q:=Q) h fun zq τ3 zq h t3 S v3=>k _ τ3 _ h (t1.trans (t2.trans t3)) S v3) hm
theorem B.cmpH (hm:behindInMarks op r = false) (p:Prim2H (compareOp op) f) (x:SE cx l dl) (y:SH cx r dr):SB cx (.Compare l [op] [r] pos) (dB (dBinH f dl dr)) :=
 fun R fr ow τ O S=>.mk fun Q Q' E' h k=>wpAny_isTrue_Compare1 ((x R fr ow τ O S).use h fun zq τ1 zq h t1 S v1=>(y R fr ow τ1 O S).use h fun zq τ2 zq h t2 S v2=>oq.el h fun zq e h =>
  (p cx R fr ow τ2 _ _ _ _ O S (VR.mono t2.le _ _ v1) (S.held v2 e)).use (Q:=fun a G=>oq (pvB a) fun b=>Q b G) h fun zq τ3 zq h t3 S v3 =>
   pvB.el (C:=fun v=>wpAny R.M R.A (truthy v) Q' E' τ3.s) h v3 fun b h=>wpAny_truthy_bool (k b τ3 _ h (t1.trans (t2.trans t3)) S rfl)) hm
end
end
section
variable {cx:Cx}
section
variable {R:Rn} {fr:Fr} {ow:List (List Addr)} {τ:Tau} {P:PW} {K:Frag} {h h':Heap} {Φ Φ':Fz} {G':Gs}
theorem loadGlobal_K {M:Model} {A:Around} {E:Value -> Shared -> Prop} {s:Shared} {env:Env} {x:Str} {v:Value} {Q:Value -> Shared -> Prop} (Y:K.In s.heap) (hgl:env.globals = mainGlobals) (hbl:env.builtins = builtinsNs) (hg:gv K x = some v) (hq:Q v s):wpAny M A (loadGlobal env x) Q E s:=by
 unfold loadGlobal
 rw [hgl,hbl]
 unfold gv at hg
 cases e:nsIn K mainGlobals x with
 | none=>rw [e] at hg; cases hg
 | some o =>
  rw [e] at hg
  refine wpAny_bind ((looks_nsIn Y e) A _ E s (fun zq zq q=>q) ?_)
  cases o with
  | some u=>cases hg; exact wpAny_pure hq
  | none =>
   cases e2:nsIn K builtinsNs x with
   | none=>rw [e2] at hg; cases hg
   | some o =>
    rw [e2] at hg
    cases o with
    | none=>cases hg
    | some u=>cases hg; exact wpAny_bind ((looks_nsIn Y e2) A _ E s (fun zq zq q=>q) (wpAny_pure hq))
theorem evalGlobal {E:Value -> Shared -> Prop} {x:Str} {pos:Pos} {v:Value} {Q:Value -> Shared -> Prop} (O:R.Ok cx) (S:St R fr ow τ) (hm:x ∈ cx.gl) (hx:okName x = true) (hg:gv R.K x = some v) (hq:Q v τ.s) :
  wpAny R.M R.A (eval (.Name x pos) R.X.env) Q E τ.s :=
 Name_function_global O.kind (O.gl x hm) (loadGlobal_K (S.kin O) O.glob O.blt hg hq) (okName.el hx).2
theorem St.call (O:R.Ok cx) (S:St R fr ow τ) {s':Shared} (C:Core R.P τ.h τ.Φ Φ' s'.heap G'):St R fr ow ⟨G',Φ',s'⟩ :=
 have kp:∀ b o,b ∈ R.X.own ow -> τ.h.get? b = some o -> s'.heap.get? b = some o:=fun b o hb e=>C.keep b o e fun hd=>(S.off b hb).r (.d hd)
 {core:=S.core.trans C
  slots:=S.slots.keeps C.mono (fun b o hb=>kp b o (by obtain ⟨p,hp,rfl⟩:=List.mem_map.mp hb; exact List.mem_append_left _ (List.mem_append_left _ (O.plf p hp)))) fun b o hb=>kp b o (List.mem_append_right _ hb)
  nd:=S.nd
  off:=fun a ha =>
   have z:∀ {C:Prop},τ.h.get? a = none -> C:=fun e=>no_live e (S.all ha)
   ⟨not_some fun ⟨o',q⟩=>(C.new a o' q).elim (fun ⟨o'',e⟩=>nomatch (S.off a ha).f.symm.trans e) z,(S.off a ha).h0,fun hr =>
    by cases hr with
      | a h=>obtain ⟨c,hc,rfl⟩:=List.mem_map.mp h; exact (C.rnew c hc).elim (fun hc=>(S.off _ ha).r (.a (mem_ras hc))) fun hc=>z hc.2
      | d h=>obtain ⟨c,hc,rfl⟩:=List.mem_map.mp h; exact (C.rnew c hc).elim (fun hc=>(S.off _ ha).r (.d (mem_rds hc))) fun hc=>z hc.1⟩
  live:=fun a ha=>by obtain ⟨o',e⟩:=S.live a ha; exact ⟨o',kp a o' (List.mem_append_left _ (List.mem_append_left _ ha)) e⟩
  still:=fun p hp=>kp _ _ (List.mem_append_left _ (List.mem_append_right _ (List.mem_map_of_mem hp))) (S.still p hp) }
theorem St.pre (O:R.Ok cx) (S:St R fr ow τ):Pre R.P R.K τ.h τ.Φ τ.G where
 core:=⟨S.core.frz,Fz.le_refl,fun a o e=>.inl ⟨o,e⟩,fun zq zq e zq=>e,S.core.regs,S.core.rfr,fun zq hc=>.inl hc,S.core.sep⟩
 kb:=O.kb.mono S.core.mono
noncomputable def isFnK (K:Frag) (f:Addr):Bool:=match K.lookup f with
 | some ⟨_,_,.func _,_⟩=>true
 | _=>false
set_option tactic.hygienic true in
theorem isFnK_data {f:Addr} (e:isFnK K f = true):∃ ob fd,K.lookup f = some ob /\ ob.data = .func fd:=by
 unfold isFnK at e
 split at e
 ·rename_i c d fd sl ho; exact ⟨_,fd,ho,rfl⟩
 ·cases e
theorem call_use {o:CallT} {n:Nat} (hO:Contract P K o n) {f:Addr} {args:List PV} {vs:List Value} {A:Around} {s:Shared} {G:Gs} {Q:PV -> Gs -> Prop} (h:o f args G Q) (pr:Pre P K s.heap Φ G) (v:VRs P Φ args vs) (r:Room n A)
  {Q':Value -> Shared -> Prop} {E':Value -> Shared -> Prop} (k:∀ p G' Φ' s' v,Q p G' -> Sm s s' -> Core P s.heap Φ Φ' s'.heap G' -> VR P Φ' p v -> Q' v s'):wpAny P.M A (PySem.call (.ref f) vs) Q' E' s :=
 wpAny_call (codeAny_mono (hO f args G Q h Φ s vs A pr v r) fun r zq q=>by
  cases r with
  | error e=>exact q.elim
  | ok fl=>cases fl with
   | ret v=>obtain ⟨p,G',Φ',_,a,b,c,d⟩:=q; exact k p G' Φ' _ v a b c d
   | _=>exact q.elim)
theorem St.useCall (O:R.Ok cx) (S:St R fr ow τ) {o:CallT} {n:Nat} (hO:Contract R.P R.K o n) (r:Room n R.A) {f:Addr} {args:List PV} {vs:List Value} {Q:PV -> Gs -> Prop} (h:o f args τ.G Q) (v:R.VRs τ args vs)
  {Q':Value -> Shared -> Prop} {E':Value -> Shared -> Prop} (k:∀ p τ' v,Q p τ'.G -> To τ τ' -> St R fr ow τ' -> R.VR τ' p v -> Q' v τ'.s):wpAny R.M R.A (PySem.call (.ref f) vs) Q' E' τ.s :=
 call_use hO h (S.pre O) v r fun p G' Φ' s' v q t c w=>k p ⟨G',Φ',s'⟩ v q ⟨t,c.mono⟩ (S.call O c) w
end
noncomputable def dCall (f:Addr) (d:DL):DE:=fun o fr G Q=>d o fr G fun l G=>o.c f l G Q
theorem E.call {x:Str} {np pos:Pos} {e:Expr} {es:List Expr} {f:Addr} {d:DL} (hm:x ∈ cx.gl) (hx:okName x = true) (hg:∀ P K,cx.kp P K -> gv K x = some (.ref f) /\ isFnK K f = true)
  (he:∀ env,starEach (e :: es) env = (false,eval e env) :: starEach es env) (y:SL cx (e :: es) d):SE cx (.Call (.Name x np) (e :: es) [] pos) (dCall f d) :=
 fun R fr ow τ O S=>.mk fun Q zq zq h k=>by
  obtain ⟨hg,hf⟩:=hg _ _ O.kk
  obtain ⟨ob,fd,ho,hdt⟩:=isFnK_data hf
  refine PyProof.Rows.Call_ (evalGlobal O S hm hx hg (PyProof.Rows.callWith_def hdt ?_ (he _)))
  exact (y R fr ow τ pos O S).use h fun zq τ1 zq h t1 S v1=>⟨S.kin O _ _ ho,S.useCall O O.con O.room h v1 fun zq τ2 zq h t2 S v2=>k _ τ2 _ h (t1.trans t2) S v2⟩
noncomputable def fLen (a:PV) (Q:PV -> Prop):Prop:=match a with
 | .lst l=>bq (decide (l.length < 2 ^ 62)) (Q (.int l.length))
 | .tup l=>bq (decide (l.length < 2 ^ 62)) (Q (.int l.length))
 | _=>False
theorem len_fits {P:PW} {Φ:Fz} {l:List PV} {vs:List Value} (x:VRs P Φ l vs) (h:decide (l.length < 2 ^ 62) = true):(vs.toArray.size:Int) < 2 ^ 63:=by
 have:=of_decide_eq_true h; rw [List.size_toArray,x.length]; omega
theorem len_vr {P:PW} {Φ:Fz} {l:List PV} {vs:List Value} {t:Tok} (x:VRs P Φ l vs):IsInt l.length (.int vs.toArray.size t):=by rw [List.size_toArray,x.length]; exact ⟨_⟩
noncomputable def dLen (d:DH):DE:=fun o fr G Q=>d o fr G fun a G=>oq (a.res fr G) fun p=>fLen p fun c=>Q c G
theorem E.len {np pos:Pos} {e:Expr} {d:DH} {x:Str} (hm:x ∈ cx.gl) (hx:okName x = true) (hg:∀ P K,cx.kp P K -> gv K x = some (.builtin "len")) (he:∀ env,starEach [e] env = [(false,eval e env)])
  (y:SH cx e d):SE cx (.Call (.Name x np) [e] [] pos) (dLen d) :=
 fun R fr ow τ O S=>.mk fun Q zq zq h k=>by
  refine PyProof.Rows.Call_ (evalGlobal O S hm hx (hg _ _ O.kk) (PyProof.Rows.callWith_builtin1 (PyProof.Rows.args_cons ((y R fr ow τ O S).use h fun zq τ1 zq h t1 S v1=>PyProof.Rows.args_nil (oq.el h fun p e h=>?_)) (he _)) (he _)))
  have hv:=S.held v1 e
  cases p with
  | lst l=>obtain ⟨b,vs,n,f1,r1⟩:=hv; exact bq.el h fun g h=>PyProof.Rows.len_list (isListOf f1) (len_fits r1 g) (k _ ⟨τ1.G,τ1.Φ,{ τ1.s with toks:=τ1.s.toks + 1 + 1 }⟩ _ h (t1.trans .tok) S.tok (len_vr r1))
  | tup l=>obtain ⟨b,vs,n,f1,r1⟩:=hv; exact bq.el h fun g h=>P.len_tuple (n:=n) f1 (Int.not_le.mpr (len_fits r1 g)) (k _ ⟨τ1.G,τ1.Φ,{ τ1.s with toks:=τ1.s.toks + 1 + 1 }⟩ _ h (t1.trans .tok) S.tok (len_vr r1))
  | _=>exact h.elim
end
section
variable {cx:Cx}
inductive Flo where
 | nx
 | rt (p:PV)
noncomputable abbrev WS:=(Flo -> Fr -> Gs -> Prop) -> Prop
noncomputable abbrev DS:=Orc -> Fr -> Gs -> WS
noncomputable abbrev DA:=Orc -> PV -> Fr -> Gs -> (Fr -> Gs -> Prop) -> Prop
noncomputable abbrev DAs:=Orc -> List PV -> Fr -> Gs -> (Fr -> Gs -> Prop) -> Prop
inductive FloR (P:PW) (Φ:Fz):Flo -> Flow -> Prop
 | nx:FloR P Φ .nx .next
 | rt (p:PV) (v:Value) (x:VR P Φ p v):FloR P Φ (.rt p) (.ret v)
inductive PoS (R:Rn) (τ:Tau) (Q:Flo -> Fr -> Gs -> Prop) (f:Flow):Shared -> Prop
 | mk (fl:Flo) (fr':Fr) (ow':List (List Addr)) (τ':Tau) (q:Q fl fr' τ'.G) (t:To τ τ') (S:St R fr' ow' τ') (r:FloR R.P τ'.Φ fl f):PoS R τ Q f τ'.s
noncomputable def Ts (R:Rn) (τ:Tau) (t:Sem Flow) (d:WS):Prop:=∀ Q,d Q -> wpAny R.M R.A t (PoS R τ Q) (fun zq zq=>False) τ.s
inductive PoA (R:Rn) (τ:Tau) (Q:Fr -> Gs -> Prop) (_:Unit):Shared -> Prop
 | mk (fr':Fr) (ow':List (List Addr)) (τ':Tau) (q:Q fr' τ'.G) (t:To τ τ') (S:St R fr' ow' τ'):PoA R τ Q () τ'.s
noncomputable def Ta (R:Rn) (τ:Tau) (t:Sem Unit) (d:(Fr -> Gs -> Prop) -> Prop):Prop:=∀ Q,d Q -> wpAny R.M R.A t (PoA R τ Q) (fun zq zq=>False) τ.s
section
variable {R:Rn} {τ:Tau}
theorem Ts.mk {t:Sem Flow} {d:WS} (x:∀ Q Q' E',d Q -> (∀ fl fr' ow' τ' v,Q fl fr' τ'.G -> To τ τ' -> St R fr' ow' τ' -> FloR R.P τ'.Φ fl v -> Q' v τ'.s) -> wpAny R.M R.A t Q' E' τ.s):Ts R τ t d :=
 fun Q h=>x Q _ _ h fun fl fr' ow' τ' v a b c e=>⟨fl,fr',ow',τ',a,b,c,e⟩
theorem Ts.use {t:Sem Flow} {d:WS} (x:Ts R τ t d) {Q:Flo -> Fr -> Gs -> Prop} (h:d Q) {Q':Flow -> Shared -> Prop} {E':Value -> Shared -> Prop} (k:∀ fl fr' ow' τ' v,Q fl fr' τ'.G -> To τ τ' -> St R fr' ow' τ' -> FloR R.P τ'.Φ fl v -> Q' v τ'.s):wpAny R.M R.A t Q' E' τ.s :=
 wpAny_mono (x Q h) (fun v zq y=>by obtain ⟨p,fr',ow',τ',a,b,c,e⟩:=y; exact k p fr' ow' τ' v a b c e) fun zq zq f=>f.elim
theorem Ta.mk {t:Sem Unit} {d:(Fr -> Gs -> Prop) -> Prop} (x:∀ Q Q' E',d Q -> (∀ fr' ow' τ',Q fr' τ'.G -> To τ τ' -> St R fr' ow' τ' -> Q' () τ'.s) -> wpAny R.M R.A t Q' E' τ.s):Ta R τ t d :=
 fun Q h=>x Q _ _ h fun fr' ow' τ' a b c=>⟨fr',ow',τ',a,b,c⟩
theorem Ta.use {t:Sem Unit} {d:(Fr -> Gs -> Prop) -> Prop} (x:Ta R τ t d) {Q:Fr -> Gs -> Prop} (h:d Q) {Q':Unit -> Shared -> Prop} {E':Value -> Shared -> Prop} (k:∀ fr' ow' τ',Q fr' τ'.G -> To τ τ' -> St R fr' ow' τ' -> Q' () τ'.s):wpAny R.M R.A t Q' E' τ.s :=
 wpAny_mono (x Q h) (fun v zq y=>by obtain ⟨fr',ow',τ',a,b,c⟩:=y; exact k fr' ow' τ' a b c) fun zq zq f=>f.elim
end
noncomputable def SX (cx:Cx) (st:Stmt) (d:DS):Prop:=∀ R fr ow τ,R.Ok cx -> St R fr ow τ -> Ts R τ (exec st R.X.env) (d R.o fr τ.G)
noncomputable def SS (cx:Cx) (ss:List Stmt) (d:DS):Prop:=∀ R fr ow τ,R.Ok cx -> St R fr ow τ -> Ts R τ (execs ss R.X.env) (d R.o fr τ.G)
noncomputable def SA (cx:Cx) (t:Expr) (d:DA):Prop:=∀ R fr ow τ v p,R.Ok cx -> St R fr ow τ -> R.VR τ p v -> Ta R τ (assign t R.X.env v) (d R.o p fr τ.G)
noncomputable def SAs (cx:Cx) (ts:List Expr) (d:DAs):Prop:=∀ R fr ow τ vs ps,R.Ok cx -> St R fr ow τ -> R.VRs τ ps vs -> Ta R τ (assignInOrder ((assignEach ts R.X.env).map (fun q=>q.2)) vs) (d R.o ps fr τ.G)
structure SetAt (p:Place) (v:Value) (h h':Heap):Prop where
 has:p.Has h' (some v)
 k:∀ b o,b ≠ p.at -> h.get? b = some o -> h'.get? b = some o
 live:∃ o,h'.get? p.at = some o
 q:∀ q u,q ≠ p -> q.Has h u -> q.Has h' u
theorem store_place {P:PW} {A:Around} {E:Value -> Shared -> Prop} {s:Shared} {env:Env} {x:Str} {k:NameKind} {p:Place} {v0:Option Value} {v:Value} {Q:Unit -> Shared -> Prop} (hk:env.scope.kind = .function)
  (hp:Resolves env x k p) (hf:(k == .free) = false) (hv:p.Has s.heap v0) (h:∀ h' tk',SetAt p v s.heap h' -> Q () { s with heap:=h',toks:=tk' }):wpAny P.M A (storeName env x v) Q E s:=by
 have hp:Res2 env x (env.kindOf x) k p:=hp
 generalize hq:env.kindOf x = q at hp
 cases hp with
 | loc =>
  obtain ⟨m,hn,e⟩:=hv
  refine wpAny_storeName_local hq hn (fun h' hn' hs=>h h' _ ⟨⟨_,hn',by simp⟩,fun b o hb e=>(hs.2 b hb).trans e,Ns.live hn',fun q u hq hu=>?_⟩) (by rw [hk]; rfl)
  cases q with
  | loc L y =>
   obtain ⟨m2,hn2,e2⟩:=hu
   refine Decidable.byCases (fun hL:L = env.locals=>?_) fun hL=>⟨m2,hn2.sameBut hs hL,e2⟩
   subst hL
   have hy:y ≠ x:=fun q=>hq (by rw [q])
   have em:m2 = m:=(hn2.eq_nsMap).trans (hn.eq_nsMap).symm
   exact ⟨_,hn',(if_neg hy).trans (by rw [<- em]; exact e2)⟩
  | cell c =>
   obtain ⟨oc,hoc,hdc⟩:=hu
   refine ⟨oc,(hs.2 c ?_).trans hoc,hdc⟩
   rintro rfl
   obtain ⟨o,es,ep,ho,hd,_⟩:=hn
   cases hoc.symm.trans ho; cases hdc.symm.trans hd
 | cell c hc =>
  refine wpAny_storeName_cell hk hq hc hv (fun h' hc' hs=>h h' _ ⟨hc',fun b o hb e=>(hs.2 b hb).trans e,by obtain ⟨o,ho,_⟩:=hc'; exact ⟨o,ho⟩,fun q u hq hu=>hu.keeps fun o ho=>(hs.2 _ fun hcc=>?_).trans ho⟩)
  cases q with
  | loc L y =>
   obtain ⟨m,hn,_⟩:=hu
   obtain ⟨o,es,ep,ho,hd,_⟩:=hn
   obtain ⟨oc,hoc,hdc⟩:=hv
   have hcc:L = c:=hcc
   subst hcc
   cases hoc.symm.trans ho; cases hdc.symm.trans hd
  | cell c'=>exact hq (congrArg _ hcc)
 | _=>cases hf
section
variable {R:Rn} {fr:Fr} {ow:List (List Addr)} {τ:Tau} {P:PW} {h h':Heap} {Φ Φ':Fz}
theorem Slots.setTail {p:Place} {v:Value} (hs:SetAt p v h h') {ps:List Place} {fr:Fr} {ow:List (List Addr)} (x:Slots P Φ h ps fr ow) (hp:p ∉ ps) (ho:∀ b ∈ ow.flatten,b ≠ p.at):Slots P Φ h' ps fr ow:=by
 induction ps generalizing fr ow with
 | nil=>exact x
 | cons q ps ih =>
  obtain ⟨lv,fr,o,ow,x,y⟩:=x
  obtain ⟨u,a,b⟩:=x
  exact ⟨lv,fr,o,ow,⟨u,hs.q _ _ (fun e=>hp (e ▸ .head _)) a,b.keeps Fz.le_refl fun c ob hc=>hs.k c ob (ho c (List.mem_append_left _ hc))⟩,ih y (fun e=>hp (.tail _ e)) fun c hc=>ho c (List.mem_append_right _ hc)⟩
theorem Slots.set {lv:LV} {v:Value} {own:List Addr} {p:Place} (hs:SetAt p v h h') (hl:LR P Φ h' lv (some v) own) {ps:List Place} {fr:Fr} {ow:List (List Addr)} (x:Slots P Φ h ps fr ow) (nd:ps.Nodup) (ho:∀ b ∈ ow.flatten,b ≠ p.at) {i:Nat}
  (hp:ps[i]? = some p):Slots P Φ h' ps (fr.set i lv) (ow.set i own):=by
 induction ps generalizing fr ow i with
 | nil=>cases hp
 | cons q ps ih =>
  obtain ⟨lv',fr,o,ow,x,y⟩:=x
  obtain ⟨n1,n2⟩:=List.nodup_cons.mp nd
  cases i with
  | zero=>cases hp; exact ⟨lv,fr,own,ow,⟨_,hs.has,hl⟩,y.setTail hs n1 fun b hb=>ho b (List.mem_append_right _ hb)⟩
  | succ i =>
   obtain ⟨u,a,b⟩:=x
   exact ⟨lv',fr.set i lv,o,ow.set i own,⟨u,hs.q _ _ (fun e=>n1 (e ▸ List.mem_of_getElem? hp)) a,b.keeps Fz.le_refl fun c ob hc=>hs.k c ob (ho c (List.mem_append_left _ hc))⟩,ih y n2 (fun b hb=>ho b (List.mem_append_right _ hb)) hp⟩
theorem fl_sub {ow:List (List Addr)} {i:Nat} {own:List Addr} {b:Addr} (h:b ∈ (ow.set i own).flatten):b ∈ own \/ b ∈ ow.flatten:=by
 induction ow generalizing i with
 | nil=>cases h
 | cons o ow ih =>
  cases i with
  | zero=>exact (List.mem_append.mp h).imp id fun h=>List.mem_append_right _ h
  | succ i=>exact (List.mem_append.mp h).elim (fun h=>.inr (List.mem_append_left _ h)) fun h=>(ih h).imp id fun h=>List.mem_append_right _ h
theorem fl_nodup {ow:List (List Addr)} {i:Nat} {own:List Addr} (h:ow.flatten.Nodup) (h2:own.Nodup) (h3:∀ b ∈ own,b ∉ ow.flatten):(ow.set i own).flatten.Nodup:=by
 induction ow generalizing i with
 | nil=>exact List.nodup_nil
 | cons o ow ih =>
  obtain ⟨a,b,c⟩:=List.nodup_append.mp h
  cases i with
  | zero=>exact List.nodup_append.mpr ⟨h2,b,fun x hx y hy e=>h3 x hx (e ▸ List.mem_append_right _ hy)⟩
  | succ i=>exact List.nodup_append.mpr ⟨a,ih b fun x hx q=>h3 x hx (List.mem_append_right _ q),fun x hx y hy e=>(fl_sub hy).elim (fun hy=>h3 y hy (e ▸ List.mem_append_left _ hx)) fun hy=>c x hx y hy e⟩
theorem St.store (O:R.Ok cx) (S:St R fr ow τ) {i:Nat} {p:Place} {v:Value} {lv:LV} {own:List Addr} {s':Shared} (hp:R.X.pl[i]? = some p) (hs:SetAt p v τ.h s'.heap)
  (hl:LR R.P τ.Φ s'.heap lv (some v) own) (hown:own.Nodup) (hn:∀ b ∈ own,New R.X τ.Φ ow b):St R (fr.set i lv) (ow.set i own) ⟨τ.G,τ.Φ,s'⟩ :=
 have hpf:=O.plf p (List.mem_of_getElem? hp)
 have hpo:=S.off p.at (List.mem_append_left _ (List.mem_append_left _ hpf))
 have ⟨n1,n2,n3⟩:=List.nodup_append.mp S.nd
 have ⟨_,_,n4⟩:=List.nodup_append.mp n1
 have k1:∀ b ∈ ow.flatten,b ≠ p.at:=fun b hb e=>n3 p.at (List.mem_append_left _ hpf) b hb e.symm
 {core:=S.core.turn hpo.f hpo.h0 hpo.r hs.k
  slots:=S.slots.set hs hl O.pln k1 hp
  nd:=List.nodup_append.mpr ⟨n1,fl_nodup n2 hown fun b hb q=>(hn b hb).apart (List.mem_append_right _ q),fun a ha b hb e=>(fl_sub hb).elim (fun hb=>(hn b hb).apart (List.mem_append_left _ (e ▸ ha))) fun hb=>n3 a ha b hb e⟩
  off:=fun a ha=>(List.mem_append.mp ha).elim (fun ha=>S.off a (List.mem_append_left _ ha)) fun ha=>(fl_sub ha).elim (fun hb=>(hn a hb).toOff) fun hb=>S.off a (List.mem_append_right _ hb)
  live:=fun a ha=>Decidable.byCases (fun e:a = p.at=>e ▸ hs.live) fun e=>by obtain ⟨o',e'⟩:=S.live a ha; exact ⟨o',hs.k a o' e e'⟩
  still:=fun q hq=>hs.k _ _ (fun e=>n4 p.at hpf q.1 (List.mem_map_of_mem hq) e.symm) (S.still q hq) }
theorem St.atSlot (S:St R fr ow τ) {i:Nat} {p:Place} (hp:R.X.pl[i]? = some p):∃ u,p.Has τ.h u:=by
 obtain ⟨hi,_⟩:=List.getElem?_eq_some_iff.mp hp
 rw [<- S.slots.len] at hi
 obtain ⟨p',o,e,_,u,hu,_⟩:=S.slots.get (List.getElem?_eq_getElem hi)
 cases hp.symm.trans e; exact ⟨u,hu⟩
theorem St.storeV (O:R.Ok cx) (S:St R fr ow τ) {x:Str} {k:NameKind} {i:Nat} (hm:(x,k,i) ∈ cx.tb) (hk:(k == .free) = false) {v:Value} {p:PV} (hv:R.VR τ p v) {Q:Unit -> Shared -> Prop} {E:Value -> Shared -> Prop}
  (j:∀ τ':Tau,τ'.G = τ.G -> To τ τ' -> St R (fr.set i (.val p)) (ow.set i []) τ' -> Q () τ'.s):wpAny R.M R.A (storeName R.X.env x v) Q E τ.s:=by
 obtain ⟨pl,hp,hk'⟩:=O.tb x k i hm
 obtain ⟨u,hu⟩:=S.atSlot hp
 exact store_place O.kind hk' hk hu fun h'' tk'' hs=>j ⟨τ.G,τ.Φ,_⟩ rfl .heap (S.store O hp (s':={ τ.s with heap:=h'',toks:=tk'' }) hs (own:=[]) ⟨v,hv⟩ List.nodup_nil fun b hb=>nomatch hb)
end
noncomputable def dSkip:DS:=fun zq fr G Q=>Q .nx fr G
noncomputable def kSeq (r:DS) (o:Orc) (Q:Flo -> Fr -> Gs -> Prop) (f:Flo) (fr:Fr) (G:Gs):Prop:=match f with | .nx=>r o fr G Q | .rt p=>Q (.rt p) fr G
noncomputable def dSeq (d r:DS):DS:=fun o fr G Q=>d o fr G (kSeq r o Q)
theorem S.nil:SS cx [] dSkip:=fun zq zq zq τ zq S=>.mk fun zq zq zq h k=>wpAny_execs_nil (k _ _ _ τ _ h .refl S .nx)
theorem S.cons {st:Stmt} {rest:List Stmt} {d r:DS} (x:SX cx st d) (y:SS cx rest r):SS cx (st :: rest) (dSeq d r) :=
 fun R fr ow τ O S=>.mk fun zq zq zq h k=>wpAny_execs_cons ((x R fr ow τ O S).use h fun fl fr1 ow1 τ1 f h t1 S v=>by
  cases v with
  | nx=>exact (y R fr1 ow1 τ1 O S).use h fun fl fr2 ow2 τ2 f h t2 S v=>k fl fr2 ow2 τ2 f h (t1.trans t2) S v
  | rt p v x=>exact k (.rt p) fr1 ow1 τ1 _ h t1 S (.rt p v x))
noncomputable def dRet (d:DE):DS:=fun o fr G Q=>d o fr G fun a G=>Q (.rt a) fr G
theorem X.ret {e:Expr} {pos:Pos} {d:DE} (x:SE cx e d):SX cx (.Return (some e) pos) (dRet d) :=
 fun R fr ow τ O S=>.mk fun zq zq zq h k=>wpAny_Return_some ((x R fr ow τ O S).use h fun p τ1 v h t1 S v1=>k _ _ _ τ1 _ h t1 S (.rt p v v1))
noncomputable def dIf (c:DB) (a b:DS):DS:=fun o fr G Q=>c o fr G fun t G=>cond t (a o fr G Q) (b o fr G Q)
theorem X.ite {t:Expr} {a b:List Stmt} {pos:Pos} {c:DB} {da db:DS} (x:SB cx t c) (y:SS cx a da) (z:SS cx b db):SX cx (.If t a b pos) (dIf c da db) :=
 fun R fr ow τ O S=>.mk fun zq zq zq h k=>wpAny_If ((x R fr ow τ O S).use h fun b τ1 v h t1 S v1=>by
  subst v1; cases v with
  | false=>exact (z R fr ow τ1 O S).use h fun fl fr2 ow2 τ2 f h t2 S v=>k fl fr2 ow2 τ2 f h (t1.trans t2) S v
  | true=>exact (y R fr ow τ1 O S).use h fun fl fr2 ow2 τ2 f h t2 S v=>k fl fr2 ow2 τ2 f h (t1.trans t2) S v)
noncomputable def dLet (i:Nat) (d:DE):DS:=fun o fr G Q=>d o fr G fun a G=>Q .nx (fr.set i (.val a)) G
section
variable {x:Str} {k:NameKind} {i:Nat} {np pos:Pos} {e:Expr}
theorem X.let {d:DE} (hm:(x,k,i) ∈ cx.tb) (hk:(k == .free) = false) (hs:∀ env,swapsWith e (some (.Name x np)) pos.line env = pure false) (y:SE cx e d):SX cx (.Assign [.Name x np] e pos) (dLet i d) :=
 fun R fr ow τ O S=>.mk fun zq zq zq h k=>wpAny_Assign_Name ((y R fr ow τ O S).use h fun p τ1 v h t1 S v1=>S.storeV O hm hk v1 fun τ2 e t2 S=>k _ _ _ τ2 _ (e ▸ h) (t1.trans t2) S .nx) (hs _)
noncomputable def dLetO (i:Nat) (d:DO):DS:=fun o fr G Q=>d o fr G fun a G=>Q .nx (fr.set i a.lv) G
theorem CO.lr {P:PW} {Φ:Fz} {h:Heap} {c:CV} {ob:Obj} {a:Addr} (x:CO P Φ c ob) (e:h.get? a = some ob) (m:(a == sysModules) = false):LR P Φ h c.lv (some (.ref a)) [a]:=by
 cases x with
 | l l vs n v=>exact ⟨a,_,m,e,vs,n,v⟩
 | d l _ kvs q v=>exact ⟨a,ob,m,e,kvs,q,v⟩
theorem St.storeO {R:Rn} {fr:Fr} {ow:List (List Addr)} {τ:Tau} {c:CV} {v:Value} (O:R.Ok cx) (S:St R fr ow τ) (hm:(x,k,i) ∈ cx.tb) (hk:(k == .free) = false) (hv:IsO R ow τ (CO R.P τ.Φ c) v) {Q:Unit -> Shared -> Prop} {E:Value -> Shared -> Prop}
  (j:∀ a (τ':Tau),τ'.G = τ.G -> To τ τ' -> St R (fr.set i c.lv) (ow.set i [a]) τ' -> Q () τ'.s):wpAny R.M R.A (storeName R.X.env x v) Q E τ.s:=by
 obtain ⟨b,ob,hb,c1,N⟩:=hv
 obtain ⟨pl,hp,hk'⟩:=O.tb x k i hm
 obtain ⟨u,hu⟩:=S.atSlot hp
 refine store_place O.kind hk' hk hu fun h'' tk'' hs=>j b ⟨τ.G,τ.Φ,_⟩ rfl .heap (S.store O hp (s':={ τ.s with heap:=h'',toks:=tk'' }) hs (own:=[b]) ?_ (List.nodup_cons.mpr ⟨fun h=>(nomatch h),List.nodup_nil⟩) fun c hc=>?_)
 ·exact c1.lr (hs.k b ob (fun e=>N.apart (List.mem_append_left _ (List.mem_append_left _ (e ▸ O.plf pl (List.mem_of_getElem? hp))))) hb) N.sm
 ·cases hc with | head=>exact N | tail _ h=>exact nomatch h
theorem X.letO {d:DO} (hm:(x,k,i) ∈ cx.tb) (hk:(k == .free) = false) (hs:∀ env,swapsWith e (some (.Name x np)) pos.line env = pure false) (y:SO cx e d):SX cx (.Assign [.Name x np] e pos) (dLetO i d) :=
 fun R fr ow τ O S=>.mk fun zq zq zq h j=>wpAny_Assign_Name ((y R fr ow τ O S).use h fun p τ1 v h t1 S v1=>S.storeO O hm hk v1 fun a τ2 e t2 S=>j _ _ _ τ2 _ (e ▸ h) (t1.trans t2) S .nx) (hs _)
end
end
section
noncomputable abbrev Vars:=List (Str × NameKind)
noncomputable def tbOf:Nat -> Vars -> Tb
 | _,[]=>[]
 | i,(x,k) :: r=>(x,k,i) :: tbOf (i + 1) r
theorem tbOf_at {vs:Vars} {i:Nat} {x:Str} {k:NameKind} {j:Nat} (h:(x,k,j) ∈ tbOf i vs):∃ m,j = i + m /\ vs[m]? = some (x,k):=by
 induction vs generalizing i with
 | nil=>exact nomatch h
 | cons e r ih =>
  obtain ⟨y,l⟩:=e
  cases h with
  | head=>exact ⟨0,rfl,rfl⟩
  | tail _ h=>obtain ⟨m,e1,e2⟩:=ih h; exact ⟨m + 1,e1.trans (Nat.succ_add i m),e2⟩
structure FnStatic (K:Frag) (f:Addr) (fd:FuncData) (ps:List Str) (vars:Vars) (body:List Stmt) (gl:List Str):Prop where
 lk:∃ c d sl,K.lookup f = some ⟨c,d,.func fd,sl⟩
 body:fd.body = .stmts body
 clo:fd.closure = []
 glob:fd.globals = mainGlobals
 blt:fd.builtins = builtinsNs
 code:codeIn K fd.code fd.qualname = true
 bind:∀ vals,vals.length = ps.length -> bindArgs fd ⟨vals,[]⟩ = pure (ps.zip vals)
 co:fd.scope.isCoroutine = false
 gen:fd.scope.isGenerator = false
 kind:fd.scope.kind = .function
 vok:(vars.all fun v=>fd.scope.names.lookup v.1 == some v.2 && (v.2 == .local || v.2 == .cell)) = true
 vnd:(vars.map (fun q=>q.1)).Nodup
 par:ps = (vars.map (fun q=>q.1)).take ps.length
 cnd:((cellsFrom 0 fd.scope.names []).map (fun q=>q.1)).Nodup
 gls:(gl.all fun x=>fd.scope.names.lookup x == some .globalImplicit) = true
noncomputable def kBody (Q:PV -> Gs -> Prop) (f:Flo) (_:Fr) (G:Gs):Prop:=match f with | .rt p=>Q p G | .nx=>Q .none G
noncomputable def runBody (k:Nat) (d:DS) (o:Orc) (args:List PV) (G:Gs):WP PV:=fun Q=>d o (args.map LV.val ++ List.replicate k LV.unset) G (kBody Q)
noncomputable def FOK (P:PW) (K:Frag) (n:Nat) (f:Addr) (F:List PV -> Gs -> WP PV):Prop :=
 ∀ args G Q,F args G Q -> ∀ Φ s vs A,Pre P K s.heap Φ G -> VRs P Φ args vs -> Room n A -> codeAny P.M A (.call (.ref f) ⟨vs,[]⟩) (codeR (PoC P s Φ Q (VR P)) fun zq zq=>False) s
noncomputable def fnF (np k:Nat) (d:DS) (o:Orc) (args:List PV) (G:Gs):WP PV:=fun Q=>bq (args.length == np) (runBody k d o args G Q)
section
variable {P:PW} {K:Frag}
theorem noLimit_of {h:Heap} (Y:K.In h) (e:nsOkIn K cStatics = true /\ nsIn K cStatics "sys.recursionlimit" = some none):h.NoLimit :=
 ⟨_,.of_isNs (isNs_of_in Y e.1),nsMap_none_of_in Y e.1 e.2⟩
theorem lookup_none {bs:List (Str × Value)} {x:Str} (h:x ∉ bs.map (fun q=>q.1)):bs.lookup x = none:=by
 cases q:bs.lookup x with
 | none=>rfl
 | some u=>exact absurd (List.mem_map_of_mem (f:=Prod.fst) (mem_of_lookup q)) h
theorem bindL_eq (kf:Str -> Option NameKind) {bs:List (Str × Value)} {m:Str -> Option Value} {x:Str} (nd:(bs.map (fun q=>q.1)).Nodup) (hx:kf x = some .local):bindL kf bs m x = (bs.lookup x).or (m x):=by
 induction bs generalizing m with
 | nil=>rfl
 | cons e r ih =>
  obtain ⟨y,v⟩:=e
  obtain ⟨n1,n2⟩:=List.nodup_cons.mp nd
  unfold bindL
  rw [ih n2,List.lookup_cons]
  refine Decidable.byCases (fun h:x = y=>?_) fun h=>?_
  ·subst h; rw [lookup_none n1,beq_self_eq_true,if_pos hx]; simp
  ·rw [beq_eq_false_iff_ne.mpr h]; split <;> simp [h]
theorem bindC_eq (kf:Str -> Option NameKind) {bs:List (Str × Value)} {m:Str -> Option Value} {x:Str} (nd:(bs.map (fun q=>q.1)).Nodup) (hx:kf x ≠ some .local):bindC kf bs m x = (bs.lookup x).or (m x):=by
 induction bs generalizing m with
 | nil=>rfl
 | cons e r ih =>
  obtain ⟨y,v⟩:=e
  obtain ⟨n1,n2⟩:=List.nodup_cons.mp nd
  unfold bindC
  rw [ih n2,List.lookup_cons]
  refine Decidable.byCases (fun h:x = y=>?_) fun h=>?_
  ·subst h; rw [lookup_none n1,beq_self_eq_true,if_neg hx]; simp
  ·rw [beq_eq_false_iff_ne.mpr h]; split <;> simp [h]
noncomputable def placeOf (L:Addr) (cs:List (Str × Addr)) (v:Str × NameKind):Place:=match v.2 with | .local=>.loc L v.1 | _=>.cell ((cs.lookup v.1).getD 0)
inductive LiesAt (env:Env) (cs:List (Str × Addr)):Str × NameKind -> Place -> Prop
 | loc (x:Str) (h:env.kindOf x = some .local):LiesAt env cs (x,.local) (.loc env.locals x)
 | cell (x:Str) (ca:Addr) (h:env.kindOf x = some .cell) (c:cs.lookup x = some ca) (e:env.cells.lookup x = some ca):LiesAt env cs (x,.cell) (.cell ca)
theorem LiesAt.ofL {env:Env} {cs:List (Str × Addr)} {x:Str} {k:NameKind} (h:env.kindOf x = some k) (e:k = .local):LiesAt env cs (x,k) (placeOf env.locals cs (x,k)):=by subst e; exact .loc x h
theorem LiesAt.ofC {env:Env} {cs:List (Str × Addr)} {x:Str} {k:NameKind} {ca:Addr} (h:env.kindOf x = some k) (e:k = .cell) (c:cs.lookup x = some ca) (c':env.cells.lookup x = some ca):LiesAt env cs (x,k) (placeOf env.locals cs (x,k)):=by
 subst e
 have e:placeOf env.locals cs (x,.cell) = .cell ca:=by show Place.cell ((cs.lookup x).getD 0) = _; rw [c]; rfl
 rw [e]; exact .cell x ca h c c'
theorem lookup_zip {vars:Vars} {vals:List Value} {i:Nat} {x:Str} {k:NameKind} (nd:(vars.map (fun q=>q.1)).Nodup) (h:vars[i]? = some (x,k)):(((vars.map (fun q=>q.1)).take vals.length).zip vals).lookup x = vals[i]?:=by
 induction vars generalizing vals i with
 | nil=>cases h
 | cons e r ih =>
  obtain ⟨y,l⟩:=e
  obtain ⟨n1,n2⟩:=List.nodup_cons.mp nd
  cases vals with
  | nil=>rfl
  | cons v vals =>
   cases i with
   | zero=>cases h; show List.lookup x ((x,v) :: _) = _; rw [List.lookup_cons,beq_self_eq_true]; rfl
   | succ i =>
    have hx:x ≠ y:=fun e=>n1 (e ▸ List.mem_map_of_mem (f:=Prod.fst) (a:=(x,k)) (List.mem_of_getElem? (i:=i) h))
    show List.lookup x ((y,v) :: _) = _
    rw [List.lookup_cons,beq_eq_false_iff_ne.mpr hx]
    exact ih n2 h
theorem init_slots {Φ:Fz} {h:Heap} {ps:List Place} {lvs:List LV} (e:lvs.length = ps.length)
  (k:∀ (i:Nat) (p:Place) (lv:LV),ps[i]? = some p -> lvs[i]? = some lv -> Slot P Φ h p lv []):Slots P Φ h ps lvs (ps.map fun zq=>[]):=by
 induction ps generalizing lvs with
 | nil=>cases lvs with | nil=>exact ⟨⟩ | cons=>cases e
 | cons p ps ih=>cases lvs with
  | nil=>cases e
  | cons lv lvs=>exact ⟨lv,lvs,[],_,k 0 p lv rfl rfl,ih (Nat.succ.inj e) fun i=>k (i + 1)⟩
theorem room_le {a b k c:Nat} (h:k <= c):a + k + b <= a + (b + c):=by rw [Nat.add_assoc,Nat.add_comm k]; exact Nat.add_le_add_left (Nat.add_le_add_left h b) a
theorem Room.deeper {n:Nat} {A:Around} {env:Env} (r:Room (n + 1) A):Room n (A.deeper env) :=
 ⟨r.hd,Nat.lt_of_le_of_lt (Nat.add_le_add_right (room_le (show 1 <= 2 by decide)) 2) r.d,Nat.lt_of_le_of_lt (Nat.add_le_add_right (room_le (show 3 <= 12 by decide)) 60) r.u⟩
structure Entry (P:PW) (env:Env) (cs:List (Str × Addr)) (s s₁:Shared) (m cm:Str -> Option Value) (ps:List Str) (vars:Vars) (gl:List Str) (vs:List Value):Prop where
 I:InCallC s env.locals m cs cm s₁
 loc:env.locals = s.heap.objs.size
 kind:env.scope.kind = .function
 glob:env.globals = mainGlobals
 blt:env.builtins = builtinsNs
 lie:∀ v ∈ vars,LiesAt env cs v (placeOf env.locals cs v)
 vnd:(vars.map (fun q=>q.1)).Nodup
 par:ps = (vars.map (fun q=>q.1)).take ps.length
 le:ps.length <= vars.length
 len:vs.length = ps.length
 m:∀ x,(x,.local) ∈ vars -> m x = (ps.zip vs).lookup x
 cm:∀ x,(x,.cell) ∈ vars -> cm x = (ps.zip vs).lookup x
 gls:∀ x ∈ gl,env.kindOf x = some .globalImplicit
 cnd:(cs.map (fun q=>q.1)).Nodup
theorem LiesAt.ne {env:Env} {cs:List (Str × Addr)} {a b:Str × NameKind} {p q:Place} (x:LiesAt env cs a p) (y:LiesAt env cs b q) (ap:cs.Pairwise fun x y=>x.2 ≠ y.2) (h:a.1 ≠ b.1):p ≠ q:=by
 intro e
 cases x with
 | loc x _=>cases y with
  | loc y _=>injection e with _ e; exact h e
  | cell=>cases e
 | cell x ca _ c _=>cases y with
  | loc=>cases e
  | cell y cb _ d _=>injection e with e; subst e; exact h (name_of_addr ap (mem_of_lookup c) (mem_of_lookup d))
theorem pw_map {α β γ:Type} {l:List α} {f:α -> β} {g:α -> γ} (h:(l.map f).Nodup) (k:∀ a ∈ l,∀ b ∈ l,f a ≠ f b -> g a ≠ g b):(l.map g).Nodup:=by
 rw [List.nodup_iff_pairwise_ne,List.pairwise_map] at h ⊢
 exact h.imp_of_mem fun ha hb=>k _ ha _ hb
noncomputable abbrev entryR (P:PW) (K:Frag) (n:Nat) (o:Orc) (s:Shared) (Φ:Fz) (env:Env) (cs:List (Str × Addr)) (vars:Vars) (A:Around):Rn:=⟨P,K,n,o,⟨s.heap,Φ,env,vars.map (placeOf env.locals cs),env.locals :: cs.map (fun q=>q.2),[]⟩,A⟩
section
variable {env:Env} {cs:List (Str × Addr)} {s s₁:Shared} {m cm:Str -> Option Value} {ps:List Str} {vars:Vars} {gl:List Str} {vs:List Value} {n:Nat} {o:Orc} {Φ:Fz} {G:Gs} {A:Around} {kp:PW -> Frag -> Prop}
theorem Entry.ok (x:Entry P env cs s s₁ m cm ps vars gl vs) (pr:Pre P K s.heap Φ G) (r:Room n A) (con:Contract P K o.c n) (con':Lower P K o.i n) (kk:kp P K):(entryR P K n o s Φ env cs vars A).Ok ⟨tbOf 0 vars,gl,kp⟩ where
 room:=r
 con:=con
 con':=con'
 kk:=kk
 kb:=pr.kb
 kind:=x.kind
 glob:=x.glob
 blt:=x.blt
 tb:=fun y k i hm=>by
  obtain ⟨m,e,h2⟩:=tbOf_at hm
  rw [Nat.zero_add] at e; subst e
  refine ⟨placeOf env.locals cs (y,k),by show (vars.map _)[i]? = _; rw [List.getElem?_map,h2]; rfl,?_⟩
  have z:=x.lie _ (List.mem_of_getElem? h2)
  generalize placeOf env.locals cs (y,k) = p at z
  show Res2 env y (env.kindOf y) k p
  cases z with
  | loc _ h=>rw [h]; exact .loc
  | cell _ ca h _ e=>rw [h]; exact .cell ca e
 gl:=x.gls
 plf:=fun p hp=>by
  obtain ⟨v,hv,rfl⟩:=List.mem_map.mp hp
  have z:=x.lie v hv
  generalize placeOf env.locals cs v = p at z
  cases z with
  | loc=>exact .head _
  | cell _ ca _ c _=>exact .tail _ (List.mem_map.mpr ⟨_,mem_of_lookup c,rfl⟩)
 pln:=pw_map x.vnd fun a ha b hb h=>(x.lie a ha).ne (x.lie b hb) x.I.apart h
theorem Entry.above (x:Entry P env cs s s₁ m cm ps vars gl vs):∀ a ∈ env.locals :: cs.map (fun q=>q.2),s.heap.get? a = none:=fun a ha=>not_some fun ⟨_,q⟩=>by
 have q:=Heap.lt_size q
 rw [<- x.loc] at q
 cases ha with
 | head=>exact Nat.lt_irrefl _ q
 | tail _ ha=>obtain ⟨p,hp,rfl⟩:=List.mem_map.mp ha; exact Nat.lt_asymm q (x.I.above p.1 p.2 hp)
theorem Entry.has (x:Entry P env cs s s₁ m cm ps vars gl vs) {i:Nat} {v:Str × NameKind} (h:vars[i]? = some v):(placeOf env.locals cs v).Has s₁.heap vs[i]?:=by
 have hm:=List.mem_of_getElem? h
 have z:=x.lie v hm
 have l:=lookup_zip (vals:=vs) (x:=v.1) (k:=v.2) x.vnd h
 rw [x.len,<- x.par] at l
 generalize placeOf env.locals cs v = p at z
 cases z with
 | loc y _=>exact ⟨_,x.I.toInCall.ns,(x.m y hm).trans l⟩
 | cell y ca _ c _=>have:=x.I.cell y ca c; rw [x.cm y hm,l] at this; exact this
theorem Entry.st (x:Entry P env cs s s₁ m cm ps vars gl vs) (pr:Pre P K s.heap Φ G) {args:List PV} (hv:VRs P Φ args vs):St (entryR P K n o s Φ env cs vars A) (args.map LV.val ++ List.replicate (vars.length - ps.length) LV.unset) ((vars.map (placeOf env.locals cs)).map fun zq=>[]) ⟨G,Φ,s₁⟩:=by
 have hal:args.length = ps.length:=hv.length.symm.trans x.len
 have hfl:(entryR P K n o s Φ env cs vars A).X.own ((vars.map (placeOf env.locals cs)).map fun zq=>([]:List Addr)) = env.locals :: cs.map (fun q=>q.2):=by
  show env.locals :: List.map (fun p:Str × Addr=>p.2) cs ++ [] ++ ((vars.map (placeOf env.locals cs)).map fun zq=>([]:List Addr)).flatten = _
  simp
 refine ⟨pr.core.keepAll x.I.toInCall.keep,init_slots ?_ fun i p lv hp hl=>?_,?_,fun a ha=>?_,fun a ha=>?_,fun p hp=>nomatch hp⟩
 ·show _ = (vars.map (placeOf env.locals cs)).length
  rw [List.length_append,List.length_map,List.length_replicate,List.length_map,hal,Nat.add_sub_cancel' x.le]
 ·have hp:(vars.map (placeOf env.locals cs))[i]? = some p:=hp
  rw [List.getElem?_map] at hp
  obtain ⟨v,hi,rfl⟩:=Option.map_eq_some_iff.mp hp
  refine ⟨_,x.has hi,?_⟩
  rw [List.getElem?_append,List.length_map] at hl
  refine Decidable.byCases (fun q:i < args.length=>?_) fun q=>?_
  ·rw [if_pos q,List.getElem?_map] at hl
   obtain ⟨p,h1,rfl⟩:=Option.map_eq_some_iff.mp hl
   obtain ⟨u,hu,vu⟩:=hv.get h1
   rw [hu]; exact ⟨u,vu⟩
  ·rw [if_neg q,List.getElem?_replicate] at hl
   have e:LV.unset = lv:=by split at hl; exact Option.some.inj hl; cases hl
   subst e
   rw [List.getElem?_eq_none (by rw [x.len,<- hal]; exact Nat.not_lt.mp q)]; exact ⟨⟩
 ·rw [hfl,List.nodup_cons]
  refine ⟨fun hm=>?_,?_⟩
  ·obtain ⟨p,hp,e⟩:=List.mem_map.mp hm
   exact absurd e (Nat.ne_of_gt (x.I.above p.1 p.2 hp))
  ·rw [List.nodup_iff_pairwise_ne,List.pairwise_map]; exact x.I.apart
 ·rw [hfl] at ha
  have:=x.above a ha
  exact ⟨not_some fun ⟨ob,q⟩=>(nomatch this.symm.trans (pr.core.frz _ _ q)),this,fun hreg=>no_live this (pr.core.regs.live hreg)⟩
 ·have ha:a ∈ env.locals :: cs.map (fun q=>q.2):=ha
  cases ha with
  | head=>exact Ns.live x.I.toInCall.ns
  | tail _ ha =>
   obtain ⟨p,hp,rfl⟩:=List.mem_map.mp ha
   obtain ⟨oc,hoc,_⟩:=x.I.cell p.1 p.2 (PyProof.Rows.lookup_of_mem_nodup x.cnd hp)
   exact ⟨oc,hoc⟩
end
theorem or_none {α:Type} (x:Option α):x.or none = x:=by cases x <;> rfl
theorem body_end {R:Rn} {body:List Stmt} {cx:Cx} {d:DS} {fr:Fr} {ow:List (List Addr)} {τ:Tau} {Φ:Fz} {s:Shared} {Q:PV -> Gs -> Prop} {C:Value -> Shared -> Prop} {E:Value -> Shared -> Prop} (hb:SS cx body d) (O:R.Ok cx) (S:St R fr ow τ) (hF:d R.o fr τ.G (kBody Q)) (e0:R.X.h0 = s.heap) (e1:R.X.Φ0 = Φ) (t0:Sm s τ.s)
  (k:∀ v s',PoC R.P s Φ Q (VR R.P) v s' -> C v s'):wpAny R.M R.A (execs body R.X.env) (fun f s'=>C (match f with | .ret v=>v | _=>.none) s') E τ.s:=by
 subst e1
 refine (hb R _ _ _ O S).use hF fun fl fr' ow' τ' v q t S1 v1=>?_
 have c:Core R.P s.heap R.X.Φ0 τ'.Φ τ'.h τ'.G:=e0 ▸ S1.core
 cases v1 with
 | nx=>exact k _ _ ⟨_,τ'.G,τ'.Φ,τ'.s,q,t0.trans t.sm,c,rfl⟩
 | rt p v x=>exact k _ _ ⟨_,τ'.G,τ'.Φ,τ'.s,q,t0.trans t.sm,c,x⟩
theorem fn_entry {f:Addr} {fd:FuncData} {ps:List Str} {vars:Vars} {body:List Stmt} {gl:List Str} {d:DS} {kp:PW -> Frag -> Prop} (st:FnStatic K f fd ps vars body gl)
  {o:Orc} {n:Nat} (con:Contract P K o.c n) (con':Lower P K o.i n) (kk:kp P K) (hb:SS ⟨tbOf 0 vars,gl,kp⟩ body d):FOK P K (n + 1) f (fnF ps.length (vars.length - ps.length) d o):=by
 intro args G Q hF Φ s vs A pr hv hr
 refine bq.el hF fun hlen hF=>?_
 have hlen:=beq_iff_eq.mp hlen
 have Y:K.In s.heap:=fun a o e=>pr.core.frz _ _ (pr.kb.kfz a o e)
 obtain ⟨c,dd,sl,hlk⟩:=st.lk
 have hvl:vs.length = ps.length:=hv.length.trans hlen
 have hmap:(ps.zip vs).map (fun q=>q.1) = ps:=List.map_fst_zip (Nat.le_of_eq hvl.symm)
 have hnd:((ps.zip vs).map (fun q=>q.1)).Nodup:=by rw [hmap,st.par]; exact st.vnd.sublist (List.take_sublist _ _)
 have hvok:∀ v ∈ vars,fd.scope.names.lookup v.1 = some v.2 /\ (v.2 = .local \/ v.2 = .cell):=fun v hv'=>by
  obtain ⟨h1,h2⟩:=Bool.and_eq_true_iff.mp (List.all_eq_true.mp st.vok v hv')
  exact ⟨beq_iff_eq.mp h1,((Bool.or_eq_true _ _).mp h2).imp beq_iff_eq.mp beq_iff_eq.mp⟩
 refine codeAny_call_cells (fd:=fd) (binds:=ps.zip vs) (Nat.lt_of_le_of_lt (Nat.le_trans (Nat.le_add_right _ _) (Nat.le_add_right _ _)) hr.d) (Y _ _ hlk) rfl (noLimit_of Y pr.kb.nolim) (codeRec_of Y st.code) st.body (st.bind vs hvl) st.clo ?_ ?_ st.co st.gen st.kind
 ·intro x hx
  have hx1:x.1 ∈ ps:=hmap ▸ List.mem_map_of_mem (f:=Prod.fst) hx
  rw [st.par] at hx1
  obtain ⟨v,hv1,hv2⟩:=List.mem_map.mp (List.mem_of_mem_take hx1)
  obtain ⟨h1,h2⟩:=hvok v hv1
  rw [hv2] at h1
  exact h2.imp (fun h2=>h1.trans (congrArg some h2)) fun h2=>⟨h1.trans (congrArg some h2),cellsFrom_some _ _ _ (.inl (h1.trans (congrArg some h2)))⟩
 intro s₁ I
 obtain ⟨h₁,tk,rfl,hk⟩:=I.done
 generalize henv:callEnvC fd s.heap.objs.size f = env at I ⊢
 have hcel:env.cells = cellsFrom (s.heap.objs.size + 1) fd.scope.names []:=henv ▸ rfl
 have hko:∀ x,env.kindOf x = fd.scope.names.lookup x:=fun x=>henv ▸ rfl
 have X:Entry P env env.cells s _ _ _ ps vars gl vs :=
  {I:=I
   loc:=henv ▸ rfl
   kind:=henv ▸ st.kind
   glob:=henv ▸ st.glob
   blt:=henv ▸ st.blt
   lie:=fun v hv=>by
    obtain ⟨h1,h2⟩:=hvok v hv
    have h1:=(hko v.1).trans h1
    refine h2.elim (LiesAt.ofL h1) fun h2=>?_
    obtain ⟨ca,hca⟩:=Option.isSome_iff_exists.mp (cellsFrom_some (x:=v.1) fd.scope.names (s.heap.objs.size + 1) [] (.inl ((hvok v hv).1.trans (congrArg some h2))))
    rw [<- hcel] at hca
    exact LiesAt.ofC h1 h2 hca hca
   vnd:=st.vnd
   par:=st.par
   le:=by have:=congrArg List.length st.par; rw [List.length_take,List.length_map] at this; rw [this]; exact Nat.min_le_right _ _
   len:=hvl
   m:=fun x hx=>(bindL_eq _ hnd ((hko x).trans (hvok _ hx).1)).trans (or_none _)
   cm:=fun x hx=>(bindC_eq _ hnd (by rw [hko,(hvok _ hx).1]; exact fun q=>nomatch q)).trans (or_none _)
   gls:=fun x hx=>(hko x).trans (beq_iff_eq.mp (List.all_eq_true.mp st.gls x hx))
   cnd:=by rw [hcel,PyProof.Rows.cellsFrom_names _ _ 0 [] [] rfl]; exact st.cnd }
 exact body_end (R:=entryR P K n o s Φ env env.cells vars (A.deeper env)) (τ:=⟨G,Φ,{ s with heap:=h₁,toks:=tk }⟩) hb (X.ok pr hr.deeper con con' kk) (X.st pr hv) hF rfl rfl ⟨h₁,tk⟩ fun v s' q=>q
end
end
section
variable {cx:Cx}
noncomputable def aName (i:Nat):DA:=fun zq p fr G Q=>Q (fr.set i (.val p)) G
theorem A.name {x:Str} {k:NameKind} {i:Nat} {np:Pos} (hm:(x,k,i) ∈ cx.tb) (hk:(k == .free) = false):SA cx (.Name x np) (aName i) :=
 fun R fr ow τ v p O S hv=>.mk fun zq zq zq h j=>PyProof.Rows.assign_Name (S.storeV O hm hk hv fun τ2 e t2 S=>j _ _ τ2 (e ▸ h) t2 S)
noncomputable def aNil:DAs:=fun zq zq fr G Q=>Q fr G
noncomputable def aCons (a:DA) (r:DAs):DAs:=fun o ps fr G Q=>match ps with
 | []=>False
 | p :: ps=>a o p fr G fun fr G=>r o ps fr G Q
theorem As.nil:SAs cx [] aNil:=fun R fr ow τ vs ps O S hv=>.mk fun zq zq zq h k=>by
 rw [show assignInOrder ((assignEach [] R.X.env).map (fun q=>q.2)) vs = pure () by cases vs <;> rfl]
 exact wpAny_pure (k _ _ τ h .refl S)
theorem As.cons {t:Expr} {ts:List Expr} {a:DA} {r:DAs} (he:∀ env,assignEach (t :: ts) env = (false,assign t env) :: assignEach ts env) (x:SA cx t a) (y:SAs cx ts r):SAs cx (t :: ts) (aCons a r) :=
 fun R fr ow τ vs ps O S hv=>.mk fun zq zq zq h k=>by
  cases ps with
  | nil=>exact h.elim
  | cons p ps =>
   obtain ⟨v,vr,h1,h2⟩:=hv
   rw [he,List.map_cons]
   show wpAny _ _ (holding vr (assign t R.X.env v) >>= fun zq=>assignInOrder ((assignEach ts R.X.env).map (fun q=>q.2)) vr) _ _ _
   exact wpAny_bind (wpAny_holding ((x R fr ow τ v p O S h1).use h fun fr1 ow1 τ1 h t1 S1=>(y R fr1 ow1 τ1 vr ps O S1 (VRs.mono t1.le _ _ h2)).use h fun fr2 ow2 τ2 h t2 S2=>k fr2 ow2 τ2 h (t1.trans t2) S2))
noncomputable def aTup (k:Nat) (r:DAs):DA:=fun o p fr G Q=>match p with
 | .tup l=>bq (l.length == k) (r o l fr G Q)
 | _=>False
theorem A.tup {ts:List Expr} {k k':Nat} {pos:Pos} {r:DAs} (hn:∀ env,(assignEach ts env).length = k' /\ (assignEach ts env).findIdx? (fun q=>q.1) = none) (x:SAs cx ts r):SA cx (.Tuple ts k pos) (aTup k' r) :=
 fun R fr ow τ v p O S hv=>.mk fun Q Q' E' h k=>by
  cases p with
  | tup l =>
   refine bq.el h fun hl h=>?_
   obtain ⟨a,vs,m,f,g⟩:=hv
   refine PyProof.Rows.assign_Tuple_tuple O.room.hd (items:=vs.toArray) ⟨_,S.core.frz _ _ f,rfl,m,rfl⟩ (by rw [(hn _).1,<- beq_iff_eq.mp hl,<- g.length]; rfl) (hn _).2 fun h' he=>?_
   exact (x R fr ow ⟨τ.G,τ.Φ,{ τ.s with heap:=h' }⟩ vs l O (S.keepAll fun b ob e=>he b ob (Nat.ne_of_lt (Heap.lt_size e)) e) g).use h fun fr2 ow2 τ2 h t2 S2=>k fr2 ow2 τ2 h (To.trans .heap t2) S2
  | _=>exact h.elim
noncomputable def dAssign (d:DE) (a:DA):DS:=fun o fr G Q=>d o fr G fun v G=>a o v fr G fun fr G=>Q .nx fr G
theorem exec_assign1 {A:Around} {E:Value -> Shared -> Prop} {s:Shared} {env:Env} {M:Model} {t value:Expr} {pos:Pos} {Q:Flow -> Shared -> Prop} (hs:swapsWithSole [t] value pos.line env = pure false) (hw:swappedStores [t] value env = pure none)
  (he:assignEach [t] env = [(false,assign t env)])
  (h:wpAny M A (eval value env) (fun v s₁=>wpAny M A (assign t env v) (fun zq=>Q .next) E s₁) E s):wpAny M A (exec (.Assign [t] value pos) env) Q E s:=by
 rw [PyProof.Rows.exec_Assign]
 refine wpAny_bind (wpAny_standAt ?_)
 rw [hs]
 refine wpAny_bind (wpAny_pure ?_)
 rw [if_neg (by decide)]
 refine wpAny_bind (wpAny_mono h (fun v s₁ h₁=>?_) fun zq zq x=>x)
 rw [hw]
 refine wpAny_bind (wpAny_pure ?_)
 rw [he]
 show wpAny M A (do assignAll v [assign t env]; pure .next) Q E s₁
 exact wpAny_bind (wpAny_mono h₁ (fun zq zq x=>wpAny_pure x) fun zq zq x=>x)
theorem X.assign {t e:Expr} {pos:Pos} {d:DE} {a:DA} (hs:∀ env,swapsWithSole [t] e pos.line env = pure false) (hw:∀ env,swappedStores [t] e env = pure none) (he:∀ env,assignEach [t] env = [(false,assign t env)])
  (x:SE cx e d) (y:SA cx t a):SX cx (.Assign [t] e pos) (dAssign d a) :=
 fun R fr ow τ O S=>.mk fun zq zq zq h k=>exec_assign1 (hs _) (hw _) (he _) ((x R fr ow τ O S).use h fun p τ1 v h t1 S v1=>(y R fr ow τ1 v p O S v1).use h fun fr2 ow2 τ2 h t2 S=>k _ fr2 ow2 τ2 _ h (t1.trans t2) S .nx)
noncomputable def putD {α:Type} [BEq α] (l:List (α × PV)) (k:α) (p:PV):List (α × PV):=cond (l.any fun e=>e.1 == k) (l.map fun e=>cond (e.1 == k) (e.1,p) e) (l ++ [(k,p)])
section
variable {P:PW} {Φ Φ':Fz} {h h':Heap}
theorem key_eq {m k:Nm}:decide (toS m = toS k) = (m == k):=by rw [Bool.eq_iff_iff,decide_eq_true_iff,beq_iff_eq,toS_eq]
theorem VRd.any {l:List (Nm × PV)} {kvs:List (Str × Value)} (k:Nm) (x:VRd P Φ l kvs):kvs.any (fun e=>decide (e.1 = toS k)) = l.any (fun e=>e.1 == k):=by
 induction l generalizing kvs with
 | nil=>cases x; rfl
 | cons e l ih=>obtain ⟨v,r,_,g⟩:=x; exact congr (congrArg or key_eq) (ih g)
theorem VRd.map_put {k:Nm} {p:PV} {v:Value} (y:VR P Φ p v) {l:List (Nm × PV)} {kvs:List (Str × Value)} (x:VRd P Φ l kvs) :
  VRd P Φ (l.map fun e=>cond (e.1 == k) (e.1,p) e) (kvs.map fun kv=>if kv.1 = toS k then (kv.1,v) else kv):=by
 induction l generalizing kvs with
 | nil=>cases x; exact ⟨⟩
 | cons e l ih =>
  obtain ⟨u,r,g,q⟩:=x
  rw [List.map_cons,List.map_cons]
  refine Decidable.byCases (fun he:e.1 = k=>?_) fun he=>?_
  ·rw [if_pos (congrArg toS he),beq_iff_eq.mpr he]; exact ⟨v,_,y,ih q⟩
  ·rw [if_neg (fun q=>he (toS_inj q)),beq_eq_false_iff_ne.mpr he]; exact ⟨u,_,g,ih q⟩
theorem VRd.snoc {k:Nm} {p:PV} {v:Value} (y:VR P Φ p v) {l:List (Nm × PV)} {kvs:List (Str × Value)} (x:VRd P Φ l kvs):VRd P Φ (l ++ [(k,p)]) (kvs ++ [(toS k,v)]):=by
 induction l generalizing kvs with
 | nil=>cases x; exact ⟨v,[],y,⟨⟩⟩
 | cons e l ih=>obtain ⟨u,r,g,q⟩:=x; exact ⟨u,_,g,ih q⟩
theorem VRd.put {l:List (Nm × PV)} {kvs:List (Str × Value)} {k:Nm} {p:PV} {v:Value} (x:VRd P Φ l kvs) (y:VR P Φ p v):VRd P Φ (putD l k p) (stored kvs (toS k) v):=by
 unfold putD stored
 rw [x.any k]
 cases l.any fun e=>e.1 == k with
 | true=>exact x.map_put y
 | false=>exact x.snoc y
theorem VRd.length {l:List (Nm × PV)} {kvs:List (Str × Value)} (x:VRd P Φ l kvs):kvs.length = l.length:=by
 induction l generalizing kvs with
 | nil=>cases x; rfl
 | cons e l ih=>obtain ⟨v,r,_,y⟩:=x; exact congrArg (fun q=>q + 1) (ih y)
theorem LO.turn {C D:Obj -> Prop} {v:Option Value} {a:Addr} {o:Obj} (x:LO h C v [a]) (e:h'.get? a = some o) (d:D o):LO h' D v [a]:=by
 obtain ⟨rfl,_,m,_,_⟩:=x.at; exact ⟨a,o,m,e,d⟩
variable {R:Rn} {fr:Fr} {ow:List (List Addr)} {τ:Tau}
theorem Slots.turn {a:Addr} (k:∀ b o,b ≠ a -> h.get? b = some o -> h'.get? b = some o) {ps:List Place} {fr:Fr} {ow:List (List Addr)} {i:Nat} {lv lv':LV} (x:Slots P Φ h ps fr ow) (hl:fr[i]? = some lv) (ho:ow[i]? = some [a])
  (hn:∀ p ∈ ps,a ≠ p.at) (nd:ow.flatten.Nodup) (kk:∀ v,LR P Φ h lv v [a] -> LR P Φ h' lv' v [a]):Slots P Φ h' ps (fr.set i lv') ow:=by
 induction ps generalizing fr ow i with
 | nil=>cases x; cases hl
 | cons p ps ih =>
  obtain ⟨lv0,fr,o,ow,x,y⟩:=x
  obtain ⟨v,hv,l⟩:=x
  obtain ⟨n1,n2,n3⟩:=List.nodup_append.mp nd
  have hk:=hv.keeps fun o'=>k _ o' fun q=>hn p (.head _) q.symm
  cases i with
  | zero =>
   cases hl; cases ho
   exact ⟨lv',fr,[a],ow,⟨v,hk,kk v l⟩,y.keeps Fz.le_refl (fun b o' hb=>k b o' fun q=>by obtain ⟨p',hp,e⟩:=List.mem_map.mp hb; exact hn p' (.tail _ hp) (q.symm.trans e.symm)) fun b o' hb=>k b o' fun q=>n3 a (.head _) b hb q.symm⟩
  | succ i =>
   have hm:a ∈ ow.flatten:=List.mem_flatten.mpr ⟨[a],List.mem_of_getElem? ho,.head _⟩
   exact ⟨lv0,fr.set i lv',o,ow,⟨v,hk,l.keeps Fz.le_refl fun b o' hb=>k b o' fun q=>n3 b hb a hm q⟩,ih y hl ho (fun p hp=>hn p (.tail _ hp)) n2⟩
theorem St.turnOwn (O:R.Ok cx) (S:St R fr ow τ) {s':Shared} {i:Nat} {a:Addr} {lv lv':LV} (hl:fr[i]? = some lv) (ho:ow[i]? = some [a]) (k:∀ b o,b ≠ a -> τ.h.get? b = some o -> s'.heap.get? b = some o) (ha:∃ o,s'.heap.get? a = some o)
  (kk:∀ v,LR R.P τ.Φ τ.h lv v [a] -> LR R.P τ.Φ s'.heap lv' v [a]):St R (fr.set i lv') ow ⟨τ.G,τ.Φ,s'⟩ :=
 have hm:a ∈ ow.flatten:=List.mem_flatten.mpr ⟨[a],List.mem_of_getElem? ho,.head _⟩
 have hoff:=S.off a (List.mem_append_right _ hm)
 have ⟨_,n2,n3⟩:=List.nodup_append.mp S.nd
 {core:=S.core.turn hoff.f hoff.h0 hoff.r k
  slots:=S.slots.turn k hl ho (fun p hp e=>n3 p.at (List.mem_append_left _ (O.plf p hp)) a hm e.symm) n2 kk
  nd:=S.nd
  off:=S.off
  live:=fun b hb=>Decidable.byCases (fun e:b = a=>e ▸ ha) fun e=>by obtain ⟨o',e'⟩:=S.live b hb; exact ⟨o',k b o' e e'⟩
  still:=fun q hq=>k _ _ (fun e=>n3 q.1 (List.mem_append_right _ (List.mem_map_of_mem hq)) a hm e) (S.still q hq) }
theorem RegsH.turn {a:Addr} (k:∀ b o,b ≠ a -> h.get? b = some o -> h'.get? b = some o) {R:List RC} {G:Gs} {i:Nat} {c:RC} {g:RA} (x:RegsH P h Φ R G) (hc:R[i]? = some c) (hd:c.d = a) (hg:RegH P h' Φ c g) (nd:(rds R).Nodup)
  (sp:∀ q ∈ R,q.addr = a -> q.d = a):RegsH P h' Φ R (G.set i g):=by
 induction R generalizing G i with
 | nil=>cases hc
 | cons r R ih =>
  obtain ⟨b,G,x,y⟩:=x
  obtain ⟨n1,n2⟩:=List.nodup_cons.mp nd
  cases i with
  | zero =>
   cases hc
   have n1:a ∉ rds R:=fun q=>n1 (show c.d ∈ rds R by rw [hd]; exact q)
   exact ⟨g,G,hg,y.keeps Fz.le_refl fun b o hb=>k b o fun q=>by
    subst q
    cases hb with
    | a hb=>obtain ⟨c2,hc2,e2⟩:=List.mem_map.mp hb; exact n1 (sp c2 (.tail _ hc2) e2 ▸ mem_rds hc2)
    | d hb=>exact n1 hb⟩
  | succ i =>
   have hmem:a ∈ rds R:=hd ▸ mem_rds (List.mem_of_getElem? hc)
   have n2':r.d ≠ a:=fun q=>n1 (show r.d ∈ rds R by rw [q]; exact hmem)
   exact ⟨b,G.set i g,x.keeps Fz.le_refl (fun o=>k _ o fun q=>n2' (sp r (.head _) q)) (fun o=>k _ o n2'),ih y hc n2 fun q hq=>sp q (.tail _ hq)⟩
theorem St.turnReg (O:R.Ok cx) (S:St R fr ow τ) {s':Shared} {i:Nat} {c:RC} {g:RA} (hc:τ.Φ.rs[i]? = some c) (k:∀ b o,b ≠ c.d -> τ.h.get? b = some o -> s'.heap.get? b = some o) (hg:RegH R.P s'.heap τ.Φ c g):St R fr ow ⟨τ.G.set i g,τ.Φ,s'⟩ :=
 have hcm:=List.mem_of_getElem? hc
 have hd:c.d ∈ rds τ.Φ.rs:=mem_rds hcm
 have ne:∀ b ∈ R.X.own ow,b ≠ c.d:=fun b hb q=>(S.off b hb).r (.d (q ▸ hd))
 {core :=
   {frz:=fun a o e=>k a o (fun q=>nomatch (q ▸ S.core.rfr c.d (.d hd)).symm.trans e) (S.core.frz a o e)
    mono:=S.core.mono
    new:=S.core.new
    keep:=fun a o e hn=>k a o (fun q=>(S.core.rnew c hcm).elim (fun h=>hn (q ▸ mem_rds h)) fun h=>nomatch (q ▸ h.1).symm.trans e) (S.core.keep a o e hn)
    regs:=RegsH.turn k S.core.regs hc rfl hg S.core.sep.1 fun q hq e=>S.core.sep.2 c.d hd q hq e
    rfr:=S.core.rfr
    rnew:=S.core.rnew
    sep:=S.core.sep }
  slots:=S.slots.keeps Fz.le_refl (fun b o hb=>k b o (ne b (by obtain ⟨p,hp,rfl⟩:=List.mem_map.mp hb; exact List.mem_append_left _ (List.mem_append_left _ (O.plf p hp))))) fun b o hb=>k b o (ne b (List.mem_append_right _ hb))
  nd:=S.nd
  off:=S.off
  live:=fun a ha=>by obtain ⟨o',e'⟩:=S.live a ha; exact ⟨o',k a o' (ne a (List.mem_append_left _ (List.mem_append_left _ ha))) e'⟩
  still:=fun q hq=>k _ _ (ne _ (List.mem_append_left _ (List.mem_append_right _ (List.mem_map_of_mem hq)))) (S.still q hq) }
end
end
section
variable {cx:Cx}
noncomputable def slD:Option LV -> Option (List (Nm × PV)) | some (.od l)=>some l | _=>none
noncomputable def rgD:Option RA -> Option (List (Nm × PV)) | some (.dict l)=>some l | _=>none
theorem slD.at {x:Option LV} {l:List (Nm × PV)} (h:slD x = some l):x = some (.od l):=by
 cases x with | none=>cases h | some lv=>cases lv with | od l=>cases h; rfl | _=>cases h
theorem rgD.at {x:Option RA} {l:List (Nm × PV)} (h:rgD x = some l):x = some (.dict l):=by
 cases x with | none=>cases h | some lv=>cases lv with | dict l=>cases h; rfl | _=>cases h
noncomputable def HV.put (fr:Fr) (G:Gs) (k:Nm) (p:PV) (Q:Fr -> Gs -> Prop):HV -> Prop
 | .sl i=>oq (slD fr[i]?) fun l=>bq (decide (l.length <= 1000)) (Q (fr.set i (.od (putD l k p))) G)
 | .rg r=>oq (rgD G[r]?) fun l=>bq (decide (l.length <= 1000)) (Q fr (G.set r (.dict (putD l k p))))
 | _=>False
theorem VRd.fits {P:PW} {Φ:Fz} {l:List (Nm × PV)} {kvs:List (Str × Value)} (x:VRd P Φ l kvs) (h:decide (l.length <= 1000) = true):kvs.length <= sizeLine:=by
 rw [x.length,sizeLine_eq]; exact Nat.le_trans (of_decide_eq_true h) (by decide)
theorem set_held {R:Rn} {fr:Fr} {ow:List (List Addr)} {τ:Tau} {hv:HV} {k:Nm} {p:PV} {v u:Value} {t:Tok} (O:R.Ok cx) (S:St R fr ow τ) (hh:Held R.P τ.Φ ow hv v) (hp:R.VR τ p u):Ta R τ (setItem v (.str (toS k) t) u) fun Q=>hv.put fr τ.G k p Q :=
 .mk fun Q Q' E' h j=>by
  cases hv with
  | v q=>exact h.elim
  | sl i =>
   obtain ⟨a,ha⟩:=hh
   refine oq.el h fun l e h=>bq.el h fun g h=>?_
   have hl:=slD.at e
   obtain ⟨v',lr⟩:=S.slotOwn hl ha
   obtain ⟨ob,m,e3,kvs,e5,e6⟩:=(LO.at lr).2
   refine wpAny_setItem_pairs (keyIs k t) (e5.at e3) (fun h' hd hs=>j _ ow ⟨τ.G,τ.Φ,{ τ.s with heap:=h',toks:=τ.s.toks + 1 }⟩ h .heap ?_) (e6.fits g)
   obtain ⟨ob',ho',d'⟩:=DctO.of hd
   exact S.turnOwn O (s':={ τ.s with heap:=h',toks:=τ.s.toks + 1 }) hl ha (fun b o' hb e=>(hs.2 b hb).trans e) ⟨_,ho'⟩ fun v' x=>LO.turn x ho' ⟨_,d',e6.put hp⟩
  | rg r =>
   obtain ⟨c,hc⟩:=hh
   refine oq.el h fun l e h=>bq.el h fun g h=>?_
   obtain ⟨i,m,kvs,e3,e4⟩:=S.core.regs.at hc (rgD.at e)
   rw [<- i]
   exact wpAny_setItem_pairs (keyIs k t) e4 (fun h' hd hs=>j _ ow ⟨_,τ.Φ,{ τ.s with heap:=h',toks:=τ.s.toks + 1 }⟩ h .heap (S.turnReg O (s':={ τ.s with heap:=h',toks:=τ.s.toks + 1 }) hc (fun b o' hb e=>(hs.2 b hb).trans e) ⟨i,m,_,e3.put hp,hd⟩)) (e3.fits g)
noncomputable def aSub (dc:DH) (di:DE):DA:=fun o p fr G Q=>dc o fr G fun c G=>di o fr G fun i G=>oq (pvS i) fun k=>c.put fr G k p Q
theorem A.sub {c i:Expr} {pos:Pos} {dc:DH} {di:DE} (x:SH cx c dc) (y:SE cx i di):SA cx (.Subscript c i pos) (aSub dc di) :=
 fun R fr ow τ v p O S hv=>.mk fun Q Q' E' h k=>by
  show wpAny _ _ (holding [v] (eval c R.X.env) >>= fun ov=>holding [v,ov] (eval i R.X.env) >>= fun iv=>standAt pos >>= fun zq=>holding [v,ov,iv] (setItem ov iv v) >>= fun zq=>release _ []) _ _ _
  refine wpAny_bind (wpAny_holding ((x R fr ow τ O S).use h fun a τ1 ov h t1 S v1=>wpAny_bind (wpAny_holding ((y R fr ow τ1 O S).use h fun b τ2 iv h t2 S v2=>wpAny_bind (wpAny_standAt (wpAny_bind (wpAny_holding ?_)))))))
  refine pvS.el (C:=fun iv=>wpAny R.M R.A (setItem ov iv v) (fun zq s=>wpAny R.M R.A (release _ []) Q' E' s) E' τ2.s) h v2 fun s t h=>?_
  exact (set_held O S (v1.mono t2.le) (VR.mono (Fz.le_trans t1.le t2.le) _ _ hv)).use (Q:=Q) h fun fr3 ow3 τ3 h t3 S=>wpAny_release (k fr3 ow3 τ3 h (t1.trans (t2.trans t3)) S)
section
variable {P:PW} {K:Frag} {h h':Heap} {Φ Φ':Fz}
theorem keyHash_eq (k:Str):PyData.keyHash P.w.params k = hashStr P.w k:=rfl
theorem stored_eq {k:Str} {v:Value} {l:List (Str × Value)} (h:k ∉ l.map (fun q=>q.1)):l.map (fun kv'=>if kv'.1 = k then (kv'.1,v) else kv') = l:=by
 induction l with
 | nil=>rfl
 | cons a l ih=>rw [List.map_cons,if_neg fun e:a.1 = k=>h (by rw [<- e]; exact .head _),ih fun q=>h (.tail _ q)]
noncomputable def OldKey (k:Str) (hsh:Int) (t:Tok) (es:List DictEntry) (e:DictEntry):Prop:=(∃ e' ∈ es,e.key = e'.key /\ e.hash = e'.hash) \/ (e.key = .str k t /\ e.hash = hsh)
theorem pairs_put {k:Str} {hsh:Int} {t:Tok} {v:Value} {es:List DictEntry} {kvs:List (Str × Value)} (x:Pairs P.sk es kvs) (nd:(kvs.map (fun q=>q.1)).Nodup) :
  Pairs P.sk (putL k hsh (.str k t) v es) (stored kvs k v) /\ ∀ e ∈ putL k hsh (.str k t) v es,OldKey k hsh t es e:=by
 induction x with
 | nil=>exact ⟨.cons (by simp [strKind,Value.isStrOf]) rfl .nil,fun e he=>by cases he with | head=>exact .inr ⟨rfl,rfl⟩ | tail _ h=>exact nomatch h⟩
 | @cons e kv es kvs h1 h2 r ih =>
  obtain ⟨t',ht⟩:=Value.isStrOf_shape (x:=kv.1) h1
  obtain ⟨n1,n2⟩:=List.nodup_cons.mp nd
  obtain ⟨i1,i2⟩:=ih n2
  unfold putL
  refine Decidable.byCases (fun hk:kv.1 = k=>?_) fun hk=>?_
  ·rw [if_pos (by rw [ht]; simp [Value.isStr,hk])]
   refine ⟨?_,fun x hx=>by cases hx with | head=>exact .inl ⟨e,.head _,rfl,rfl⟩ | tail _ hx=>exact .inl ⟨x,.tail _ hx,rfl,rfl⟩⟩
   unfold stored
   rw [List.any_cons,if_pos (by simp [hk]),List.map_cons,if_pos hk,stored_eq (hk ▸ n1)]
   exact .cons h1 rfl r
  ·rw [if_neg (by rw [ht]; simp [Value.isStr,hk])]
   refine ⟨?_,fun x hx=>by
    cases hx with
    | head=>exact .inl ⟨_,.head _,rfl,rfl⟩
    | tail _ hx=>exact (i2 x hx).imp (fun ⟨e',he',q⟩=>⟨e',.tail _ he',q⟩) id⟩
   rw [show stored (kv :: kvs) k v = kv :: stored kvs k v by unfold stored; rw [List.any_cons,decide_eq_false hk,Bool.false_or]; split <;> simp [hk]]
   exact .cons h1 h2 i1
theorem pairs_noRef {es:List DictEntry} {kvs:List (Str × Value)} (x:Pairs P.sk es kvs):es.any (fun q=>q.refKey) = false:=by
 induction x with
 | nil=>rfl
 | cons h1 h2 r ih=>obtain ⟨t',ht⟩:=Value.isStrOf_shape h1; rw [List.any_cons,ih]; simp [DictEntry.refKey,ht]
set_option tactic.hygienic true in
theorem stored_nodup {kvs:List (Str × Value)} {k:Str} {v:Value} (nd:(kvs.map (fun q=>q.1)).Nodup):((stored kvs k v).map (fun q=>q.1)).Nodup:=by
 unfold stored
 split
 ·have:(kvs.map fun kv=>if kv.1 = k then (kv.1,v) else kv).map (fun q=>q.1) = kvs.map (fun q=>q.1):=by
   rw [List.map_map]; apply List.map_congr_left; intro a _; simp only [Function.comp]; split <;> rfl
  rw [this]; exact nd
 ·rename_i hn
  rw [List.map_append,List.nodup_append]
  refine ⟨nd,by simp,fun a ha b hb e=>?_⟩
  simp only [List.map_cons,List.map_nil,List.mem_singleton] at hb
  obtain ⟨x,hx,e'⟩:=List.mem_map.mp ha
  exact hn (List.any_eq_true.mpr ⟨x,hx,by simp [e',e,hb]⟩)
theorem nsSet_pairs {A:Around} {E:Value -> Shared -> Prop} {s:Shared} {d:Addr} {kvs:List (Str × Value)} {k:Str} {v:Value} {Q:Unit -> Shared -> Prop} (hd:s.heap.DictOf (P.sk) d kvs)
  (hQ:∀ h',h'.DictOf (P.sk) d (stored kvs k v) -> Heap.SameBut d s.heap h' -> Q () { s with heap:=h',toks:=s.toks + 1 }):wpAny (P.M) A (nsSet d k v) Q E s:=by
 obtain ⟨ob,es,ep,ho,hx,hdt,hk,hp,hn⟩:=hd
 obtain ⟨oc,od,odt,osl⟩:=ob
 dsimp only [Obj.ExactDict] at hx hdt
 obtain ⟨rfl,rfl,rfl⟩:=hx
 subst hdt
 have c:aRefKeyMayBeTheName k es = false:=by
  rw [aRefKeyMayBeTheName_at,<- Array.any_toList,<- Array.any_toList,pairs_noRef hp,Bool.and_false]
 unfold nsSet
 refine wpAny_bind (wpAny_bind (wpAny_askSetting (wpAny_pure (wpAny_bind (wpAny_mkText (wpAny_bind (wpAny_loadPart ho ?_)))))))
 dsimp only
 rw [c]
 refine wpAny_updatePart ho (hQ _ ?_ (Heap.SameBut.update ..))
 have e:Obj.putName k (PyData.keyHash P.w.params k) (.str k s.toks) v ⟨.type "dict",none,.dict es ep,#[]⟩ = dictOf (putL k (PyData.keyHash P.w.params k) (.str k s.toks) v es.toList) (putN k es.toList ep):=by
  rw [<- putName_dict]
 have pp:=pairs_put (k:=k) (hsh:=PyData.keyHash P.w.params k) (t:=s.toks) (v:=v) hp hn
 refine ⟨dictOf (putL k (PyData.keyHash P.w.params k) (.str k s.toks) v es.toList) (putN k es.toList ep),_,_,?_,⟨rfl,rfl,rfl⟩,rfl,?_,by simpa using pp.1,stored_nodup hn⟩
 ·refine (Heap.get?_update_self _ ho ?_).trans (congrArg some e)
  exact (congrArg Obj.isFreed e).trans rfl
 ·intro en hen
  have hen:en ∈ putL k (PyData.keyHash P.w.params k) (.str k s.toks) v es.toList:=by simpa using hen
  rcases pp.2 en hen with ⟨e',he',q1,q2⟩ | ⟨q1,q2⟩
  ·obtain ⟨k',hk1,hk2⟩:=hk e' (by simpa using he'); exact ⟨k',by rw [q1]; exact hk1,by rw [q2]; exact hk2⟩
  ·exact ⟨k,by rw [q1]; simp [strKind,Value.isStrOf],q2.trans (keyHash_eq k)⟩
end
end
section
variable {cx:Cx}
structure ClsOk (K:Frag) (C:Addr):Prop where
 ga:findIn K (.ref C) "__getattribute__" = some (some (.builtin "object.__getattribute__"))
 gk:findIn K (.ref C) "__getattr__" = some none
 sa:findIn K (.ref C) "__setattr__" = some (some (.builtin "object.__setattr__"))
 plain:plainOver K C = true
 dict:(clsIn K C).any (fun q=>q.hasDict) = true
structure MethOk (K:Frag) (C:Addr) (name:Str) (f:Addr):Prop where
 cls:ClsOk K C
 find:findIn K (.ref C) name = some (some (.ref f))
 ty:typeIn K (.ref f) = some (.type "function")
 fn:isFnK K f = true
structure FldOk (K:Frag) (C:Addr) (name:Str):Prop where
 cls:ClsOk K C
 find:findIn K (.ref C) name = some none
noncomputable abbrev MT:=Addr -> Nm -> Option Addr
noncomputable abbrev FT:=Addr -> Nm -> Bool
noncomputable def MTok (K:Frag) (mt:MT):Prop:=∀ C m f,mt C m = some f -> MethOk K C (toS m) f
noncomputable def FTok (K:Frag) (ft:FT):Prop:=∀ C m,ft C m = true -> FldOk K C (toS m)
noncomputable def pvR:PV -> Option Nat | .reg k=>some k | _=>none
noncomputable def instOf (G:Gs) (k:Nat):Option (Addr × List (Nm × PV)):=match G[k]? with | some (.inst C fs)=>some (C,fs) | _=>none
theorem instOf.at {G:Gs} {k:Nat} {p:Addr × List (Nm × PV)} (h:instOf G k = some p):G[k]? = some (.inst p.1 p.2):=by
 unfold instOf at h
 cases q:G[k]? with
 | none=>rw [q] at h; cases h
 | some r=>rw [q] at h; cases r with | inst C fs=>cases h; rfl | _=>cases h
section
variable {P:PW} {K:Frag} {h h':Heap} {Φ Φ':Fz} {R:Rn} {fr:Fr} {ow:List (List Addr)} {τ:Tau}
theorem pvR.el {p:PV} {v:Value} {C:Value -> Prop} {Q:Nat -> Prop} (h:oq (pvR p) Q) (x:VR P Φ p v) (k:∀ i c,Φ.rs[i]? = some c -> Q i -> C (.ref c.addr)):C v:=by
 cases p with | reg i=>obtain ⟨c,e⟩:=x; exact k i c e h | _=>exact h.elim
theorem find_pairs {name:Str} {es:List DictEntry} {kvs:List (Str × Value)} (x:Pairs P.sk es kvs):(es.find? (·.key.isStr name)).map (fun q=>q.val) = valueAt kvs name:=by
 induction x with
 | nil=>rfl
 | @cons e kv es kvs h1 h2 r ih =>
  obtain ⟨t',ht⟩:=Value.isStrOf_shape (x:=kv.1) h1
  unfold valueAt at ih ⊢
  rw [List.find?_cons,List.find?_cons]
  refine Decidable.byCases (fun hk:kv.1 = name=>?_) fun hk=>?_
  ·rw [show e.key.isStr name = true by rw [ht]; simp [Value.isStr,hk],decide_eq_true hk]; exact congrArg some h2
  ·rw [show e.key.isStr name = false by rw [ht]; simp [Value.isStr,hk],decide_eq_false hk]; exact ih
theorem lookIn_pairs {name:Str} {ob:Obj} {es:Array DictEntry} {ep:Nat} {kvs:List (Str × Value)} (hd:ob.data = .dict es ep) (hp:Pairs P.sk es.toList kvs):lookIn name ob = some (valueAt kvs name):=by
 unfold lookIn
 rw [hd]
 have f:=find_pairs (name:=name) hp
 have g:=pairs_noRef hp
 revert f g
 dsimp only
 cases es.toList.find? fun x=>x.key.isStr name with
 | some e=>intro f _; exact congrArg some f
 | none=>intro f g; rw [g,<- f]; rfl
inductive InstD (P:PW) (h:Heap) (Φ:Fz) (c:RC) (C:Addr) (fs:List (Nm × PV)):Prop
 | mk (ob:Obj) (I:InstAt h c.addr (instObj C c.d) C (some ob)) (k:∀ m:Nm,∃ r,lookIn (toS m) ob = some r /\ OptR (VR P Φ) (fd fs m) r)
theorem RegI.open {c:RC} {C:Addr} {fs:List (Nm × PV)} (x:RegI P h Φ c C fs):InstD P h Φ c C fs:=by
 obtain ⟨m,kvs,v,ob,es,ep,ho,hx,hd,hk,hp,hn⟩:=x.k
 exact ⟨ob,⟨x.o,rfl,rfl,ho⟩,fun m=>⟨_,lookIn_pairs hd hp,v.value⟩⟩
theorem VR.handed {p:PV} {v:Value} (x:VR P Φ p v):handedIn v = true:=by
 cases p <;> cases x <;> rfl
noncomputable def dAttr (ft:FT) (d:DE) (f:Nm):DE:=fun o fr G Q=>d o fr G fun a G=>oq (pvR a) fun k=>oq (instOf G k) fun i=>bq (ft i.1 f) (oq (fd i.2 f) fun p=>Q p G)
theorem findObj_own {C:Addr} {f:Str} {ob:Obj} {v:Value} (fo:FldOk K C f) (hl:lookIn f ob = some (some v)):findObj K C (some ob) f = some (.value v):=by
 obtain ⟨cd,hcd,hdic⟩:=any_some fo.cls.dict
 unfold findObj
 rw [hcd,fo.find]
 simp only [Option.bind_some]
 unfold ownOf
 rw [hdic,if_pos rfl]
 simp only [hl]
 rfl
theorem E.attr {ft:FT} {e:Expr} {f:Nm} {pos:Pos} {d:DE} (F:∀ P K,cx.kp P K -> FTok K ft) (hb:∀ env whole,attributeBase e (toS f) env whole = whole) (x:SE cx e d):SE cx (.Attribute e (toS f) pos) (dAttr ft d f) :=
 fun R fr ow τ O S=>.mk fun Q Q' E' h k=>by
  rw [PySem.arm_eval_Attribute,hb]
  refine wpAny_bind ((x R fr ow τ O S).use h fun a τ1 v h t1 S v1=>wpAny_bind (wpAny_standAt (wpAny_bind (wpAny_holding ?_))))
  refine pvR.el (C:=fun v=>wpAny R.M R.A (getAttr v (toS f) true) (fun r s=>wpAny R.M R.A (letTemporaryGo e v r >>= fun zq=>pure r) Q' E' s) E' τ1.s) h v1 fun i c hc h=>oq.el h fun p hp h=>bq.el h fun hft h=>oq.el h fun q hq h=>?_
  obtain ⟨ob,I,g⟩:=(S.core.regs.at hc (instOf.at hp)).open
  obtain ⟨r,hr,g⟩:=g f
  have fo:=F _ _ O.kk _ f hft
  exact g.el hq fun v e v2=>get_value (S.kin O) I fo.cls.ga (findObj_own fo (e ▸ hr)) v2.handed (wpAny_bind (wpAny_letTemporaryGo (wpAny_pure (k _ τ1.tk _ h (t1.trans .tok) S.tok v2))))
noncomputable def dMeth (mt:MT) (d:DE) (m:Nm) (l:DL):DE:=fun o fr G Q=>d o fr G fun a G=>oq (pvR a) fun k=>oq (instOf G k) fun i=>oq (mt i.1 m) fun f=>bq (!(fd i.2 m).isSome) (l o fr G fun r G=>o.c f (.reg k :: r) G Q)
noncomputable def dMeth0 (mt:MT) (d:DE) (m:Nm):DE:=fun o fr G Q=>d o fr G fun a G=>oq (pvR a) fun k=>oq (instOf G k) fun i=>oq (mt i.1 m) fun f=>bq (!(fd i.2 m).isSome) (o.c f [.reg k] G Q)
theorem meth_get {m:Nm} {C:Addr} {fs:List (Nm × PV)} {f:Addr} {E:Value -> Shared -> Prop} {c:RC} {pl:Sem Bool} {Q:Value × List Value -> Shared -> Prop} (O:R.Ok cx) (mo:MethOk R.K C (toS m) f) (S:St R fr ow τ) (x:RegI R.P τ.h τ.Φ c C fs) (hsh:(!(fd fs m).isSome) = true)
  (h:Q (.ref f,[.ref c.addr]) τ.s):wpAny R.M R.A (getMethod (.ref c.addr) (toS m) pl) Q E τ.s:=by
 obtain ⟨ob,I,g⟩:=x.open
 obtain ⟨r,hr,g⟩:=g m
 refine method_fn (S.kin O) I mo.cls.ga mo.cls.gk mo.find mo.ty ?_ h
 show (lookIn (toS m) ob).map (fun q=>q.isSome) = some false
 rw [hr]
 exact congrArg some (g.isSome.trans (nt hsh))
noncomputable def okCall (e:Expr) (m:Str) (es:List Expr) (apos pos:Pos):Prop:=∀ env,(∀ whole,attributeBase e m env whole = whole) /\ ∃ pl,eval (.Call (.Attribute e m apos) es [] pos) env = (attributeBase e m env (eval e env) >>= fun ov=>standAt apos.atName >>= fun zq=>holding [ov] (getMethod ov m pl) >>= fun fx=>callWith pos fx.1 fx.2 (backTo pos (starEach es env)) [])
section
variable {mt:MT} {e e1:Expr} {m:Nm} {es:List Expr} {apos pos:Pos} {d:DE} {l:DL}
theorem E.meth (M:∀ P K,cx.kp P K -> MTok K mt) (he:okCall e (toS m) (e1 :: es) apos pos) (hs:∀ env,starEach (e1 :: es) env = (false,eval e1 env) :: starEach es env)
  (x:SE cx e d) (y:SL cx (e1 :: es) l):SE cx (.Call (.Attribute e (toS m) apos) (e1 :: es) [] pos) (dMeth mt d m l) :=
 fun R fr ow τ O S=>.mk fun Q Q' E' h k=>by
  obtain ⟨hb,pl,he⟩:=he R.X.env
  rw [he,hb]
  refine wpAny_bind ((x R fr ow τ O S).use h fun a τ1 v h t1 S v1=>wpAny_bind (wpAny_standAt (wpAny_bind (wpAny_holding ?_))))
  refine pvR.el (C:=fun v=>wpAny R.M R.A (getMethod v (toS m) pl) (fun fx s=>wpAny R.M R.A (callWith pos fx.1 fx.2 (backTo pos (starEach (e1 :: es) R.X.env)) []) Q' E' s) E' τ1.s) h v1 fun i c hc h=>oq.el h fun p hp h=>oq.el h fun f hf h=>bq.el h fun hsh h=>?_
  have mo:=M _ _ O.kk _ m f hf
  refine meth_get O mo S (S.core.regs.at hc (instOf.at hp)) hsh ?_
  obtain ⟨ob,fd,hK,hdt⟩:=isFnK_data mo.fn
  have y2:=y R fr ow τ1 pos O S
  rw [hs] at y2 ⊢
  refine Calls.callWith_function (o:=ob) (fd:=fd) (Calls.evalArgs_plain (y2.use h fun r τ2 vs h t2 S2 v2=>⟨⟨S2.kin O _ _ hK,hdt⟩,?_⟩))
  exact S2.useCall O O.con O.room h (vs:=.ref c.addr :: vs) ⟨_,vs,⟨c,get_le t2.le hc⟩,v2⟩ fun zq τ3 zq h t3 S v3=>k _ τ3 _ h (t1.trans (t2.trans t3)) S v3
theorem E.meth0 (M:∀ P K,cx.kp P K -> MTok K mt) (he:okCall e (toS m) [] apos pos) (x:SE cx e d):SE cx (.Call (.Attribute e (toS m) apos) [] [] pos) (dMeth0 mt d m) :=
 fun R fr ow τ O S=>.mk fun Q Q' E' h k=>by
  obtain ⟨hb,pl,he⟩:=he R.X.env
  rw [he,hb]
  refine wpAny_bind ((x R fr ow τ O S).use h fun a τ1 v h t1 S v1=>wpAny_bind (wpAny_standAt (wpAny_bind (wpAny_holding ?_))))
  refine pvR.el (C:=fun v=>wpAny R.M R.A (getMethod v (toS m) pl) (fun fx s=>wpAny R.M R.A (callWith pos fx.1 fx.2 (backTo pos (starEach [] R.X.env)) []) Q' E' s) E' τ1.s) h v1 fun i c hc h=>oq.el h fun p hp h=>oq.el h fun f hf h=>bq.el h fun hsh h=>?_
  have mo:=M _ _ O.kk _ m f hf
  refine meth_get O mo S (S.core.regs.at hc (instOf.at hp)) hsh ?_
  obtain ⟨ob,fd,hK,hdt⟩:=isFnK_data mo.fn
  exact PyProof.Rows.callWith_meth0 (o:=ob) (fd:=fd) hdt (S.kin O _ _ hK) (S.useCall O O.con O.room h (vs:=[.ref c.addr]) ⟨_,[],⟨c,hc⟩,⟨⟩⟩ fun zq τ3 zq h t3 S v3=>k _ τ3 _ h (t1.trans t3) S v3)
end
theorem taker_none {C:Addr} {name:Str} (e:findIn K (.ref C) name = some none):takerIn K C name = some none:=by unfold takerIn; rw [e]; rfl
theorem set_inst {A:Around} {E:Value -> Shared -> Prop} {s:Shared} {x C d:Addr} {name:Str} {v:Value} {kvs:List (Str × Value)} {Q:Unit -> Shared -> Prop} (X:K.In s.heap) (F:FldOk K C name) (hx:s.heap.get? x = some (instObj C d)) (hd:s.heap.DictOf P.sk d kvs)
  (hl:kvs.length <= 900) (h:∀ h' tk',h'.DictOf P.sk d (stored kvs name v) -> Heap.SameBut d s.heap h' -> Q () { s with heap:=h',toks:=tk' }):wpAny P.M A (setAttr (.ref x) name v) Q E s:=by
 obtain ⟨hh,g,dr,t,os⟩:=s
 obtain ⟨ob,hob,_⟩:=DctO.of hd
 have I:InstAt hh x (instObj C d) C (some ob):=⟨hx,rfl,rfl,hob⟩
 refine set_plain X I F.cls.sa ?_
 refine osa_open (s:=⟨hh,g,dr,t + 1,os⟩) X I F.cls.plain (taker_none F.find) fun b=>?_
 obtain ⟨cd,hc,hd'⟩:=any_some F.cls.dict
 refine wpAny_bind (wpAny_pure (wpAny_bind (wpAny_bind (wpAny_loadPart hx (wpAny_bind (Looks.here (s:=⟨hh,g,dr,t + 1,os⟩) (looks_clsIn X hc) ?_))))))
 rw [hd']
 refine wpAny_pure (a:=some d) (wpAny_bind (wpAny_pure (wpAny_bind ?_)))
 refine nsSet_pairs (s:=⟨hh,g,dr,t + 1,os⟩) hd fun h' hd2 hs=>?_
 obtain ⟨o2,es2,ep2,ho2,x2,hdt2,k2,hp2,n2⟩:=hd2
 refine wpAny_bind (wpAny_lookBehind ho2 (by rw [hdt2]; exact pastItsLine_dict (by
  have h1:=hp2.length
  have h2:(stored kvs name v).length <= kvs.length + 1:=by unfold stored; split <;> simp
  rw [<- Array.length_toList,h1,sizeLine_eq]; omega)) ?_)
 exact wpAny_pure (h _ _ ⟨o2,es2,ep2,ho2,x2,hdt2,k2,hp2,n2⟩ hs)
noncomputable def aAttr (ft:FT) (d:DE) (f:Nm):DA:=fun o p fr G Q=>d o fr G fun a G=>oq (pvR a) fun k=>oq (instOf G k) fun i=>bq (ft i.1 f && decide (i.2.length <= 900)) (Q fr (G.set k (.inst i.1 (putD i.2 f p))))
theorem A.attr {ft:FT} {e:Expr} {f:Nm} {pos:Pos} {d:DE} (F:∀ P K,cx.kp P K -> FTok K ft) (x:SE cx e d):SA cx (.Attribute e (toS f) pos) (aAttr ft d f) :=
 fun R fr ow τ v p O S hv=>.mk fun Q Q' E' h k=>by
  show wpAny _ _ (holding [v] (eval e R.X.env) >>= fun ov=>standAt pos.atName >>= fun zq=>holding [v,ov] (setAttr ov (toS f) v) >>= fun zq=>release [v,ov] []) _ _ _
  refine wpAny_bind (wpAny_holding ((x R fr ow τ O S).use h fun a τ1 ov h t1 S v1=>wpAny_bind (wpAny_standAt (wpAny_bind (wpAny_holding ?_)))))
  refine pvR.el (C:=fun ov=>wpAny R.M R.A (setAttr ov (toS f) v) (fun zq s=>wpAny R.M R.A (release [v,ov] []) Q' E' s) E' τ1.s) h v1 fun i c hc h=>oq.el h fun p hp h=>bq.el h fun g h=>?_
  obtain ⟨g1,g2⟩:=Bool.and_eq_true_iff.mp g
  have I:=S.core.regs.at hc (instOf.at hp)
  obtain ⟨m,kvs,hkv,hdd⟩:=I.k
  refine set_inst (S.kin O) (F _ _ O.kk _ f g1) I.o hdd (by rw [hkv.length]; exact of_decide_eq_true g2) fun h2 tk2 hd2 hs2=>wpAny_release (k _ ow ⟨_,τ1.Φ,{ τ1.s with heap:=h2,toks:=tk2 }⟩ h (t1.trans .heap) ?_)
  exact S.turnReg O (s':={ τ1.s with heap:=h2,toks:=tk2 }) hc (fun b o' hb e=>(hs2.2 b hb).trans e) ⟨(hs2.2 _ I.ne).trans I.o,I.ne,m,_,hkv.put (VR.mono t1.le _ _ hv),hd2⟩
end
end
section
noncomputable def nm (s:String):Nm:=s.toList.map Char.toNat
theorem ofS (s:String):Str.ofString s = toS (nm s):=by rw [Str.ofString_eq_toList]; rfl
section
variable {cx:Cx}
theorem E.strl {c:String} {k:Nat} {pos:Pos}:SE cx (.Constant (.str (Str.ofString c)) k pos) (dConst (.str (nm c))):=E.strc (ofS c)
theorem E.attrS {ft:FT} {e:Expr} {f:String} {pos:Pos} {d:DE} (F:∀ P K,cx.kp P K -> FTok K ft) (hb:∀ env whole,attributeBase e (Str.ofString f) env whole = whole) (x:SE cx e d):SE cx (.Attribute e (Str.ofString f) pos) (dAttr ft d (nm f)):=by
 rw [ofS] at hb ⊢; exact E.attr F hb x
theorem E.methS {mt:MT} {e e1:Expr} {m:String} {es:List Expr} {apos pos:Pos} {d:DE} {l:DL} (M:∀ P K,cx.kp P K -> MTok K mt) (he:okCall e (Str.ofString m) (e1 :: es) apos pos)
  (hs:∀ env,starEach (e1 :: es) env = (false,eval e1 env) :: starEach es env)
  (x:SE cx e d) (y:SL cx (e1 :: es) l):SE cx (.Call (.Attribute e (Str.ofString m) apos) (e1 :: es) [] pos) (dMeth mt d (nm m) l):=by
 rw [ofS] at he ⊢; exact E.meth M he hs x y
theorem E.meth0S {mt:MT} {e:Expr} {m:String} {apos pos:Pos} {d:DE} (M:∀ P K,cx.kp P K -> MTok K mt) (he:okCall e (Str.ofString m) [] apos pos)
  (x:SE cx e d):SE cx (.Call (.Attribute e (Str.ofString m) apos) [] [] pos) (dMeth0 mt d (nm m)):=by
 rw [ofS] at he ⊢; exact E.meth0 M he x
theorem A.attrS {ft:FT} {e:Expr} {f:String} {pos:Pos} {d:DE} (F:∀ P K,cx.kp P K -> FTok K ft) (x:SE cx e d):SA cx (.Attribute e (Str.ofString f) pos) (aAttr ft d (nm f)):=by
 rw [ofS]; exact A.attr F x
end
section
variable {cx:Cx} {l r:Expr} {pos:Pos} {dl dr:DE} {dh:DH}
theorem E.oAdd (x:SE cx l dl) (y:SE cx r dr):SE cx (.BinOp l .Add r pos) (dBin fAdd dl dr):=E.bin p_add x y
theorem E.oSub (x:SE cx l dl) (y:SE cx r dr):SE cx (.BinOp l .Sub r pos) (dBin fSub dl dr):=E.bin p_sub x y
theorem E.oMul (x:SE cx l dl) (y:SE cx r dr):SE cx (.BinOp l .Mult r pos) (dBin fMul dl dr):=E.bin p_mul x y
theorem E.oMod (x:SE cx l dl) (y:SE cx r dr):SE cx (.BinOp l .Mod r pos) (dBin fMod dl dr):=E.bin p_mod x y
theorem E.oDiv (x:SE cx l dl) (y:SE cx r dr):SE cx (.BinOp l .FloorDiv r pos) (dBin fDiv dl dr):=E.bin p_div x y
theorem E.oPow (x:SE cx l dl) (y:SE cx r dr):SE cx (.BinOp l .Pow r pos) (dBin fPow dl dr):=E.bin p_pow x y
theorem E.cLt (hm:behindInMarks .Lt r = false) (x:SE cx l dl) (y:SE cx r dr):SE cx (.Compare l [.Lt] [r] pos) (dBin fLt dl dr):=E.cmp hm p_lt x y
theorem B.cLt (hm:behindInMarks .Lt r = false) (x:SE cx l dl) (y:SE cx r dr):SB cx (.Compare l [.Lt] [r] pos) (dB (dBin fLt dl dr)):=B.cmp hm p_lt x y
theorem E.cLe (hm:behindInMarks .LtE r = false) (x:SE cx l dl) (y:SE cx r dr):SE cx (.Compare l [.LtE] [r] pos) (dBin fLe dl dr):=E.cmp hm p_le x y
theorem B.cLe (hm:behindInMarks .LtE r = false) (x:SE cx l dl) (y:SE cx r dr):SB cx (.Compare l [.LtE] [r] pos) (dB (dBin fLe dl dr)):=B.cmp hm p_le x y
theorem E.cGt (hm:behindInMarks .Gt r = false) (x:SE cx l dl) (y:SE cx r dr):SE cx (.Compare l [.Gt] [r] pos) (dBin fGt dl dr):=E.cmp hm p_gt x y
theorem B.cGt (hm:behindInMarks .Gt r = false) (x:SE cx l dl) (y:SE cx r dr):SB cx (.Compare l [.Gt] [r] pos) (dB (dBin fGt dl dr)):=B.cmp hm p_gt x y
theorem E.cGe (hm:behindInMarks .GtE r = false) (x:SE cx l dl) (y:SE cx r dr):SE cx (.Compare l [.GtE] [r] pos) (dBin fGe dl dr):=E.cmp hm p_ge x y
theorem B.cGe (hm:behindInMarks .GtE r = false) (x:SE cx l dl) (y:SE cx r dr):SB cx (.Compare l [.GtE] [r] pos) (dB (dBin fGe dl dr)):=B.cmp hm p_ge x y
theorem E.cEq (hm:behindInMarks .Eq r = false) (x:SE cx l dl) (y:SE cx r dr):SE cx (.Compare l [.Eq] [r] pos) (dBin fEq dl dr):=E.cmp hm p_eq x y
theorem B.cEq (hm:behindInMarks .Eq r = false) (x:SE cx l dl) (y:SE cx r dr):SB cx (.Compare l [.Eq] [r] pos) (dB (dBin fEq dl dr)):=B.cmp hm p_eq x y
theorem E.cNe (hm:behindInMarks .NotEq r = false) (x:SE cx l dl) (y:SE cx r dr):SE cx (.Compare l [.NotEq] [r] pos) (dBin fNe dl dr):=E.cmp hm p_ne x y
theorem B.cNe (hm:behindInMarks .NotEq r = false) (x:SE cx l dl) (y:SE cx r dr):SB cx (.Compare l [.NotEq] [r] pos) (dB (dBin fNe dl dr)):=B.cmp hm p_ne x y
theorem E.cIn (hm:behindInMarks .In r = false) (x:SE cx l dl) (y:SH cx r dh):SE cx (.Compare l [.In] [r] pos) (dBinH fIn dl dh):=E.cmpH hm p_in x y
theorem B.cIn (hm:behindInMarks .In r = false) (x:SE cx l dl) (y:SH cx r dh):SB cx (.Compare l [.In] [r] pos) (dB (dBinH fIn dl dh)):=B.cmpH hm p_in x y
theorem E.cNotIn (hm:behindInMarks .NotIn r = false) (x:SE cx l dl) (y:SH cx r dh):SE cx (.Compare l [.NotIn] [r] pos) (dBinH fNotIn dl dh):=E.cmpH hm p_notIn x y
theorem B.cNotIn (hm:behindInMarks .NotIn r = false) (x:SE cx l dl) (y:SH cx r dh):SB cx (.Compare l [.NotIn] [r] pos) (dB (dBinH fNotIn dl dh)):=B.cmpH hm p_notIn x y
end
noncomputable abbrev pg:Program:=PySem.Challenge.pw_nz0401_01
noncomputable def bodyOf:Stmt -> List Stmt
 | .FunctionDef _ _ b ..=>b
 | .ClassDef _ _ _ b ..=>b
 | _=>[]
noncomputable def scopeOf:Stmt -> Scope
 | .FunctionDef _ _ _ _ _ _ sc ..=>sc
 | s=>default
noncomputable def stmtAt (i:Nat):Stmt:=(pg.main.body[i]?).getD (.Pass default)
noncomputable def stmtIn (i j:Nat):Stmt:=((bodyOf (stmtAt i))[j]?).getD (.Pass default)
end
section
inductive ER (P:PW) (Φ:Fz) (h0 h:Heap):PV -> Value -> Prop
 | old (p:PV) (v:Value) (x:VR P Φ p v):ER P Φ h0 h p v
 | new (T:Addr) (ps:List PV) (vs:List Value) (k:Nat) (x:VRs P Φ ps vs) (e:h.get? T = some (tupO vs k)) (e0:h0.get? T = none):ER P Φ h0 h (.tup ps) (.ref T)
noncomputable def Frz (Φ:Fz) (h:Heap):Prop:=∀ a o,Φ.fz a = some o -> h.get? a = some o
structure Src (P:PW) (Φ0:Fz) (t:Expr) (I:Addr) (wr:List Addr) (l:List PV) (cs:List (PV × Value)) (J:Nat -> Heap -> Prop):Prop where
 frame:∀ i h h',J i h -> (∀ b ∈ wr,∀ o,h.get? b = some o -> h'.get? b = some o) -> J i h'
 live:∀ i h,J i h -> ∀ b ∈ wr,∃ o,h.get? b = some o
 item:∀ (A:Around) i p (s:Shared) (Φ:Fz),Fz.le Φ0 Φ -> A.handled = none -> l[i]? = some p -> J i s.heap -> (∀ c ∈ cs,HR P s.heap Φ c.1 c.2) -> Frz Φ s.heap ->
  ∀ (Q:Value -> Shared -> Prop) (E:Value -> Shared -> Prop),(∀ v h' tk,J (i + 1) h' -> (∀ b o,b ∉ wr -> s.heap.get? b = some o -> h'.get? b = some o) -> ER P Φ s.heap h' p v -> Q v { s with heap:=h',toks:=tk }) ->
  wpAny P.M A (pyNext (.ref I)) (fun r s1=>match r with | some v=>wpAny P.M A (letOwnedTupleGo t (.ref I) v) (fun zq=>Q v) E s1 | none=>False) E s
 done:∀ (A:Around) (s:Shared) (Φ:Fz),Fz.le Φ0 Φ -> A.handled = none -> J l.length s.heap -> (∀ c ∈ cs,HR P s.heap Φ c.1 c.2) -> Frz Φ s.heap ->
  ∀ (Q:Option Value -> Shared -> Prop) (E:Value -> Shared -> Prop),(∀ h' tk,(∀ b o,b ∉ wr -> s.heap.get? b = some o -> h'.get? b = some o) -> Q none { s with heap:=h',toks:=tk }) -> wpAny P.M A (pyNext (.ref I)) Q E s
 self:∀ (A:Around) i (s:Shared) (Q:Value -> Shared -> Prop) (E:Value -> Shared -> Prop),J i s.heap -> Q (.ref I) s -> wpAny P.M A (pyIter (.ref I)) Q E s
section
variable {P:PW} {K:Frag} {h h':Heap} {Φ Φ':Fz}
inductive OkT:Expr -> Prop
 | n (x:Str) (p:Pos):OkT (.Name x p)
 | t (es:List Expr) (k:Nat) (p:Pos):OkT (.Tuple es k p)
noncomputable def plainIt (c:String):Bool:=!(["enumerate","zip","dict_itemiterator","dict_reverseitemiterator","odict_iterator","itertools.zip_longest","itertools.pairwise"].contains c)
theorem letGo_plain {A:Around} {E:Value -> Shared -> Prop} {s:Shared} {t:Expr} {I:Addr} {v:Value} {ob:Obj} {c:String} {Q:Unit -> Shared -> Prop} (ht:OkT t) (ho:s.heap.get? I = some ob) (hc:ob.cls = .type c) (hp:plainIt c = true) (hQ:Q () s):wpAny P.M A (letOwnedTupleGo t (.ref I) v) Q E s:=by
 cases ht with
 | n=>exact wpAny_pure hQ
 | t =>
  cases v with
  | ref a =>
   unfold letOwnedTupleGo
   refine wpAny_bind (wpAny_load ho ?_)
   rw [hc]
   cases hd:ob.data with
   | fields=>have h:=nt hp; dsimp only; rw [h]; exact wpAny_pure hQ
   | _=>exact wpAny_pure hQ
  | _=>exact wpAny_pure hQ
theorem one {a b:Addr} (h:b ∈ [a]):b = a:=List.mem_singleton.mp h
theorem not_one {a b:Addr} (h:b ∉ [a]):b ≠ a:=fun e=>h (e ▸ .head _)
theorem src_one {t:Expr} {I:Addr} {c:String} {l:List PV} {p0:PV} {v0:Value} {J:Nat -> Heap -> Prop} (ht:OkT t) (hp:plainIt c = true)
  (live:∀ i h,J i h -> ∃ o,h.get? I = some o /\ o.cls = .type c) (frame:∀ i h h',J i h -> (∀ o,h.get? I = some o -> h'.get? I = some o) -> J i h')
  (vals:∀ {h Φ},HR P h Φ p0 v0 -> ∃ vs,VRs P Φ l vs /\ (∀ A i v s (Q:Option Value -> Shared -> Prop) E,s.heap = h -> vs[i]? = some v -> J i h -> (∀ h',J (i + 1) h' -> (∀ b o,b ≠ I -> h.get? b = some o -> h'.get? b = some o) -> Q (some v) { s with heap:=h' }) -> wpAny P.M A (pyNext (.ref I)) Q E s) /\
   ∀ A s (Q:Option Value -> Shared -> Prop) E,s.heap = h -> A.handled = none -> J vs.length h -> (∀ h',(∀ b o,b ≠ I -> h.get? b = some o -> h'.get? b = some o) -> Q none { s with heap:=h' }) -> wpAny P.M A (pyNext (.ref I)) Q E s)
  (self:∀ (A:Around) i (s:Shared) (Q:Value -> Shared -> Prop) (E:Value -> Shared -> Prop),J i s.heap -> Q (.ref I) s -> wpAny P.M A (pyIter (.ref I)) Q E s):Src P Φ t I [I] l [(p0,v0)] J where
 frame:=fun i h h' st k=>frame i h h' st (k I (.head _))
 live:=fun i h st b hb=>by obtain ⟨o,ho,_⟩:=live i h st; exact ⟨o,one hb ▸ ho⟩
 item:=fun A i p s Φ zq hh hp' st hc hf Q E hQ=>by
  obtain ⟨vs,hv,h1,_⟩:=vals (hc _ (.head _))
  obtain ⟨v,hv1,hv2⟩:=hv.get hp'
  refine h1 A i v s _ E rfl hv1 st fun h' st' k=>?_
  obtain ⟨o,ho,hcl⟩:=live _ _ st'
  exact letGo_plain (s:={ s with heap:=h' }) ht ho hcl hp (hQ v h' s.toks st' (fun b o hb e=>k b o (not_one hb) e) (.old _ _ hv2))
 done:=fun A s Φ zq hh st hc zq Q E hQ=>by
  obtain ⟨vs,hv,_,h2⟩:=vals (hc _ (.head _))
  exact h2 A s Q E rfl hh (hv.length ▸ st) fun h' k=>hQ h' s.toks fun b o hb e=>k b o (not_one hb) e
 self:=self
theorem src_list {t:Expr} {I ax:Addr} {l:List PV} (ht:OkT t):Src P Φ t I [I] l [(.lst l,.ref ax)] (fun i h=>h.IsListIter I ax i) :=
 src_one (c:="list_iterator") ht (by decide) (fun i h st=>by obtain ⟨o,ho,hc,_⟩:=st; exact ⟨o,ho,hc⟩) (fun i h h' st k=>by obtain ⟨o,ho,r⟩:=st; exact ⟨o,k o ho,r⟩)
  (fun {h Φ} x=>by
   cases x with | mk _ vs n e g =>
   exact ⟨vs,g,fun A i v s Q E q hv st k=>by subst q; exact wpAny_pyNext_list_item st (isListOf e) (x:=v) (by simpa using hv) fun h' it k'=>k h' it k'.extBut,
    fun A s Q E q hh st k=>by subst q; exact wpAny_pyNext_list_end hh st (isListOf e) (by simp) fun h' k'=>k h' k'⟩)
  fun A i s Q E st hQ=>wpAny_pyIter_listiter st hQ
theorem src_tuple {t:Expr} {I ax:Addr} {l:List PV} (ht:OkT t):Src P Φ t I [I] l [(.tup l,.ref ax)] (fun i h=>h.IsTupleIter I ax i) :=
 src_one (c:="tuple_iterator") ht (by decide) (fun i h st=>by obtain ⟨o,ho,hc,_⟩:=st; exact ⟨o,ho,hc⟩) (fun i h h' st k=>by obtain ⟨o,ho,r⟩:=st; exact ⟨o,k o ho,r⟩)
  (fun {h Φ} x=>by
   cases x with | mk _ vs n e g =>
   exact ⟨vs,g,fun A i v s Q E q hv st k=>by subst q; exact wpAny_pyNext_tuple_item st (isTupleOf e) (x:=v) (by simpa using hv) fun h' it k'=>k h' it k'.extBut,
    fun A s Q E q hh st k=>by subst q; exact wpAny_pyNext_tuple_end hh st (isTupleOf e) (by simp) fun h' k'=>k h' k'⟩)
  fun A i s Q E st hQ=>wpAny_pyIter_tupleiter st hQ
end
end
section
variable {cx:Cx}
noncomputable abbrev DI:=D (List PV)
noncomputable abbrev Cs:=List (HV × PV × Value)
inductive Went (R:Rn) (fr:Fr) (ow:List (List Addr)) (τ:Tau) (t:Expr) (own:Bool) (Q:List PV -> Gs -> Prop):Value -> Shared -> Prop
 | mk (I:Addr) (τ':Tau) (l:List PV) (wr:List Addr) (cs:Cs) (J:Nat -> Heap -> Prop) (q:Q l τ'.G) (T:To τ τ') (S:St R fr ow τ') (j:J 0 τ'.h) (src:Src R.P τ'.Φ t I wr l (cs.map (fun q=>q.2)) J) (nd:wr.Nodup)
   (new:∀ a ∈ wr,New R.X τ'.Φ ow a) (hcs:∀ c ∈ cs,Held R.P τ'.Φ ow c.1 c.2.2 /\ (∀ G,c.1.res fr G = some c.2.1) /\ (own = false -> R.VR τ' c.2.1 c.2.2)):Went R fr ow τ t own Q (.ref I) τ'.s
noncomputable def Ti (own:Bool) (cx:Cx) (e t:Expr) (d:DI):Prop:=∀ R fr ow τ Q,R.Ok cx -> St R fr ow τ -> d R.o fr τ.G Q ->
 wpAny R.M R.A (eval e R.X.env) (fun x s1=>wpAny R.M R.A (pyIter x) (Went R fr ow τ t own Q) (fun zq zq=>False) s1) (fun zq zq=>False) τ.s
noncomputable abbrev SI:=Ti false
noncomputable abbrev SIh:=Ti true
theorem SI.toH {e t:Expr} {d:DI} (x:SI cx e t d):SIh cx e t d:=fun R fr ow τ Q O S h=>wpAny_mono (x R fr ow τ Q O S h) (fun v s q=>wpAny_mono q (fun v s q=>by
 obtain ⟨I,τ',l,wr,cs,J,q,T,S,j,src,nd,new,hcs⟩:=q
 exact ⟨I,τ',l,wr,cs,J,q,T,S,j,src,nd,new,fun c hc=>⟨(hcs c hc).1,(hcs c hc).2.1,fun e=>nomatch e⟩⟩) fun zq zq q=>q) fun zq zq q=>q
theorem Ti.use {own:Bool} {e t:Expr} {d:DI} (x:Ti own cx e t d) {R:Rn} {fr:Fr} {ow:List (List Addr)} {τ:Tau} {Q:List PV -> Gs -> Prop} (O:R.Ok cx) (S:St R fr ow τ) (h:d R.o fr τ.G Q) {Q':Value -> Shared -> Prop} {E':Value -> Shared -> Prop}
  (k:∀ v s,Went R fr ow τ t own Q v s -> Q' v s):wpAny R.M R.A (eval e R.X.env) (fun x s1=>wpAny R.M R.A (pyIter x) Q' E' s1) E' τ.s :=
 wpAny_mono (x R fr ow τ Q O S h) (fun v s q=>wpAny_mono q k fun zq zq f=>f.elim) fun zq zq f=>f.elim
noncomputable def Rn.st (R:Rn) (st:List (Addr × Obj)):Rn:={ R with X:={ R.X with still:=st ++ R.X.still } }
section
variable {R:Rn} {fr:Fr} {ow:List (List Addr)} {τ:Tau} {st st':List (Addr × Obj)} {s':Shared} {wr:List Addr}
theorem Rn.Ok.add (O:R.Ok cx) (st:List (Addr × Obj)):(R.st st).Ok cx:=⟨O.room,O.con,O.con',O.kk,O.kb,O.kind,O.glob,O.blt,O.tb,O.gl,O.plf,O.pln⟩
theorem own_perm (X:Act) (ow:List (List Addr)) (st:List (Addr × Obj)):(Act.own { X with still:=st ++ X.still } ow).Perm (st.map (fun q=>q.1) ++ X.own ow):=by
 show (X.fa ++ (st ++ X.still).map (fun q=>q.1) ++ ow.flatten).Perm (st.map (fun q=>q.1) ++ (X.fa ++ X.still.map (fun q=>q.1) ++ ow.flatten))
 rw [List.map_append,<- List.append_assoc,<- List.append_assoc,<- List.append_assoc]
 exact (List.perm_append_comm.append_right _).append_right _
theorem St.nd' (S:St (R.st st) fr ow τ):(st.map (fun q=>q.1)).Nodup /\ (R.X.own ow).Nodup /\ ∀ a ∈ st.map (fun q=>q.1),a ∉ R.X.own ow:=by
 obtain ⟨a,b,c⟩:=List.nodup_append.mp ((own_perm R.X ow st).nodup_iff.mp S.nd)
 exact ⟨a,b,fun x hx hy=>c x hx x hy rfl⟩
theorem St.off' (S:St (R.st st) fr ow τ) {a:Addr} (h:a ∈ st.map (fun q=>q.1) ++ R.X.own ow):Off R.X τ.Φ a :=
 have y:=S.off a ((own_perm R.X ow st).mem_iff.mpr h)
 ⟨y.f,y.h0,y.r⟩
theorem St.addStill (S:St R fr ow τ) (nd:(st.map (fun q=>q.1)).Nodup) (hn:∀ a ∈ st.map (fun q=>q.1),New R.X τ.Φ ow a) (hs:∀ p ∈ st,τ.h.get? p.1 = some p.2):St (R.st st) fr ow τ where
 core:=S.core
 slots:=S.slots
 nd:=(own_perm R.X ow st).nodup_iff.mpr (List.nodup_append.mpr ⟨nd,S.nd,fun a ha b hb e=>(hn a ha).apart (e ▸ hb)⟩)
 off:=fun a ha=>(List.mem_append.mp ((own_perm R.X ow st).mem_iff.mp ha)).elim (fun h=>⟨(hn a h).f,(hn a h).h0,(hn a h).r⟩) fun h=>⟨(S.off a h).f,(S.off a h).h0,(S.off a h).r⟩
 live:=S.live
 still:=fun p hp=>(List.mem_append.mp hp).elim (hs p) (S.still p)
theorem St.restill (O:R.Ok cx) (S:St (R.st st) fr ow τ) (k:∀ b o,b ∉ st.map (fun q=>q.1) -> τ.h.get? b = some o -> s'.heap.get? b = some o):St R fr ow ⟨τ.G,τ.Φ,s'⟩ :=
 have ⟨_,n2,n3⟩:=S.nd'
 have kk:∀ b o,b ∈ R.X.own ow -> τ.h.get? b = some o -> s'.heap.get? b = some o:=fun b o hb=>k b o fun h=>n3 b h hb
 have off:∀ {a},a ∈ st.map (fun q=>q.1) -> Off R.X τ.Φ a:=fun h=>S.off' (List.mem_append_left _ h)
 {core:=S.core.step fun b o q=>k b o fun h=>q.elim (fun q=>nomatch (off h).f.symm.trans q) fun q=>q.elim (fun q=>nomatch (off h).h0.symm.trans q) (off h).r
  slots:=S.slots.keeps Fz.le_refl (fun b o hb=>kk b o (by obtain ⟨p,hp,rfl⟩:=List.mem_map.mp hb; exact List.mem_append_left _ (List.mem_append_left _ (O.plf p hp)))) fun b o hb=>kk b o (List.mem_append_right _ hb)
  nd:=n2
  off:=fun a ha=>S.off' (List.mem_append_right _ ha)
  live:=fun a ha=>by obtain ⟨o,e⟩:=S.live a ha; exact ⟨o,kk a o (List.mem_append_left _ (List.mem_append_left _ ha)) e⟩
  still:=fun p hp=>kk _ _ (List.mem_append_left _ (List.mem_append_right _ (List.mem_map_of_mem hp))) (S.still p (List.mem_append_right _ hp)) }
theorem objs_of {h:Heap} (k:∀ b ∈ wr,∃ o,h.get? b = some o):∃ st:List (Addr × Obj),st.map (fun q=>q.1) = wr /\ ∀ p ∈ st,h.get? p.1 = some p.2:=by
 induction wr with
 | nil=>exact ⟨[],rfl,fun p hp=>nomatch hp⟩
 | cons b wr ih =>
  obtain ⟨o,ho⟩:=k b (.head _)
  obtain ⟨st,e,r⟩:=ih fun c hc=>k c (.tail _ hc)
  exact ⟨(b,o) :: st,congrArg _ e,List.forall_mem_cons.mpr ⟨ho,r⟩⟩
inductive Iter (R:Rn) (wr:List Addr) (j:Heap -> Prop) (fr:Fr) (ow:List (List Addr)) (τ:Tau):Prop
 | mk (st:List (Addr × Obj)) (e:st.map (fun q=>q.1) = wr) (S:St (R.st st) fr ow τ) (h:j τ.h):Iter R wr j fr ow τ
theorem Iter.start {j:Heap -> Prop} (S:St R fr ow τ) (nd:wr.Nodup) (hn:∀ a ∈ wr,New R.X τ.Φ ow a) (live:∀ b ∈ wr,∃ o,τ.h.get? b = some o) (h:j τ.h):Iter R wr j fr ow τ:=by
 obtain ⟨st,e,r⟩:=objs_of live
 subst e
 exact ⟨st,rfl,S.addStill nd hn r,h⟩
theorem Iter.drop {j:Heap -> Prop} (O:R.Ok cx) (x:Iter R wr j fr ow τ):St R fr ow τ:=by obtain ⟨st,e,S,h⟩:=x; exact S.restill O (s':=τ.s) fun zq zq zq h=>h
theorem Iter.turn {j j':Heap -> Prop} (O:R.Ok cx) (x:Iter R wr j fr ow τ) (k:∀ b o,b ∉ wr -> τ.h.get? b = some o -> s'.heap.get? b = some o) (live:∀ b ∈ wr,∃ o,s'.heap.get? b = some o) (h':j' s'.heap):Iter R wr j' fr ow ⟨τ.G,τ.Φ,s'⟩:=by
 obtain ⟨st,e,S,h⟩:=x
 subst e
 have ⟨n1,_,n3⟩:=S.nd'
 refine Iter.start (S.restill O k) n1 (fun a ha=>?_) live h'
 have y:=S.off' (List.mem_append_left (R.X.own ow) ha)
 refine ⟨y,n3 a ha,Bool.eq_false_iff.mpr fun q=>?_⟩
 have q:=beq_iff_eq.mp q; subst q
 obtain ⟨o,ho⟩:=O.kb.smod
 exact nomatch y.f.symm.trans (S.core.mono.f _ _ (O.kb.kfz _ _ ho))
theorem Iter.isNew {j:Heap -> Prop} {a:Addr} (O:R.Ok cx) (x:Iter R wr j fr ow τ) (e:τ.h.get? a = none):New R.X τ.Φ ow a:=(x.drop O).isNew O e
end
end
section
variable {cx:Cx}
section
variable {R:Rn} {fr fr':Fr} {ow ow':List (List Addr)} {τ τ':Tau} {st:List (Addr × Obj)} {wr:List Addr} {a:Addr} {o:Obj}
theorem Iter.freeze {j:Heap -> Prop} (x:Iter R wr j fr ow τ) (ho:τ.h.get? a = some o) (N:New R.X τ.Φ ow a) (hw:a ∉ wr):Iter R wr j fr ow ⟨τ.G,Fz.put τ.Φ a o,τ.s⟩:=by
 obtain ⟨st,e,S,h⟩:=x
 exact ⟨st,e,S.freeze ho ⟨⟨N.f,N.h0,N.r⟩,fun q=>(List.mem_append.mp ((own_perm R.X ow st).mem_iff.mp q)).elim (e ▸ hw) N.apart,N.sm⟩,h⟩
variable {Φ0:Fz} {t:Expr} {I:Addr} {l:List PV} {cs:List (PV × Value)} {J:Nat -> Heap -> Prop} {i:Nat}
theorem Iter.keep (src:Src R.P Φ0 t I wr l cs J) (e:st.map (fun q=>q.1) = wr) (hs:∀ p ∈ st,τ.h.get? p.1 = some p.2) (h:J i τ.h) (S':St (R.st st) fr' ow' τ'):Iter R wr (J i) fr' ow' τ' :=
 ⟨st,e,S',src.frame i _ _ h fun b hb o eo=>by
  rw [<- e] at hb
  obtain ⟨p,hp,rfl⟩:=List.mem_map.mp hb
  rw [show o = p.2 from Option.some.inj (eo.symm.trans (hs p hp))]
  exact S'.still p (List.mem_append_left _ hp)⟩
theorem St.mine (S:St (R.st st) fr ow τ):∀ p ∈ st,τ.h.get? p.1 = some p.2:=fun p hp=>S.still p (List.mem_append_left _ hp)
theorem Iter.next (O:R.Ok cx) (x:Iter R wr (J i) fr ow τ) (src:Src R.P Φ0 t I wr l cs J) (le:Fz.le Φ0 τ.Φ) {p:PV} (hp:l[i]? = some p) (hc:∀ c ∈ cs,HR R.P τ.h τ.Φ c.1 c.2)
  {F:Option Value -> Shared -> Prop} {E E1:Value -> Shared -> Prop} {Q:Value -> Shared -> Prop} (hF:∀ v s1,wpAny R.M R.A (letOwnedTupleGo t (.ref I) v) (fun zq=>Q v) E1 s1 -> F (some v) s1)
  (k:∀ v τ',τ'.G = τ.G -> To τ τ' -> Iter R wr (J (i + 1)) fr ow τ' -> R.VR τ' p v -> Q v τ'.s):wpAny R.M R.A (pyNext (.ref I)) F E τ.s:=by
 have S:=x.drop O
 have hj:J i τ.h:=by obtain ⟨_,_,_,h⟩:=x; exact h
 refine wpAny_mono (src.item R.A i p τ.s τ.Φ le O.room.hd hp hj hc S.core.frz Q (fun zq zq=>False) fun v h' tk hJ hk her=>?_) (fun r s1 q=>?_) fun zq zq q=>q.elim
 ·have x2:=x.turn O (s':={ τ.s with heap:=h',toks:=tk }) hk (src.live _ _ hJ) hJ
  cases her with
  | old _ _ v1=>exact k _ ⟨τ.G,τ.Φ,{ τ.s with heap:=h',toks:=tk }⟩ rfl .heap x2 v1
  | new T ps vs n v1 e e0 =>
   have N:=S.isNew O e0
   exact k _ ⟨τ.G,Fz.put τ.Φ T (tupO vs n),{ τ.s with heap:=h',toks:=tk }⟩ rfl ⟨⟨_,_⟩,Fz.le_put N.f⟩ (x2.freeze e N fun hw=>no_live e0 (src.live _ _ hj _ hw)) (VR.of_put n v1 N.f)
 ·cases r with
  | none=>exact q.elim
  | some v=>exact hF v s1 (wpAny_mono q (fun zq zq z=>z) fun zq zq z=>z.elim)
theorem Iter.done (O:R.Ok cx) (x:Iter R wr (J l.length) fr ow τ) (src:Src R.P Φ0 t I wr l cs J) (le:Fz.le Φ0 τ.Φ) (hc:∀ c ∈ cs,HR R.P τ.h τ.Φ c.1 c.2)
  {Q:Option Value -> Shared -> Prop} {E:Value -> Shared -> Prop} (k:∀ τ',τ'.G = τ.G -> To τ τ' -> St R fr ow τ' -> Q none τ'.s):wpAny R.M R.A (pyNext (.ref I)) Q E τ.s:=by
 have S:=x.drop O
 obtain ⟨st,e,S1,h⟩:=x
 subst e
 exact src.done R.A τ.s τ.Φ le O.room.hd h hc S.core.frz Q E fun h' tk hk=>k ⟨τ.G,τ.Φ,{ τ.s with heap:=h',toks:=tk }⟩ rfl .heap (S1.restill O hk)
end
noncomputable def kFor (r:Fr -> Gs -> (Flo -> Fr -> Gs -> Prop) -> Prop) (Q:Flo -> Fr -> Gs -> Prop) (f:Flo) (fr:Fr) (G:Gs):Prop:=match f with | .nx=>r fr G Q | .rt p=>Q (.rt p) fr G
noncomputable def foldS (step:PV -> Fr -> Gs -> WS):List PV -> Fr -> Gs -> WS
 | [],fr,G,Q=>Q .nx fr G
 | p :: l,fr,G,Q=>step p fr G (kFor (foldS step l) Q)
noncomputable def dTurn (o:Orc) (da:DA) (db:DS):PV -> Fr -> Gs -> WS:=fun p fr G Q=>da o p fr G fun fr G=>db o fr G Q
noncomputable def dFor (di:DI) (da:DA) (db:DS):DS:=fun o fr G Q=>di o fr G fun l G=>foldS (dTurn o da db) l fr G Q
inductive ForI (R:Rn) (wr:List Addr) (J:Nat -> Heap -> Prop) (l:List PV) (step:PV -> Fr -> Gs -> WS) (Q:Flo -> Fr -> Gs -> Prop) (τ1:Tau):Nat -> Shared -> Prop
 | mk (pre m:List PV) (fr:Fr) (ow:List (List Addr)) (τ:Tau) (e:l = pre ++ m) (it:Iter R wr (J pre.length) fr ow τ) (t:To τ1 τ) (h:foldS step m fr τ.G Q):ForI R wr J l step Q τ1 (m.length + 1) τ.s
theorem X.for {t e:Expr} {body:List Stmt} {pos:Pos} {di:DI} {da:DA} {db:DS} (hs:∀ env x,foldedSetIterable e env x = pure x) (x:SI cx e t di) (y:SA cx t da) (z:SS cx body db) :
  SX cx (.For t e body [] pos) (dFor di da db) :=
 fun R fr ow τ O S=>.mk fun Q Q' E' h k=>wpAny_For (x.use O S h fun v s w=>by
  obtain ⟨I,τ1,l,wr,cs,J,h,t1,S1,j,src,nd,new,hcs⟩:=w
  refine codeAny_forLoop_any (ForI R wr J l (dTurn R.o da db) Q τ1) (fun n s w=>?_) (l.length + 1) ⟨[],l,fr,ow,τ1,rfl,.start S1 nd new (src.live _ _ j) j,.refl,h⟩
  obtain ⟨pre,m,fr2,ow2,τ2,el,it,t2,h⟩:=w
  have hc:∀ c ∈ cs.map (fun q=>q.2),HR R.P τ2.h τ2.Φ c.1 c.2:=fun c hc=>by
   obtain ⟨c',hc',e⟩:=List.mem_map.mp hc
   subst e
   exact VR.held (it.drop O).core.frz (VR.mono t2.le _ _ ((hcs c' hc').2.2 rfl))
  cases m with
  | nil =>
   rw [List.append_nil] at el; subst el
   exact it.done O src t2.le hc fun τ3 e3 t3 S3=>wpAny_execs_nil (k _ _ _ τ3 _ (e3 ▸ h) (t1.trans (t2.trans t3)) S3 .nx)
  | cons p m =>
   refine it.next O src t2.le (p:=p) (by rw [el]; simp) hc (fun v s1 q=>q) fun v τ3 e3 t3 it v3=>?_
   obtain ⟨st,e,S3,hJ⟩:=it
   have O2:=O.add st
   have h:da R.o p fr2 τ3.G (fun fr G=>db R.o fr G (kFor (foldS (dTurn R.o da db) m) Q)):=e3 ▸ h
   refine (y (R.st st) fr2 ow2 τ3 v p O2 S3 v3).use h fun fr4 ow4 τ4 h t4 S4=>(z (R.st st) fr4 ow4 τ4 O2 S4).use h fun f fr5 ow5 τ5 fl h t5 S5 v5=>?_
   have it5:=Iter.keep src e S3.mine hJ S5
   have t25:=t2.trans (t3.trans (t4.trans t5))
   cases v5 with
   | nx=>exact ⟨m.length + 1,Nat.lt_succ_self _,pre ++ [p],m,fr5,ow5,τ5,by rw [el]; simp,by rw [List.length_append]; exact it5,t25,h⟩
   | rt p v x=>exact k (.rt p) fr5 ow5 τ5 _ h (t1.trans t25) (it5.drop O) (.rt p v x)) (hs _)
end
section
section
variable {P:PW}
theorem append_exact {A:Around} {E:Value -> Shared -> Prop} {s:Shared} {l:Addr} {vs:List Value} {k:Nat} {x:Value} {Q:Value -> Shared -> Prop} (hl:s.heap.get? l = some (lstO vs k)) (hsz:vs.length <= sizeLine)
  (hQ:∀ h' k',h'.get? l = some (lstO (vs ++ [x]) k') -> Heap.SameBut l s.heap h' -> Q .none { s with heap:=h' }):wpAny (P.M) A (call (.builtin "list.append") [.ref l,x]) Q E s:=by
 refine wpAny_call_entry slot_list_append (isListOf hl).typeIs entry_list_append ?_ (args_list_append _ _)
 show wpAny _ _ (updateSeq l (·.push x) >>= fun zq=>ret .none) _ _ s
 refine wpAny_bind ?_
 refine wpAny_updateSeq hl rfl ?_ (by simpa using hsz)
 refine wpAny_pure ⟨.none,rfl,hQ _ (k + 1) ?_ (Heap.SameBut.update ..)⟩
 refine (Heap.get?_update_self _ hl rfl).trans ?_
 simp [Obj.mapSeq,lstO]
noncomputable def testsOf (env:Env) (ifs:List Expr):Sem Bool:=forIn ifs true fun c r=>if r = true then do let ok <- isTrue c env (eval c env); pure (ForInStep.yield ok) else pure (ForInStep.yield r)
theorem comp_turn {elt t iter:Expr} {ifs:List Expr} {gens:List Comprehension} {scope:Scope} {pos:Pos} {d:Nat} (it acc:Value) (env:Env) (hg:gens[d]? = some ⟨t,iter,ifs,0⟩) :
  compTurn (.ListComp elt gens scope pos) d it acc env = (standAt iter.pos >>= fun zq=>pyNext it >>= fun r=>match r with
   | none=>pure (.done .next)
   | some v=>letOwnedTupleGo t it v >>= fun zq=>assign t env v >>= fun zq=>testsOf env ifs >>= fun ok =>
    if ok = true then (match gens[d + 1]? with
     | some g'=>(do
       let x <- eval g'.iter env
       standAt g'.iter.pos
       let x <- if g'.is_async != 0 then foldedIterable g'.iter x else foldedSetIterable g'.iter env x
       let _ <- runOwn (.compStart (.ListComp elt gens scope pos) (d + 1) (<- holding [x] (if g'.is_async != 0 then asyncIter x else pyIter x)) acc env) env
       again (.compLoop (.ListComp elt gens scope pos) d it acc env))
     | none=>((eval elt env >>= fun x=>call (.builtin "list.append") [acc,x] >>= fun zq=>pure ()) >>= fun zq=>again (.compLoop (.ListComp elt gens scope pos) d it acc env)))
    else again (.compLoop (.ListComp elt gens scope pos) d it acc env)):=by
 unfold compTurn
 simp only [hg]
 simp only [bne_self_eq_false,Bool.false_eq_true,if_false]
 congr 1
theorem comp_rule {A:Around} {R:Result -> Shared -> Prop} {s:Shared} {elt t iter:Expr} {ifs:List Expr} {gens:List Comprehension} {scope:Scope} {pos:Pos} {d:Nat} {it acc:Value} {env:Env} (hg:gens[d]? = some ⟨t,iter,ifs,0⟩)
  (ha:∀ g',gens[d + 1]? = some g' -> g'.is_async = 0 /\ ∀ x,foldedSetIterable g'.iter env x = pure x) (I:Nat -> Shared -> Prop)
  (turn:∀ n s,I n s -> wpAny (P.M) A (pyNext it) (fun r s₁=>match r with
   | none=>R (.ok .next) s₁
   | some v=>wpAny (P.M) A (letOwnedTupleGo t it v) (fun zq s₁'=>wpAny (P.M) A (assign t env v) (fun zq s₂ =>
     wpAny (P.M) A (testsOf env ifs) (fun ok s₃=>if ok = true then (match gens[d + 1]? with
      | some g'=>wpAny (P.M) A (eval g'.iter env) (fun x s₄=>wpAny (P.M) A (pyIter x) (fun it2 s₅=>codeAny (P.M) A (.compStart (.ListComp elt gens scope pos) (d + 1) it2 acc env)
        (fun r s'=>match r with | .ok _=>∃ m,m < n /\ I m s' | .error e=>cameBackBy (P.M) A env (notedBy (P.M) A env fun e s'=>R (.error e) s') e s') s₅) (notedBy (P.M) A env fun e s'=>R (.error e) s') s₄) (notedBy (P.M) A env fun e s'=>R (.error e) s') s₃
      | none=>wpAny (P.M) A (eval elt env) (fun x s₄=>wpAny (P.M) A (call (.builtin "list.append") [acc,x]) (fun zq s₅=>∃ m,m < n /\ I m s₅) (notedBy (P.M) A env fun e s'=>R (.error e) s') s₄) (notedBy (P.M) A env fun e s'=>R (.error e) s') s₃)
      else ∃ m,m < n /\ I m s₃) (notedBy (P.M) A env fun e s'=>R (.error e) s') s₂) (notedBy (P.M) A env fun e s'=>R (.error e) s') s₁')
      (notedBy (P.M) A env fun e s'=>R (.error e) s') s₁) (notedBy (P.M) A env fun e s'=>R (.error e) s') s)
  (n:Nat) (h:I n s):codeAny (P.M) A (.compLoop (.ListComp elt gens scope pos) d it acc env) R s:=by
 refine codeAny_loop rfl I (fun n s hI=>?_) n h
 show wpAny _ A ((compTurn (.ListComp elt gens scope pos) d it acc env).onRaise (fun x=>do noteFrame x env; theTreesLotGoes x)) _ _ s
 refine wpAny_noted ?_
 rw [comp_turn it acc env hg]
 refine wpAny_bind (wpAny_standAt (wpAny_bind (wpAny_mono (turn n s hI) (fun r s₁ h₁=>?_) fun zq zq h'=>h')))
 cases r with
 | none=>exact wpAny_pure h₁
 | some v =>
  refine wpAny_bind (wpAny_mono h₁ (fun zq s₁' h₁'=>wpAny_bind (wpAny_mono h₁' (fun zq s₂ h₂=>wpAny_bind (wpAny_mono h₂ (fun ok s₃ h₃=>?_) fun zq zq h'=>h')) fun zq zq h'=>h')) fun zq zq h'=>h')
  cases ok with
  | false=>exact wpAny_pure ⟨rfl,h₃⟩
  | true =>
   simp only [if_true] at h₃ ⊢
   cases hg':gens[d + 1]? with
   | none =>
    rw [hg'] at h₃
    exact wpAny_bind (wpAny_bind (wpAny_mono h₃ (fun x s₄ h₄=>wpAny_bind (wpAny_mono h₄ (fun zq s₅ h₅=>wpAny_pure (wpAny_pure ⟨rfl,h₅⟩)) fun zq zq h'=>h')) fun zq zq h'=>h'))
   | some g' =>
    rw [hg'] at h₃
    obtain ⟨a1,a2⟩:=ha g' hg'
    obtain ⟨t',i',f',y'⟩:=g'
    dsimp only at a1 a2 h₃ ⊢
    subst a1
    simp only [bne_self_eq_false,Bool.false_eq_true,if_false]
    refine wpAny_bind (wpAny_mono h₃ (fun x s₄ h₄=>wpAny_bind (wpAny_standAt ?_)) fun zq zq h'=>h')
    rw [a2]
    refine wpAny_bind (wpAny_pure (wpAny_bind (wpAny_holding (wpAny_mono h₄ (fun it2 s₅ h₅=>wpAny_bind (wpAny_runOwn (codeAny_mono h₅ fun r s' hr=>?_))) fun zq zq h'=>h'))))
    cases r with
    | ok f=>exact wpAny_pure ⟨rfl,hr⟩
    | error e=>exact hr
theorem comp_start {A:Around} {R:Result -> Shared -> Prop} {s:Shared} {elt t iter:Expr} {ifs:List Expr} {gens:List Comprehension} {scope:Scope} {pos:Pos} {d:Nat} {it acc:Value} {env:Env} (hg:gens[d]? = some ⟨t,iter,ifs,0⟩)
  (h0:codeAny (P.M) A (.compLoop (.ListComp elt gens scope pos) d it acc env) R s)
  (h:wpAny (P.M) A (pyIter it) (fun it' s'=>codeAny (P.M) A (.compLoop (.ListComp elt gens scope pos) d it' acc env) R s')
   (notedBy (P.M) A env fun x s'=>R (.error x) s') s) :
  codeAny (P.M) A (.compStart (.ListComp elt gens scope pos) d it acc env) R s:=by
 refine codeAny_of_tree ?_
 show wpAny _ _ ((compStart (.ListComp elt gens scope pos) d it acc env).onRaise (fun x=>do noteFrame x env; standAt theWindowsPlace)) _ _ s
 refine wpAny_notedAt ?_
 unfold compStart
 have hc:(clausesOf (.ListComp elt gens scope pos))[d]? = some ⟨t,iter,ifs,0⟩:=hg
 rw [hc]
 show wpAny _ _ (ask >>= _) _ _ s
 refine wpAny_bind (wpAny_askSetting (wpAny_ite ?_))
 split
 ·first
   | exact wpAny_bind (wpAny_pure (wpAny_pure (And.intro rfl h0)))
   | exact wpAny_pure (And.intro rfl h0)
 ·first
   | exact wpAny_bind (wpAny_rule (wpAny_bind (wpAny_standAt (wpAny_bind (wpAny_mono h (fun it' s' h'=>wpAny_pure (And.intro rfl h')) fun zq zq x=>x)))))
   | (refine wpAny_bind (wpAny_rule ?_); show wpAny _ _ (standAt iter.pos >>= _) _ _ s; exact wpAny_bind (wpAny_standAt (wpAny_bind (wpAny_mono h (fun it' s' h'=>wpAny_pure (And.intro rfl h')) fun zq zq x=>x))))
end
end
section
variable {cx:Cx}
structure Tk (N:Nat) (fr fr':Fr) (ow ow':List (List Addr)):Prop where
 f:fr'.take N = fr.take N
 o:ow'.take N = ow.take N
theorem Tk.refl {N:Nat} {fr:Fr} {ow:List (List Addr)}:Tk N fr fr ow ow:=⟨rfl,rfl⟩
theorem Tk.trans {N:Nat} {fr fr' fr2:Fr} {ow ow' ow2:List (List Addr)} (a:Tk N fr fr' ow ow') (b:Tk N fr' fr2 ow' ow2):Tk N fr fr2 ow ow2:=⟨b.f.trans a.f,b.o.trans a.o⟩
inductive PoT (R:Rn) (N:Nat) (fr:Fr) (ow:List (List Addr)) (τ:Tau) (Q:Fr -> Gs -> Prop) (_:Unit):Shared -> Prop
 | mk (fr':Fr) (ow':List (List Addr)) (τ':Tau) (q:Q fr' τ'.G) (t:To τ τ') (S:St R fr' ow' τ') (k:Tk N fr fr' ow ow'):PoT R N fr ow τ Q () τ'.s
noncomputable def Tc (R:Rn) (N:Nat) (fr:Fr) (ow:List (List Addr)) (τ:Tau) (t:Sem Unit) (d:(Fr -> Gs -> Prop) -> Prop):Prop:=∀ Q,d Q -> wpAny R.M R.A t (PoT R N fr ow τ Q) (fun zq zq=>False) τ.s
section
variable {R:Rn} {N:Nat} {fr:Fr} {ow:List (List Addr)} {τ:Tau} {t:Sem Unit} {d:(Fr -> Gs -> Prop) -> Prop}
theorem Tc.mk (x:∀ Q Q' E',d Q -> (∀ fr' ow' τ',Q fr' τ'.G -> To τ τ' -> St R fr' ow' τ' -> Tk N fr fr' ow ow' -> Q' () τ'.s) -> wpAny R.M R.A t Q' E' τ.s):Tc R N fr ow τ t d :=
 fun Q h=>x Q _ _ h fun fr' ow' τ' a b c e=>⟨fr',ow',τ',a,b,c,e⟩
theorem Tc.use (x:Tc R N fr ow τ t d) {Q:Fr -> Gs -> Prop} (h:d Q) {Q':Unit -> Shared -> Prop} {E':Value -> Shared -> Prop} (k:∀ fr' ow' τ',Q fr' τ'.G -> To τ τ' -> St R fr' ow' τ' -> Tk N fr fr' ow ow' -> Q' () τ'.s):wpAny R.M R.A t Q' E' τ.s :=
 wpAny_mono (x Q h) (fun v zq y=>by obtain ⟨fr',ow',τ',a,b,c,e⟩:=y; exact k fr' ow' τ' a b c e) fun zq zq f=>f.elim
end
noncomputable def SAc (N:Nat) (cx:Cx) (t:Expr) (d:DA):Prop:=∀ R fr ow τ v p,R.Ok cx -> St R fr ow τ -> R.VR τ p v -> Tc R N fr ow τ (assign t R.X.env v) (d R.o p fr τ.G)
noncomputable def SAcs (N:Nat) (cx:Cx) (ts:List Expr) (d:DAs):Prop:=∀ R fr ow τ vs ps,R.Ok cx -> St R fr ow τ -> R.VRs τ ps vs -> Tc R N fr ow τ (assignInOrder ((assignEach ts R.X.env).map (fun q=>q.2)) vs) (d R.o ps fr τ.G)
noncomputable def STs (cx:Cx) (ifs:List Expr) (d:DB):Prop:=∀ R fr ow τ,R.Ok cx -> St R fr ow τ -> Tr R fr ow τ (testsOf R.X.env ifs) (d R.o fr τ.G) fun zq b v=>v = b
noncomputable abbrev Dg:=DI × DA × DB
inductive SG (N:Nat) (cx:Cx):Comprehension -> Dg -> Prop
 | mk (t iter:Expr) (ifs:List Expr) (di:DI) (da:DA) (dt:DB) (f:∀ env x,foldedSetIterable iter env x = pure x) (i:SI cx iter t di) (a:SAc N cx t da) (b:STs cx ifs dt):SG N cx ⟨t,iter,ifs,0⟩ (di,da,dt)
inductive SGs (N:Nat) (cx:Cx):List Comprehension -> List Dg -> Prop
 | nil:SGs N cx [] []
 | cons (g:Comprehension) (gs:List Comprehension) (d:Dg) (ds:List Dg) (x:SG N cx g d) (y:SGs N cx gs ds):SGs N cx (g :: gs) (d :: ds)
noncomputable abbrev WC:=(List PV -> Fr -> Gs -> Prop) -> Prop
noncomputable abbrev DN:=List PV -> Fr -> Gs -> WC
noncomputable def foldC (step:PV -> DN):List PV -> DN
 | [],acc,fr,G,Q=>Q acc fr G
 | p :: l,acc,fr,G,Q=>step p acc fr G fun acc fr G=>foldC step l acc fr G Q
noncomputable def dStep (o:Orc) (da:DA) (dt:DB) (dn:DN) (p:PV):DN:=fun acc fr G Q=>da o p fr G fun fr G=>dt o fr G fun b G=>cond b (dn acc fr G Q) (Q acc fr G)
noncomputable def dNext (o:Orc) (de:DE):List Dg -> DN
 | [],acc,fr,G,Q=>de o fr G fun v G=>bq (decide (acc.length <= 1000)) (Q (acc ++ [v]) fr G)
 | d :: ds,acc,fr,G,Q=>d.1 o fr G fun l G=>foldC (dStep o d.2.1 d.2.2 (dNext o de ds)) l acc fr G Q
noncomputable def Rn.wst (R:Rn) (l:List (Addr × Obj)):Rn:={ R with X:={ R.X with still:=l } }
section
variable {R:Rn} {N:Nat} {fr fr':Fr} {ow ow':List (List Addr)} {τ τ':Tau} {D:Addr} {acc:List PV} {wr:List Addr} {st:List (Addr × Obj)}
theorem St.perm {l l':List (Addr × Obj)} (p:l.Perm l') (S:St (R.wst l) fr ow τ):St (R.wst l') fr ow τ :=
 have q:(Act.own { R.X with still:=l } ow).Perm (Act.own { R.X with still:=l' } ow):=((p.map _).append_left _).append_right _
 {core:=S.core
  slots:=S.slots
  nd:=q.nodup_iff.mp S.nd
  off:=fun a ha=>have y:=S.off a (q.mem_iff.mpr ha); ⟨y.f,y.h0,y.r⟩
  live:=S.live
  still:=fun x hx=>S.still x (p.mem_iff.mpr hx) }
inductive Acc (R:Rn) (D:Addr) (acc:List PV) (fr:Fr) (ow:List (List Addr)) (τ:Tau):Prop
 | mk (vs:List Value) (k:Nat) (v:R.VRs τ acc vs) (S:St (R.st [(D,lstO vs k)]) fr ow τ):Acc R D acc fr ow τ
theorem map_one {st:List (Addr × Obj)} {a:Addr} (e:st.map (fun q=>q.1) = [a]):∃ o,st = [(a,o)]:=by
 cases st with
 | nil=>cases e
 | cons q st=>cases st with | nil=>cases e; exact ⟨q.2,rfl⟩ | cons=>cases e
theorem Acc.add (O:R.Ok cx) {vs:List Value} {k:Nat} (v:R.VRs τ acc vs) (S:St (R.st [(D,lstO vs k)]) fr ow τ) {p:PV} {x:Value} (hx:R.VR τ p x) (g:decide (acc.length <= 1000) = true) {Q:Value -> Shared -> Prop} {E:Value -> Shared -> Prop}
  (j:∀ τ',τ'.G = τ.G -> To τ τ' -> Acc R D (acc ++ [p]) fr ow τ' -> Q .none τ'.s):wpAny R.M R.A (call (.builtin "list.append") [.ref D,x]) Q E τ.s:=by
 have hD:=S.still _ (.head _)
 refine append_exact hD (by rw [v.length,sizeLine_eq]; exact Nat.le_trans (of_decide_eq_true g) (by decide)) fun h' k' e hs=>j ⟨τ.G,τ.Φ,{ τ.s with heap:=h' }⟩ rfl .heap ?_
 have it:Iter R [D] (fun h=>h.get? D = some (lstO vs k)) fr ow τ:=⟨_,rfl,S,hD⟩
 obtain ⟨st,e1,S2,e2⟩:=it.turn (j':=fun h=>h.get? D = some (lstO (vs ++ [x]) k')) (s':={ τ.s with heap:=h' }) O (fun b o hb e=>(hs.2 b (not_one hb)).trans e) (fun b hb=>⟨_,one hb ▸ e⟩) e
 obtain ⟨ob,e1⟩:=map_one e1
 subst e1
 have e3:=Option.some.inj ((S2.still _ (.head _)).symm.trans e2)
 subst e3
 exact ⟨_,_,v.append ⟨x,[],hx,⟨⟩⟩,S2⟩
end
end
section
variable {cx:Cx}
noncomputable def NextWp (R:Rn) (elt:Expr) (gens:List Comprehension) (scope:Scope) (pos:Pos) (d:Nat) (D:Addr) (W:Shared -> Prop) (E:Value -> Shared -> Prop) (s:Shared):Prop :=
 match gens[d + 1]? with
 | some g'=>wpAny R.M R.A (eval g'.iter R.X.env) (fun x s₄=>wpAny R.M R.A (pyIter x) (fun it2 s₅=>codeAny R.M R.A (.compStart (.ListComp elt gens scope pos) (d + 1) it2 (.ref D) R.X.env)
   (fun r s'=>match r with | .ok _=>W s' | .error e=>cameBackBy R.M R.A R.X.env E e s') s₅) E s₄) E s
 | none=>wpAny R.M R.A (eval elt R.X.env) (fun x s₄=>wpAny R.M R.A (call (.builtin "list.append") [.ref D,x]) (fun zq s₅=>W s₅) E s₄) E s
noncomputable def NextOk (N:Nat) (cx:Cx) (elt:Expr) (gens:List Comprehension) (scope:Scope) (pos:Pos) (d:Nat) (dn:Orc -> DN):Prop :=
 ∀ R fr ow τ D acc Q,R.Ok cx -> Acc R D acc fr ow τ -> dn R.o acc fr τ.G Q -> ∀ (W:Shared -> Prop) (E:Value -> Shared -> Prop),(∀ acc' fr' ow' τ',Q acc' fr' τ'.G -> To τ τ' -> Acc R D acc' fr' ow' τ' -> Tk N fr fr' ow ow' -> W τ'.s) -> NextWp R elt gens scope pos d D W E τ.s
theorem Held.take {P:PW} {Φ:Fz} {ow:List (List Addr)} {N:Nat} {hv:HV} {v:Value} (x:Held P Φ (ow.take N) hv v):Held P Φ ow hv v:=by
 cases hv with
 | v p=>exact x
 | sl i=>obtain ⟨a,h⟩:=x; rw [List.getElem?_take] at h; split at h; exact ⟨a,h⟩; cases h
 | rg k=>exact x
structure Cok (R:Rn) (N:Nat) (fr:Fr) (ow:List (List Addr)) (τ:Tau) (c:HV × PV × Value):Prop where
 h:Held R.P τ.Φ (ow.take N) c.1 c.2.2
 r:∀ fr2 G2,fr2.take N = fr.take N -> c.1.res fr2 G2 = some c.2.1
inductive CI (R:Rn) (N:Nat) (D:Addr) (wr:List Addr) (J:Nat -> Heap -> Prop) (l:List PV) (step:PV -> DN) (Q:List PV -> Fr -> Gs -> Prop) (fr0:Fr) (ow0:List (List Addr)) (τ0:Tau):Nat -> Shared -> Prop
 | mk (pre m acc:List PV) (vs:List Value) (k:Nat) (fr:Fr) (ow:List (List Addr)) (τ:Tau) (e:l = pre ++ m) (v:R.VRs τ acc vs) (it:Iter (R.st [(D,lstO vs k)]) wr (J pre.length) fr ow τ) (t:To τ0 τ) (tk:Tk N fr0 fr ow0 ow)
   (h:foldC step m acc fr τ.G Q):CI R N D wr J l step Q fr0 ow0 τ0 (m.length + 1) τ.s
theorem comp_step {elt t iter:Expr} {ifs:List Expr} {gens:List Comprehension} {scope:Scope} {pos:Pos} {N d:Nat} {da:DA} {dt:DB} {dn:Orc -> DN} (hg:gens[d]? = some ⟨t,iter,ifs,0⟩) (ha:∀ g',gens[d + 1]? = some g' -> g'.is_async = 0 /\ ∀ env x,foldedSetIterable g'.iter env x = pure x)
  (hda:SAc N cx t da) (hdt:STs cx ifs dt) (hN:NextOk N cx elt gens scope pos d dn)
  {R:Rn} {fr:Fr} {ow:List (List Addr)} {τ:Tau} {D I:Addr} {acc l:List PV} {vs:List Value} {k:Nat} {wr:List Addr} {cs:Cs} {J:Nat -> Heap -> Prop} {Q:List PV -> Fr -> Gs -> Prop} {W:Result -> Shared -> Prop}
  (O:R.Ok cx) (v:R.VRs τ acc vs) (S:St (R.st [(D,lstO vs k)]) fr ow τ) (hJ:J 0 τ.h) (src:Src R.P τ.Φ t I wr l (cs.map (fun q=>q.2)) J) (nd:wr.Nodup) (new:∀ a ∈ wr,New (R.st [(D,lstO vs k)]).X τ.Φ ow a) (hcs:∀ c ∈ cs,Cok R N fr ow τ c)
  (h:foldC (dStep R.o da dt (dn R.o)) l acc fr τ.G Q) (hW:∀ acc' fr' ow' τ',Q acc' fr' τ'.G -> To τ τ' -> Acc R D acc' fr' ow' τ' -> Tk N fr fr' ow ow' -> W (.ok .next) τ'.s) :
  codeAny R.M R.A (.compLoop (.ListComp elt gens scope pos) d (.ref I) (.ref D) R.X.env) W τ.s:=by
 refine comp_rule hg (fun g' h=>⟨(ha g' h).1,(ha g' h).2 _⟩) (CI R N D wr J l (dStep R.o da dt (dn R.o)) Q fr ow τ) (fun n s w=>?_) (l.length + 1) ⟨[],l,acc,vs,k,fr,ow,τ,rfl,v,.start S nd new (src.live _ _ hJ) hJ,.refl,.refl,h⟩
 obtain ⟨pre,m,acc,vs,k,fr2,ow2,τ2,el,v,it,t2,tk2,h⟩:=w
 have O1:=O.add [(D,lstO vs k)]
 have hc:∀ c ∈ cs.map (fun q=>q.2),HR R.P τ2.h τ2.Φ c.1 c.2:=fun c hc=>by
  obtain ⟨c',hc',e⟩:=List.mem_map.mp hc
  subst e
  exact (it.drop O1).held (Held.take (tk2.o ▸ (hcs c' hc').h.mono t2.le)) ((hcs c' hc').r fr2 τ2.G tk2.f)
 cases m with
 | nil =>
  rw [List.append_nil] at el; subst el
  exact it.done O1 src t2.le hc fun τ3 e3 t3 S3=>hW _ _ _ τ3 (e3 ▸ h) (t2.trans t3) ⟨vs,k,VRs.mono t3.le _ _ v,S3⟩ tk2
 | cons p m =>
  refine it.next O1 src t2.le (p:=p) (by rw [el]; simp) hc (fun v s1 q=>q) fun v' τ3 e3 t3 it v3=>?_
  obtain ⟨st,e,S3,hJ⟩:=it
  have O2:=O1.add st
  have h:da R.o p fr2 τ3.G (fun fr G=>dt R.o fr G fun b G=>cond b (dn R.o acc fr G fun acc fr G=>foldC (dStep R.o da dt (dn R.o)) m acc fr G Q) (foldC (dStep R.o da dt (dn R.o)) m acc fr G Q)):=e3 ▸ h
  refine (hda ((R.st [(D,lstO vs k)]).st st) fr2 ow2 τ3 v' p O2 S3 v3).use h fun fr4 ow4 τ4 h t4 S4 tk4=>(hdt ((R.st [(D,lstO vs k)]).st st) fr4 ow4 τ4 O2 S4).use h fun b τ5 b' h t5 S5 eb=>?_
  subst eb
  have t35:=t3.trans (t4.trans t5)
  have v5:=VRs.mono t35.le _ _ v
  have el2:l = (pre ++ [p]) ++ m:=by rw [el]; simp
  have hl:J (pre ++ [p]).length τ3.h:=by rw [List.length_append]; exact hJ
  cases b' with
  | false=>exact ⟨m.length + 1,Nat.lt_succ_self _,pre ++ [p],m,acc,vs,k,fr4,ow4,τ5,el2,v5,Iter.keep src e S3.mine hl S5,t2.trans t35,tk2.trans tk4,h⟩
  | true =>
   refine hN (R.st st) fr4 ow4 τ5 D acc _ (O.add st) ⟨vs,k,v5,St.perm (R:=R) (l:=st ++ (D,lstO vs k) :: R.X.still) (l':=(D,lstO vs k) :: (st ++ R.X.still)) List.perm_middle S5⟩ h _ _ fun acc' fr6 ow6 τ6 h t6 a6 tk6=>?_
   obtain ⟨vs',k',v6,S6⟩:=a6
   exact ⟨m.length + 1,Nat.lt_succ_self _,pre ++ [p],m,acc',vs',k',fr6,ow6,τ6,el2,v6,Iter.keep (R:=R.st [(D,lstO vs' k')]) src e S3.mine hl (St.perm (R:=R) (l:=(D,lstO vs' k') :: (st ++ R.X.still)) (l':=st ++ (D,lstO vs' k') :: R.X.still) List.perm_middle.symm S6),t2.trans (t35.trans t6),tk2.trans (tk4.trans tk6),h⟩
end
section
variable {cx:Cx}
theorem drop_get {α:Type} {l:List α} {d:Nat} {x:α} {r:List α} (e:l.drop d = x :: r):l[d]? = some x /\ l.drop (d + 1) = r:=by
 have h1:(l.drop d)[0]? = some x:=by rw [e]; rfl
 rw [List.getElem?_drop] at h1
 exact ⟨h1,by rw [<- List.drop_drop,e]; rfl⟩
theorem drop_nil {α:Type} {l:List α} {d:Nat} (e:l.drop d = []):l[d]? = none:=List.getElem?_eq_none_iff.mpr (List.drop_eq_nil_iff.mp e)
noncomputable abbrev kCs (cs:Cs):Cs:=cs.map fun c=>(HV.v c.2.1,c.2)
theorem kCs_src {P:PW} {Φ:Fz} {t:Expr} {I:Addr} {wr:List Addr} {l:List PV} {cs:Cs} {J:Nat -> Heap -> Prop} (x:Src P Φ t I wr l (cs.map (fun q=>q.2)) J):Src P Φ t I wr l ((kCs cs).map (fun q=>q.2)) J:=by rw [List.map_map]; exact x
theorem kCs_ok {R:Rn} {N:Nat} {fr:Fr} {ow:List (List Addr)} {τ:Tau} {cs:Cs} (h:∀ c ∈ cs,R.VR τ c.2.1 c.2.2):∀ c ∈ kCs cs,Cok R N fr ow τ c:=fun c hc=>by
 obtain ⟨c',hc',e⟩:=List.mem_map.mp hc
 subst e
 exact ⟨h c' hc',fun zq zq zq=>rfl⟩
theorem SGs.head {N:Nat} {gens gs:List Comprehension} {ds:List Dg} {d:Nat} (y:SGs N cx gs ds) (e:gens.drop d = gs):∀ g',gens[d]? = some g' -> g'.is_async = 0 /\ ∀ env x,foldedSetIterable g'.iter env x = pure x:=fun g' hg=>by
 cases y with
 | nil=>rw [drop_nil e] at hg; cases hg
 | cons g gs d ds x y=>rw [(drop_get e).1] at hg; cases hg; cases x with | mk t i f di da dt q _ _ _=>exact ⟨rfl,q⟩
theorem next_ok {elt:Expr} {gens:List Comprehension} {scope:Scope} {pos:Pos} {N:Nat} {de:DE} (hde:SE cx elt de) {ds:List Dg} {gs:List Comprehension} {d:Nat} (hdr:gens.drop (d + 1) = gs) (x:SGs N cx gs ds) :
  NextOk N cx elt gens scope pos d fun o=>dNext o de ds:=by
 induction x generalizing d with
 | nil =>
  intro R fr ow τ D acc Q O a h W E hW
  unfold NextWp
  rw [drop_nil hdr]
  obtain ⟨vs,k,v,S⟩:=a
  exact (hde (R.st [(D,lstO vs k)]) fr ow τ (O.add _) S).use h fun p τ1 x h t1 S1 v1=>bq.el h fun g h=>Acc.add O (VRs.mono t1.le _ _ v) S1 v1 g fun τ2 e t2 a2=>hW _ _ _ τ2 (e ▸ h) (t1.trans t2) a2 .refl
 | cons g gs dg ds x y ih =>
  obtain ⟨hg,hdr2⟩:=drop_get hdr
  intro R fr ow τ D acc Q O a h W E hW
  unfold NextWp
  rw [hg]
  obtain ⟨vs,k,v,S⟩:=a
  obtain ⟨t,iter,ifs,di,da,dt,f,i,a,b⟩:=x
  refine i.use (R:=R.st [(D,lstO vs k)]) (O.add _) S h fun w s q=>?_
  obtain ⟨I,τ1,l,wr,cs,J,h,t1,S1,j,src,nd,new,hcs⟩:=q
  have go:codeAny R.M R.A (.compLoop (.ListComp elt gens scope pos) (d + 1) (.ref I) (.ref D) R.X.env) (fun r s'=>match r with | .ok _=>W s' | .error e=>cameBackBy R.M R.A R.X.env E e s') τ1.s :=
   comp_step hg (y.head hdr2) a b (ih hdr2) O (VRs.mono t1.le _ _ v) S1 j (kCs_src src) nd new (kCs_ok fun c hc=>(hcs c hc).2.2 rfl) h fun acc' fr' ow' τ' q t a k=>hW _ _ _ τ' q (t1.trans t) a k
  exact comp_start hg go (src.self R.A 0 τ1.s _ _ j go)
theorem Ac.name {x:Str} {k:NameKind} {i N:Nat} {np:Pos} (hm:(x,k,i) ∈ cx.tb) (hk:(k == .free) = false) (hN:(decide (N <= i)) = true):SAc N cx (.Name x np) (aName i) :=
 fun R fr ow τ v p O S hv=>.mk fun zq zq zq h j=>PyProof.Rows.assign_Name (S.storeV O hm hk hv fun τ2 e t2 S=>j _ _ τ2 (e ▸ h) t2 S ⟨List.take_set_of_le (of_decide_eq_true hN),List.take_set_of_le (of_decide_eq_true hN)⟩)
theorem Acs.nil {N:Nat}:SAcs N cx [] aNil:=fun R fr ow τ vs ps O S hv=>.mk fun zq zq zq h k=>by
 rw [show assignInOrder ((assignEach [] R.X.env).map (fun q=>q.2)) vs = pure () by cases vs <;> rfl]
 exact wpAny_pure (k _ _ τ h .refl S .refl)
theorem Acs.cons {t:Expr} {ts:List Expr} {a:DA} {r:DAs} {N:Nat} (he:∀ env,assignEach (t :: ts) env = (false,assign t env) :: assignEach ts env) (x:SAc N cx t a) (y:SAcs N cx ts r):SAcs N cx (t :: ts) (aCons a r) :=
 fun R fr ow τ vs ps O S hv=>.mk fun zq zq zq h k=>by
  cases ps with
  | nil=>exact h.elim
  | cons p ps =>
   obtain ⟨v,vr,h1,h2⟩:=hv
   rw [he,List.map_cons]
   show wpAny _ _ (holding vr (assign t R.X.env v) >>= fun zq=>assignInOrder ((assignEach ts R.X.env).map (fun q=>q.2)) vr) _ _ _
   exact wpAny_bind (wpAny_holding ((x R fr ow τ v p O S h1).use h fun fr1 ow1 τ1 h t1 S1 k1=>(y R fr1 ow1 τ1 vr ps O S1 (VRs.mono t1.le _ _ h2)).use h fun fr2 ow2 τ2 h t2 S2 k2=>k fr2 ow2 τ2 h (t1.trans t2) S2 (k1.trans k2)))
theorem Ac.tup {ts:List Expr} {k k' N:Nat} {pos:Pos} {r:DAs} (hn:∀ env,(assignEach ts env).length = k' /\ (assignEach ts env).findIdx? (fun q=>q.1) = none) (x:SAcs N cx ts r):SAc N cx (.Tuple ts k pos) (aTup k' r) :=
 fun R fr ow τ v p O S hv=>.mk fun Q Q' E' h k=>by
  cases p with
  | tup l =>
   refine bq.el h fun hl h=>?_
   obtain ⟨a,vs,m,f,g⟩:=hv
   refine PyProof.Rows.assign_Tuple_tuple O.room.hd (items:=vs.toArray) ⟨_,S.core.frz _ _ f,rfl,m,rfl⟩ (by rw [(hn _).1,<- beq_iff_eq.mp hl,<- g.length]; rfl) (hn _).2 fun h' he=>?_
   exact (x R fr ow ⟨τ.G,τ.Φ,{ τ.s with heap:=h' }⟩ vs l O (S.keepAll fun b ob e=>he b ob (Nat.ne_of_lt (Heap.lt_size e)) e) g).use h fun fr2 ow2 τ2 h t2 S2 k2=>k fr2 ow2 τ2 h (To.trans .heap t2) S2 k2
  | _=>exact h.elim
theorem T.nil:STs cx [] dTrue:=fun R fr ow τ O S=>.mk fun zq zq zq h k=>show wpAny _ _ (pure true) _ _ _ from wpAny_pure (k _ τ _ h .refl S rfl)
theorem T.one {e:Expr} {d:DB} (x:SB cx e d):STs cx [e] d:=fun R fr ow τ O S=>.mk fun zq zq zq h k=>by
 unfold testsOf
 rw [List.forIn_cons,if_pos rfl]
 refine wpAny_bind (wpAny_bind ((x R fr ow τ O S).use h fun p τ1 v h t1 S1 v1=>wpAny_pure ?_))
 show wpAny _ _ (forIn [] v _) _ _ _
 rw [List.forIn_nil]
 exact wpAny_pure (k p τ1 v h t1 S1 v1)
end
section
noncomputable abbrev Cx.to (cx:Cx) (tb:Tb) (gl:List Str):Cx:=⟨tb,gl,cx.kp⟩
noncomputable def outerB (tb:Tb) (x:Str) (p:Nat -> Bool):Bool:=tb.any fun f=>f.1 == x && p f.2.2 && f.2.1 != .local
noncomputable def cTbB (cx:Cx) (N:Nat) (cv:List Str) (scope:Scope) (e:Str × NameKind × Nat):Bool :=
 match e.2.1 with
 | .local=>decide (N <= e.2.2) && cv[e.2.2 - N]? == some e.1
 | .free=>scope.names.lookup e.1 == some .free && outerB cx.tb e.1 fun i=>i == e.2.2
 | _=>false
noncomputable def compOk (cx:Cx) (N:Nat) (cv:List Str) (scope:Scope) (tb:Tb) (gl:List Str):Bool :=
 (scope.kind == .function && decide cv.Nodup) && (!cv.isEmpty && scope.names.all fun x=>match x.2 with | .cell=>false | .local=>scope.names.lookup x.1 == some .local | .free=>outerB cx.tb x.1 fun zq=>true | _=>true) &&
 (cv.all (fun x=>scope.names.lookup x == some .local) && (tb.all (cTbB cx N cv scope) && gl.all fun x=>scope.names.lookup x == some .globalImplicit))
inductive CTb (cx:Cx) (N:Nat) (cv:List Str) (scope:Scope) (x:Str):NameKind -> Nat -> Prop
 | loc (i:Nat) (h:cv[i]? = some x):CTb cx N cv scope x .local (N + i)
 | free (i:Nat) (h:scope.names.lookup x = some .free) (k:NameKind) (m:(x,k,i) ∈ cx.tb) (hk:k ≠ .local):CTb cx N cv scope x .free i
structure CompOk (cx:Cx) (N:Nat) (cv:List Str) (scope:Scope) (tb:Tb) (gl:List Str):Prop where
 kind:scope.kind = .function
 nd:cv.Nodup
 ne:cv.isEmpty = false
 cell:∀ x ∈ scope.names,x.2 ≠ .cell
 loc:∀ x ∈ scope.names,x.2 = .local -> scope.names.lookup x.1 = some .local
 free:∀ x ∈ scope.names,x.2 = .free -> ∃ k i,(x.1,k,i) ∈ cx.tb /\ k ≠ .local
 cvl:∀ x ∈ cv,scope.names.lookup x = some .local
 tb:∀ x k i,(x,k,i) ∈ tb -> CTb cx N cv scope x k i
 gl:∀ x ∈ gl,scope.names.lookup x = some .globalImplicit
theorem an {a b:Bool} (h:(a && b) = true):a = true /\ b = true:=Bool.and_eq_true_iff.mp h
theorem outer_el {tb:Tb} {x:Str} {p:Nat -> Bool} (h:outerB tb x p = true):∃ k i,(x,k,i) ∈ tb /\ k ≠ .local /\ p i = true:=by
 obtain ⟨⟨y,k,i⟩,m,e⟩:=List.any_eq_true.mp h
 have ⟨e1,e3⟩:=an e
 have ⟨e1,e2⟩:=an e1
 have e1:=beq_iff_eq.mp e1
 subst e1
 exact ⟨k,i,m,(fun q=>by subst q; cases e3),e2⟩
theorem CompOk.of {cx:Cx} {N:Nat} {cv:List Str} {scope:Scope} {tb:Tb} {gl:List Str} (h:compOk cx N cv scope tb gl = true):CompOk cx N cv scope tb gl:=by
 have ⟨h1,h2⟩:=an h
 have ⟨h1,h3⟩:=an h1
 have ⟨h2,h4⟩:=an h2
 have ⟨h4,h5⟩:=an h4
 have ⟨h3,h6⟩:=an h3
 have ⟨h1,h7⟩:=an h1
 refine ⟨beq_iff_eq.mp h1,of_decide_eq_true h7,nt h3,fun x hx e=>?_,fun x hx e=>?_,fun x hx e=>?_,fun x hx=>beq_iff_eq.mp (List.all_eq_true.mp h2 x hx),fun x k i hm=>?_,fun x hx=>beq_iff_eq.mp (List.all_eq_true.mp h5 x hx)⟩
 ·have q:=List.all_eq_true.mp h6 x hx; obtain ⟨x,k⟩:=x; cases e; cases q
 ·have q:=List.all_eq_true.mp h6 x hx; obtain ⟨x,k⟩:=x; cases e; exact beq_iff_eq.mp q
 ·have q:=List.all_eq_true.mp h6 x hx; obtain ⟨x,k⟩:=x; cases e; obtain ⟨k,i,m,n,_⟩:=outer_el q; exact ⟨k,i,m,n⟩
 ·have q:=List.all_eq_true.mp h4 _ hm
  cases k with
  | «local» =>
   have ⟨a,b⟩:=an q
   have c:=CTb.loc (cx:=cx) (N:=N) (scope:=scope) (i - N) (beq_iff_eq.mp b)
   rw [Nat.add_sub_cancel' (of_decide_eq_true a)] at c; exact c
  | free =>
   have ⟨a,b⟩:=an q
   obtain ⟨k,j,m,n,e⟩:=outer_el b
   have e:=beq_iff_eq.mp e
   subst e
   exact .free _ (beq_iff_eq.mp a) k m n
  | _=>cases q
theorem Res2.cellOf {env:Env} {x:Str} {q:Option NameKind} {k:NameKind} {p:Place} (r:Res2 env x q k p) (h:k ≠ .local):∃ c,env.cells.lookup x = some c /\ p = .cell c:=by
 cases r with
 | loc=>exact absurd rfl h
 | cell c e=>exact ⟨c,e,rfl⟩
 | free c e=>exact ⟨c,e,rfl⟩
 | fcell c e=>exact ⟨c,e,rfl⟩
noncomputable def clo (env:Env):List (Str × NameKind) -> List (Str × Addr) -> List (Str × Addr)
 | [],acc=>acc
 | (y,k) :: r,acc=>clo env r (match k with | .free=>(y,(env.cells.lookup y).getD 0) :: acc | _=>acc)
theorem cell_getD {env:Env} {x:Str} (h:∃ c,env.cells.lookup x = some c):env.cells.lookup x = some ((env.cells.lookup x).getD 0):=by obtain ⟨c,e⟩:=h; rw [e]; rfl
theorem clo_at {env:Env} {x:Str} {names:List (Str × NameKind)} {acc:List (Str × Addr)} (hf:∀ x ∈ names,x.2 = .free -> ∃ c,env.cells.lookup x.1 = some c) (h:(x,NameKind.free) ∈ names \/ acc.lookup x = env.cells.lookup x):(clo env names acc).lookup x = env.cells.lookup x:=by
 induction names generalizing acc with
 | nil=>exact h.elim (fun h=>nomatch h) fun h=>h
 | cons e r ih =>
  obtain ⟨y,k⟩:=e
  refine ih (fun x hx=>hf x (.tail _ hx)) (h.elim (fun m=>?_) fun a=>.inr ?_)
  ·clear h
   cases m with
   | head=>exact .inr ((List.lookup_cons_self ..).trans (cell_getD (hf _ (.head _) rfl)).symm)
   | tail _ m=>exact .inl m
  ·cases k with
   | free =>
    show List.lookup x ((y,_) :: acc) = _
    rw [List.lookup_cons]
    refine Decidable.byCases (fun q:x = y=>?_) fun q=>?_
    ·subst q; rw [beq_self_eq_true]; exact (cell_getD (hf _ (.head _) rfl)).symm
    ·rw [beq_eq_false_iff_ne.mpr q]; exact a
   | _=>exact a
theorem clo_in {env:Env} {names:List (Str × NameKind)} {acc:List (Str × Addr)} (hf:∀ x ∈ names,x.2 = .free -> ∃ c,env.cells.lookup x.1 = some c) :
  (forIn names acc fun x cs=>(match x with | (name,kind)=>if (kind == NameKind.free) = true then (do let c <- cellOf env name; pure (ForInStep.yield ((name,c) :: cs))) else pure (ForInStep.yield cs):Sem (ForInStep (List (Str × Addr))))) = pure (clo env names acc):=by
 induction names generalizing acc with
 | nil=>rw [List.forIn_nil]; rfl
 | cons e r ih =>
  obtain ⟨y,k⟩:=e
  rw [List.forIn_cons]
  cases k with
  | free =>
   have:cellOf env y = pure ((env.cells.lookup y).getD 0):=by unfold cellOf; rw [cell_getD (hf _ (.head _) rfl)]; rfl
   show (((cellOf env y) >>= fun c=>pure (ForInStep.yield ((y,c) :: acc))) >>= _:Sem _) = _
   rw [this]
   exact ih fun x hx=>hf x (.tail _ hx)
  | _=>exact ih fun x hx=>hf x (.tail _ hx)
theorem clo_eq {env:Env} {scope:Scope} (hf:∀ x ∈ scope.names,x.2 = .free -> ∃ c,env.cells.lookup x.1 = some c):closureFor scope env = pure (clo env scope.names []):=by
 show (forIn scope.names [] _ >>= _:Sem _) = _
 rw [show (forIn scope.names [] _:Sem (List (Str × Addr))) = _ from clo_in hf]; rfl
noncomputable def relK (env:Env) (x:Str) (k:NameKind):NameKind:=if (k == .free && env.scope.kind == .function && env.kindOf x == some .cell) = true then .cell else k
theorem relabel_at {env:Env} {x:Str} {k:NameKind} {names:List (Str × NameKind)} (h:names.lookup x = some k) :
  (names.map fun (n,k)=>if (k == NameKind.free && env.scope.kind == .function && env.kindOf n == some .cell) then (n,NameKind.cell) else (n,k)).lookup x = some (relK env x k):=by
 induction names with
 | nil=>cases h
 | cons e r ih =>
  obtain ⟨y,l⟩:=e
  rw [List.map_cons,show (match (y,l) with | (n,k)=>if (k == NameKind.free && env.scope.kind == .function && env.kindOf n == some .cell) = true then (n,NameKind.cell) else (n,k)) = (y,relK env y l) by unfold relK; dsimp only; split <;> rfl]
  rw [List.lookup_cons] at h ⊢
  refine Decidable.byCases (fun q:x = y=>?_) fun q=>?_
  ·subst q; rw [beq_self_eq_true] at h ⊢; cases h; rfl
  ·rw [beq_eq_false_iff_ne.mpr q] at h ⊢; exact ih h
theorem relK_free {env:Env} {x:Str}:relK env x .free = .cell \/ relK env x .free = .free:=by unfold relK; split; exact .inl rfl; exact .inr rfl
section
variable {P:PW} {Φ:Fz} {h:Heap}
theorem Slots.append {qs:List Place} {fr2:Fr} {ow2:List (List Addr)} (y:Slots P Φ h qs fr2 ow2) {ps:List Place} {fr:Fr} {ow:List (List Addr)} (x:Slots P Φ h ps fr ow):Slots P Φ h (ps ++ qs) (fr ++ fr2) (ow ++ ow2):=by
 induction ps generalizing fr ow with
 | nil=>cases x; exact y
 | cons p ps ih=>obtain ⟨lv,fr,o,ow,v,x⟩:=x; exact ⟨lv,_,o,_,v,ih x⟩
theorem Slots.take {qs:List Place} {ps:List Place} {fr:Fr} {ow:List (List Addr)} (x:Slots P Φ h (ps ++ qs) fr ow):Slots P Φ h ps (fr.take ps.length) (ow.take ps.length):=by
 induction ps generalizing fr ow with
 | nil=>exact ⟨⟩
 | cons p ps ih=>obtain ⟨lv,fr,o,ow,v,x⟩:=x; exact ⟨lv,_,o,_,v,ih x⟩
theorem unset_slots {L:Addr} (hn:h.Ns L fun zq=>none) {cv:List Str}:Slots P Φ h (cv.map (Place.loc L)) (List.replicate cv.length LV.unset) (List.replicate cv.length []):=by
 induction cv with
 | nil=>exact ⟨⟩
 | cons x cv ih=>exact ⟨.unset,_,[],_,⟨none,⟨_,hn,rfl⟩,⟨⟩⟩,ih⟩
theorem Slots.len2 {ps:List Place} {fr:Fr} {ow:List (List Addr)} (x:Slots P Φ h ps fr ow):ow.length = ps.length:=by
 induction ps generalizing fr ow with
 | nil=>cases x; rfl
 | cons p ps ih=>obtain ⟨lv,fr,o,ow,v,x⟩:=x; exact congrArg (fun q=>q + 1) (ih x)
theorem Slots.ns {L:Addr} {cv:List Str} {ps:List Place} {fr:Fr} {ow:List (List Addr)} (x:Slots P Φ h (ps ++ cv.map (Place.loc L)) fr ow) (ne:cv.isEmpty = false):∃ m,h.Ns L m:=by
 induction ps generalizing fr ow with
 | nil =>
  cases cv with
  | nil=>cases ne
  | cons y cv=>obtain ⟨lv,fr,o,ow,⟨v,⟨m,hm,_⟩,_⟩,_⟩:=x; exact ⟨m,hm⟩
 | cons p ps ih=>obtain ⟨lv,fr,o,ow,v,x⟩:=x; exact ih x
end
theorem flat_nil {m:Nat}:(List.replicate m ([]:List Addr)).flatten = []:=by induction m with | zero=>rfl | succ m ih=>exact ih
theorem flat_take {n:Nat} {ow:List (List Addr)}:(ow.take n).flatten.Sublist ow.flatten:=by
 have h:=congrArg List.flatten (List.take_append_drop n ow); rw [List.flatten_append] at h; rw [<- h]; exact List.sublist_append_left _ _
noncomputable def Rn.cmp (R:Rn) (C:Addr) (env:Env) (cv:List Str):Rn:={ R with X:={ R.X with env:=env,pl:=R.X.pl ++ cv.map (Place.loc C),fa:=C :: R.X.fa } }
section
variable {R:Rn} {cx:Cx} {fr fr2:Fr} {ow ow2:List (List Addr)} {τ:Tau} {C D a:Addr} {env:Env} {cv:List Str} {Φ:Fz} {o:Obj}
theorem own_cmp {m:Nat}:(R.cmp C env cv).X.own (ow ++ List.replicate m []) = C :: R.X.own ow:=by
 show (C :: R.X.fa ++ R.X.still.map (fun q=>q.1)) ++ (ow ++ List.replicate m ([]:List Addr)).flatten = _
 rw [List.flatten_append,flat_nil,List.append_nil]; rfl
theorem New.cmp {m:Nat} (N:New R.X Φ ow a) (ne:a ≠ C):New (R.cmp C env cv).X Φ (ow ++ List.replicate m []) a :=
 ⟨⟨N.f,N.h0,N.r⟩,by rw [own_cmp]; exact fun q=>(List.mem_cons.mp q).elim ne N.apart,N.sm⟩
theorem New.still (N:New R.X Φ ow a) (ne:a ≠ D):New (R.st [(D,o)]).X Φ ow a :=
 ⟨⟨N.f,N.h0,N.r⟩,fun q=>(List.mem_cons.mp ((own_perm R.X ow [(D,o)]).mem_iff.mp q)).elim ne N.apart,N.sm⟩
theorem St.enter (S:St R fr ow τ) (N:New R.X τ.Φ ow C) (hn:τ.h.Ns C fun zq=>none):St (R.cmp C env cv) (fr ++ List.replicate cv.length .unset) (ow ++ List.replicate cv.length []) τ where
 core:=S.core
 slots:=Slots.append (unset_slots hn) S.slots
 nd:=by rw [own_cmp]; exact List.nodup_cons.mpr ⟨N.apart,S.nd⟩
 off:=fun a ha=>by
  rw [own_cmp] at ha
  exact (List.mem_cons.mp ha).elim (fun e=>by subst e; exact ⟨N.f,N.h0,N.r⟩) fun ha=>⟨(S.off a ha).f,(S.off a ha).h0,(S.off a ha).r⟩
 live:=fun a ha=>(List.mem_cons.mp ha).elim (fun e=>by subst e; exact Ns.live hn) (S.live a)
 still:=S.still
theorem St.leave (S:St ((R.cmp C env cv).st [(D,o)]) fr2 ow2 τ) (h1:fr2.take R.X.pl.length = fr) (h2:ow2.take R.X.pl.length = ow):∃ oC,St (R.st [(D,o),(C,oC)]) fr ow τ:=by
 obtain ⟨oC,hC⟩:=S.live C (.head _)
 have p1:=own_perm R.X ow [(D,o),(C,oC)]
 have p2:=own_perm (R.cmp C env cv).X ow2 [(D,o)]
 have sb:([D,C] ++ R.X.own ow).Sublist (D :: C :: R.X.own ow2):=(((List.Sublist.refl (R.X.fa ++ R.X.still.map (fun q=>q.1))).append (show ow.flatten.Sublist ow2.flatten from h2 ▸ flat_take)).cons_cons _).cons_cons _
 refine ⟨oC,S.core,?_,p1.nodup_iff.mpr ((p2.nodup_iff.mp S.nd).sublist sb),fun a ha=>?_,fun a ha=>S.live a (.tail _ ha),fun p hp=>?_⟩
 ·have y:=Slots.take (ps:=R.X.pl) S.slots; rw [h1,h2] at y; exact y
 ·have y:=S.off a (p2.mem_iff.mpr (sb.subset (p1.mem_iff.mp ha))); exact ⟨y.f,y.h0,y.r⟩
 ·refine (List.mem_cons.mp hp).elim (fun e=>S.still _ (e ▸ .head _)) fun hp=>(List.mem_cons.mp hp).elim (fun e=>e ▸ hC) fun hp=>S.still p (.tail _ hp)
theorem CompOk.ok {N:Nat} {scope:Scope} {tb:Tb} {gl:List Str} (c:CompOk cx N cv scope tb gl) (O:R.Ok cx) (hN:R.X.pl.length = N) (hC:C ∉ R.X.fa) (hf:∀ x ∈ scope.names,x.2 = .free -> ∃ c,R.X.env.cells.lookup x.1 = some c) :
  (R.cmp C (compEnvC scope (clo R.X.env scope.names []) C R.X.env) cv).Ok (cx.to tb gl) where
 room:=O.room
 con:=O.con
 con':=O.con'
 kk:=O.kk
 kb:=O.kb
 kind:=c.kind
 glob:=O.glob
 blt:=O.blt
 tb:=fun x k i hm=>by
  have q:=c.tb x k i hm
  cases q with
  | loc i h =>
   refine ⟨.loc C x,?_,?_⟩
   ·show (R.X.pl ++ cv.map (Place.loc C))[N + i]? = _
    rw [List.getElem?_append_right (hN ▸ Nat.le_add_right _ _),hN,Nat.add_sub_cancel_left,List.getElem?_map,h]; rfl
   ·show Res2 _ x ((relabel scope R.X.env).names.lookup x) _ _
    rw [show (relabel scope R.X.env).names.lookup x = _ from relabel_at (c.cvl x (List.mem_of_getElem? h))]; exact .loc
  | free i h k m hk =>
   obtain ⟨p,hp,r⟩:=O.tb x k i m
   obtain ⟨a,e,q⟩:=Res2.cellOf r hk
   subst q
   have e2:(clo R.X.env scope.names []).lookup x = some a:=(clo_at hf (.inl (mem_of_lookup h))).trans e
   refine ⟨.cell a,(List.getElem?_append_left (List.getElem?_eq_some_iff.mp hp).1).trans hp,?_⟩
   show Res2 _ x ((relabel scope R.X.env).names.lookup x) _ _
   rw [show (relabel scope R.X.env).names.lookup x = _ from relabel_at h]
   refine (relK_free (env:=R.X.env) (x:=x)).elim (fun q=>?_) fun q=>?_
   ·rw [q]; exact .fcell a e2
   ·rw [q]; exact .free a e2
 gl:=fun x hx=>(relabel_at (c.gl x hx)).trans rfl
 plf:=fun p hp=>(List.mem_append.mp hp).elim (fun hp=>.tail _ (O.plf p hp)) fun hp=>by obtain ⟨x,_,rfl⟩:=List.mem_map.mp hp; exact .head _
 pln:=List.nodup_append.mpr ⟨O.pln,List.pairwise_map.mpr (c.nd.imp fun hne e=>by cases e; exact hne rfl),fun a ha b hb e=>by obtain ⟨x,_,rfl⟩:=List.mem_map.mp hb; subst e; exact hC (O.plf _ ha)⟩
theorem res_take {hv:HV} {p:PV} (h:∀ G,hv.res fr G = some p) (e:fr2.take fr.length = fr) {G:Gs}:hv.res fr2 G = some p:=by
 cases hv with
 | v q=>exact h []
 | rg k=>cases (show rgPV ([]:Gs)[k]? = some p from h [])
 | sl i =>
  have h:=h []
  have e2:fr[i]? = if i < fr.length then fr2[i]? else none:=by rw [<- List.getElem?_take,e]
  show slPV fr2[i]? = _
  have h:slPV fr[i]? = some p:=h
  rw [e2] at h
  split at h
  ·exact h
  ·cases h
noncomputable def dGo (N m:Nat) (de:DE) (di:DI) (da:DA) (dt:DB) (ds:List Dg):DL:=fun o fr G Q =>
 bq (fr.length == N) (di o fr G fun l G=>foldC (dStep o da dt (dNext o de ds)) l [] (fr ++ List.replicate m .unset) G fun l zq G=>Q l G)
theorem comp_core {elt t iter:Expr} {ifs:List Expr} {gs:List Comprehension} {scope:Scope} {pos pos':Pos} {N:Nat} {tb:Tb} {gl:List Str} {de:DE} {di:DI} {da:DA} {dt:DB} {ds:List Dg} (ok:compOk cx N cv scope tb gl = true)
  (hfs:∀ env x,foldedSetIterable iter env x = pure x) (hdi:SIh cx iter t di) (hda:SAc N (cx.to tb gl) t da) (hdt:STs (cx.to tb gl) ifs dt) (hgs:SGs N (cx.to tb gl) gs ds) (hde:SE (cx.to tb gl) elt de) (O:R.Ok cx) (S:St R fr ow τ)
  {Q:List PV -> Gs -> Prop} (h:dGo N cv.length de di da dt ds R.o fr τ.G Q) (use:Option (Value -> Sem Unit)) (Q':Value -> Shared -> Prop) (E':Value -> Shared -> Prop)
  (hQ:∀ p τ' C oC D vs k,Q p τ'.G -> To τ τ' -> St (R.st [(D,lstO vs k),(C,oC)]) fr ow τ' -> (∃ m,τ'.h.Ns C m) -> R.VRs τ' p vs -> compPost R.M R.A E' use Q' (.ref D) C (.ok .next) τ'.s) :
  wpAny R.M R.A (comprehension (.ListComp elt (⟨t,iter,ifs,0⟩ :: gs) scope pos) scope R.X.env pos' (newList []) false (eval iter R.X.env) use) Q' E' τ.s:=by
 have c:=CompOk.of ok
 refine bq.el h fun hN h=>?_
 have hN:=beq_iff_eq.mp hN
 have hp:R.X.pl.length = N:=S.slots.len.symm.trans hN
 have hf:∀ x ∈ scope.names,x.2 = .free -> ∃ c,R.X.env.cells.lookup x.1 = some c:=fun x hx e=>by
  obtain ⟨k,i,m,hk⟩:=c.free x hx e
  obtain ⟨p,_,r⟩:=O.tb _ _ _ m
  obtain ⟨a,e,_⟩:=Res2.cellOf r hk
  exact ⟨a,e⟩
 refine wpAny_comprehension_free (g:=⟨t,iter,ifs,0⟩) (gs:=gs) rfl (fun x=>hfs _ x) (clo_eq hf) c.kind c.loc (hdi.use O S h fun v s q=>?_)
 obtain ⟨I,τ1,l,wr,cs,J,h,t1,S1,j,src,nd,new,hcs⟩:=q
 refine wpAny_newList ?_ (by decide)
 refine wpAny_newFunctionEnv (s:={ τ1.s with heap:=τ1.h.push (lstO [] 0) }) c.cell (fun x hx=>nomatch hx) (fun h3 hns hs=>?_) c.kind
 have kk:∀ b o,(τ1.h.push (lstO [] 0)).get? b = some o -> h3.get? b = some o:=fun b o e=>(hs.2 b (Nat.ne_of_lt (Heap.lt_size e))).trans (Heap.get?_push_of_some _ e)
 have k1:∀ b o,τ1.h.get? b = some o -> h3.get? b = some o:=fun b o e=>kk b o (Heap.get?_push_of_some _ e)
 have S2:=S1.push O (lstO [] 0) τ1.s.toks
 have hD:(τ1.h.push (lstO [] 0)).get? τ1.h.objs.size = some (lstO [] 0):=Heap.get?_push_size _ rfl
 have NC:=S2.isNew O get_size
 have ND:=S1.isNew O get_size
 have CD:τ1.h.objs.size ≠ (τ1.h.push (lstO [] 0)).objs.size:=Nat.ne_of_lt (Heap.lt_size hD)
 have S3:St R fr ow ⟨τ1.G,τ1.Φ,{ τ1.s with heap:=h3 }⟩:=S1.keepAll k1
 generalize hC:(τ1.h.push (lstO [] 0)).objs.size = C at *
 generalize hDD:τ1.h.objs.size = D at *
 have wl:∀ a ∈ wr,a ≠ C /\ a ≠ D:=fun a ha=>by
  obtain ⟨o,e⟩:=src.live _ _ j a ha
  exact ⟨hC ▸ Nat.ne_of_lt (Heap.lt_size (Heap.get?_push_of_some _ e)),hDD ▸ Nat.ne_of_lt (Heap.lt_size e)⟩
 have S4:=S3.enter (env:=compEnvC scope (clo R.X.env scope.names []) C R.X.env) (cv:=cv) NC hns
 have S5:=S4.addStill (st:=[(D,lstO [] 0)]) (List.nodup_cons.mpr ⟨(fun h=>nomatch h),List.Pairwise.nil⟩) (fun a ha=>one ha ▸ ND.cmp CD) (fun p hp=>by cases List.mem_singleton.mp hp; exact kk _ _ hD)
 have j3:J 0 h3:=src.frame 0 τ1.h h3 j fun b zq o e=>k1 b o e
 have ow1:(ow ++ List.replicate cv.length ([]:List Addr)).take N = ow:=List.take_left' (S.slots.len2.trans hp)
 have fr1:(fr ++ List.replicate cv.length LV.unset).take N = fr:=List.take_left' hN
 have go:codeAny R.M R.A (.compLoop (.ListComp elt (⟨t,iter,ifs,0⟩ :: gs) scope pos) 0 (.ref I) (.ref D) (compEnvC scope (clo R.X.env scope.names []) C R.X.env)) (compPost R.M R.A E' use Q' (.ref D) C) { τ1.s with heap:=h3 } :=
  comp_step (dn:=fun o=>dNext o de ds) rfl (hgs.head (gens:=⟨t,iter,ifs,0⟩ :: gs) (d:=1) rfl) hda hdt (next_ok (gens:=⟨t,iter,ifs,0⟩ :: gs) (d:=0) hde rfl hgs) (c.ok O hp (fun q=>NC.apart (List.mem_append_left _ (List.mem_append_left _ q))) hf) (acc:=[]) ⟨⟩ S5 j3 src nd (fun a ha=>((new a ha).cmp (wl a ha).1).still (wl a ha).2)
   (fun d hd=>⟨by rw [ow1]; exact (hcs d hd).1,fun fr2 G2 e=>res_take (hcs d hd).2.1 (by rw [hN]; exact e.trans fr1)⟩) h fun p fr6 ow6 τ6 q t6 a6 k6=>by
    obtain ⟨vs,k,v,S6⟩:=a6
    obtain ⟨oC,S7⟩:=S6.leave (fr:=fr) (ow:=ow) (by rw [hp]; exact k6.f.trans fr1) (by rw [hp]; exact k6.o.trans ow1)
    exact hQ p τ6 C oC D vs k q (t1.trans (To.trans (τ':=⟨τ1.G,τ1.Φ,{ τ1.s with heap:=h3 }⟩) .heap t6)) S7 (Slots.ns S6.slots c.ne) v
 exact comp_start rfl go (src.self R.A 0 _ _ _ j3 go)
end
end
section
noncomputable def LV.frz:LV -> LV
 | .ol l=>.val (.lst l)
 | .od l=>.val (.dct l)
 | v=>v
noncomputable def frzAt (i:Nat) (fr:Fr):Fr:=match fr[i]? with | some lv=>fr.set i lv.frz | none=>fr
noncomputable def frzAll (fr:Fr):Fr:=fr.map LV.frz
theorem frz_cons (x:LV) (l:Fr) (i:Nat):frzAt (i + 1) (x :: l) = x :: frzAt i l:=by
 show (match l[i]? with | some lv=>_ | none=>_) = _ :: (match l[i]? with | some lv=>_ | none=>_)
 cases l[i]? <;> rfl
theorem frz_step:∀ (i:Nat) (fr:Fr),frzAt i ((fr.take i).map LV.frz ++ fr.drop i) = (fr.take (i + 1)).map LV.frz ++ fr.drop (i + 1)
 | 0,[]=>rfl
 | 0,_ :: _=>rfl
 | _ + 1,[]=>rfl
 | i + 1,x :: l=>(frz_cons _ _ i).trans (congrArg _ (frz_step i l))
theorem set_self {α:Type} {l:List α} {i:Nat} {x:α} (e:l[i]? = some x):l.set i x = l:=by
 induction l generalizing i with
 | nil=>rfl
 | cons y l ih=>cases i with | zero=>cases e; rfl | succ i=>exact congrArg _ (ih e)
theorem fl_perm {ow:List (List Addr)} {i:Nat} {own:List Addr} (h:ow[i]? = some own):ow.flatten.Perm (own ++ (ow.set i []).flatten):=by
 induction ow generalizing i with
 | nil=>cases h
 | cons o ow ih =>
  cases i with
  | zero=>cases h; exact .refl _
  | succ i=>exact ((ih h).append_left o).trans (List.perm_append_comm_assoc _ _ _)
section
variable {P:PW} {Φ Φ':Fz} {h:Heap}
theorem Slots.lv (hΦ:Fz.le Φ Φ') {lv lv':LV} {own own':List Addr} (k:∀ v,LR P Φ h lv v own -> LR P Φ' h lv' v own') {ps:List Place} {fr:Fr} {ow:List (List Addr)} {i:Nat} (x:Slots P Φ h ps fr ow) (hl:fr[i]? = some lv) (ho:ow[i]? = some own):Slots P Φ' h ps (fr.set i lv') (ow.set i own'):=by
 induction ps generalizing fr ow i with
 | nil=>cases x; cases hl
 | cons p ps ih =>
  obtain ⟨lv0,fr,o,ow,x,y⟩:=x
  cases i with
  | zero=>cases hl; cases ho; obtain ⟨v,hv,l⟩:=x; exact ⟨lv',fr,own',ow,⟨v,hv,k v l⟩,y.keeps hΦ (fun zq zq zq e=>e) fun zq zq zq e=>e⟩
  | succ i=>exact ⟨lv0,_,o,_,x.keeps hΦ (fun zq e=>e) fun zq zq zq e=>e,ih y hl ho⟩
end
variable {R:Rn} {cx:Cx} {fr:Fr} {ow:List (List Addr)} {τ:Tau}
inductive Fzd (R:Rn) (τ:Tau) (fr:Fr):Prop | mk (Φ':Fz) (ow':List (List Addr)) (l:Fz.le τ.Φ Φ') (S:St R fr ow' ⟨τ.G,Φ',τ.s⟩):Fzd R τ fr
theorem St.frzOwn (S:St R fr ow τ) {i:Nat} {lv lv':LV} {a:Addr} {ob:Obj} (hl:fr[i]? = some lv) (ho:ow[i]? = some [a]) (hob:τ.h.get? a = some ob) (k:Fz.le τ.Φ (Fz.put τ.Φ a ob) -> ∀ v,LR R.P τ.Φ τ.h lv v [a] -> LR R.P (Fz.put τ.Φ a ob) τ.h lv' v []):Fzd R τ (fr.set i lv'):=by
 have p:(R.X.own ow).Perm (a :: R.X.own (ow.set i [])):=((fl_perm ho).append_left (R.X.fa ++ R.X.still.map (fun q=>q.1))).trans List.perm_middle
 have y:=S.off a (p.mem_iff.mpr (.head _))
 have l1:Fz.le τ.Φ (Fz.put τ.Φ a ob):=Fz.le_put y.f
 obtain ⟨n1,n2⟩:=List.nodup_cons.mp (p.nodup_iff.mp S.nd)
 refine ⟨_,ow.set i [],l1,S.core.freeze hob y.f y.h0 y.r,Slots.lv l1 (k l1) S.slots hl ho,n2,fun b hb=>?_,S.live,S.still⟩
 have z:=S.off b (p.mem_iff.mpr (.tail _ hb))
 exact ⟨(Fz.put_ne fun e=>n1 (by subst e; exact hb)).trans z.f,z.h0,z.r⟩
theorem St.frzAt (S:St R fr ow τ) (i:Nat):Fzd R τ (frzAt i fr):=by
 unfold Mine.Internal.frzAt
 cases hl:fr[i]? with
 | none=>exact ⟨_,ow,Fz.le_refl,S⟩
 | some lv =>
  obtain ⟨p,o,_,ho,v,_,hr⟩:=S.slots.get hl
  have self:lv.frz = lv -> Fzd R τ (fr.set i lv.frz):=fun e=>⟨_,ow,Fz.le_refl,by rw [e,set_self hl]; exact S⟩
  cases lv with
  | ol l =>
   obtain ⟨a,ob,m,e,_⟩:=hr
   refine S.frzOwn hl ho e fun l1 v x=>?_
   obtain ⟨rfl,ob',m,e',vs,n,y⟩:=x.at
   cases e.symm.trans e'
   exact ⟨_,a,vs,n,Fz.put_self,VRs.mono l1 _ _ y⟩
  | od l =>
   obtain ⟨a,ob,m,e,_⟩:=hr
   refine S.frzOwn hl ho e fun l1 v x=>?_
   obtain ⟨rfl,ob',m,e',kvs,d,y⟩:=x.at
   cases e.symm.trans e'
   exact ⟨_,a,ob,kvs,Fz.put_self,m,d,VRd.mono l1 _ _ y⟩
  | _=>exact self rfl
theorem St.frzTo (S:St R fr ow τ):∀ i,Fzd R τ ((fr.take i).map LV.frz ++ fr.drop i)
 | 0=>⟨_,ow,Fz.le_refl,S⟩
 | i + 1=>by
  obtain ⟨Φ1,ow1,l1,S1⟩:=S.frzTo i
  obtain ⟨Φ2,ow2,l2,S2⟩:=S1.frzAt i
  exact ⟨Φ2,ow2,Fz.le_trans l1 l2,frz_step i fr ▸ S2⟩
theorem St.frzAll (S:St R fr ow τ):Fzd R τ (frzAll fr):=by
 have:=S.frzTo fr.length
 rw [List.take_length,List.drop_length,List.append_nil] at this
 exact this
theorem SX.frz {st:Stmt} {d:DS} (f:Fr -> Fr) (hf:∀ R fr ow τ,St R fr ow τ -> Fzd R τ (f fr)) (x:SX cx st d):SX cx st fun o fr=>d o (f fr) :=
 fun R fr ow τ O S=>.mk fun zq zq zq h k=>by
  obtain ⟨Φ1,ow1,l1,S1⟩:=hf R fr ow τ S
  exact (x R (f fr) ow1 ⟨τ.G,Φ1,τ.s⟩ O S1).use h fun fl fr2 ow2 τ2 f h t2 S v=>k fl fr2 ow2 τ2 f h ⟨t2.sm,Fz.le_trans l1 t2.le⟩ S v
noncomputable def dRetF (d:DE):DS:=fun o fr=>dRet d o (frzAll fr)
theorem X.retF {e:Expr} {pos:Pos} {d:DE} (x:SE cx e d):SX cx (.Return (some e) pos) (dRetF d):=SX.frz frzAll (fun zq zq zq zq S=>S.frzAll) (X.ret x)
noncomputable def dFrz (i:Nat) (d:DS):DS:=fun o fr=>d o (frzAt i fr)
theorem X.frz {st:Stmt} {d:DS} (i:Nat) (x:SX cx st d):SX cx st (dFrz i d):=SX.frz (frzAt i) (fun zq zq zq zq S=>S.frzAt i) x
theorem St.newOf {st:List (Addr × Obj)} {a:Addr} (O:R.Ok cx) (S:St (R.st st) fr ow τ) (h:a ∈ st.map (fun q=>q.1)):New R.X τ.Φ ow a:=by
 have y:=S.off' (List.mem_append_left (R.X.own ow) h)
 refine ⟨y,S.nd'.2.2 a h,Bool.eq_false_iff.mpr fun q=>?_⟩
 have q:=beq_iff_eq.mp q; subst q
 obtain ⟨o,ho⟩:=O.kb.smod
 exact nomatch y.f.symm.trans (S.core.mono.f _ _ (O.kb.kfz _ _ ho))
section
variable {elt t iter:Expr} {ifs:List Expr} {gs:List Comprehension} {scope:Scope} {pos:Pos} {N:Nat} {cv:List Str} {tb:Tb} {gl:List Str} {de:DE} {di:DI} {da:DA} {dt:DB} {ds:List Dg}
noncomputable def dComp (N m:Nat) (de:DE) (di:DI) (da:DA) (dt:DB) (ds:List Dg):DO:=fun o fr G Q=>dGo N m de di da dt ds o fr G fun l G=>Q (.l l) G
theorem O.comp (ok:compOk cx N cv scope tb gl = true) (hfs:∀ env x,foldedSetIterable iter env x = pure x) (hdi:SIh cx iter t di) (hda:SAc N (cx.to tb gl) t da) (hdt:STs (cx.to tb gl) ifs dt) (hgs:SGs N (cx.to tb gl) gs ds) (hde:SE (cx.to tb gl) elt de) :
  SO cx (.ListComp elt (⟨t,iter,ifs,0⟩ :: gs) scope pos) (dComp N cv.length de di da dt ds) :=
 fun R fr ow τ O S=>.mk fun zq Q' E' h k=>by
  rw [eval_ListComp]
  refine comp_core ok hfs hdi hda hdt hgs hde O S h none Q' E' fun p τ' C oC D vs n q t S7 hm v=>?_
  obtain ⟨m,hm⟩:=hm
  have N1:=St.newOf (τ:=τ') O S7 (a:=D) (.head _)
  have CD:D ≠ C:=fun e=>(List.nodup_cons.mp S7.nd'.1).1 (e ▸ .head _)
  exact ⟨m,hm,fun h2 hs=>k (.l p) ⟨τ'.G,τ'.Φ,{ τ'.s with heap:=h2 }⟩ (.ref D) q (t.trans .heap) (S7.restill O fun b o hb e=>(hs.2 b fun e2=>hb (e2 ▸ .tail _ (.head _))).trans e) ⟨D,lstO vs n,(hs.2 D CD).trans (S7.still _ (.head _)),.l p vs n v,N1⟩⟩
noncomputable abbrev dLetComp (i N m:Nat) (de:DE) (di:DI) (da:DA) (dt:DB) (ds:List Dg):DS:=dLetO i (dComp N m de di da dt ds)
theorem X.letComp {x:Str} {kd:NameKind} {i:Nat} {np pos2:Pos} (hm:(x,kd,i) ∈ cx.tb) (hk:(kd == .free) = false) (ok:compOk cx N cv scope tb gl = true) (hfs:∀ env x,foldedSetIterable iter env x = pure x) (hdi:SIh cx iter t di) (hda:SAc N (cx.to tb gl) t da) (hdt:STs (cx.to tb gl) ifs dt)
  (hgs:SGs N (cx.to tb gl) gs ds) (hde:SE (cx.to tb gl) elt de):SX cx (.Assign [.Name x np] (.ListComp elt (⟨t,iter,ifs,0⟩ :: gs) scope pos) pos2) (dLetComp i N cv.length de di da dt ds) :=
 fun R fr ow τ O S=>.mk fun zq Q' E' h k=>by
  rw [PyProof.Rows.exec_Assign]
  refine wpAny_bind (wpAny_standAt ?_)
  obtain ⟨b,hb⟩:∃ b,swapsWithSole [.Name x np] (.ListComp elt (⟨t,iter,ifs,0⟩ :: gs) scope pos) pos2.line R.X.env = pure b:=⟨_,rfl⟩
  rw [hb]
  refine wpAny_bind (wpAny_pure ?_)
  cases b with
  | true =>
   rw [if_pos rfl,arm_evalThenUse_ListComp]
   refine wpAny_bind (wpAny_bind (comp_core ok hfs hdi hda hdt hgs hde O S h _ _ _ fun p τ' C oC D vs n q t S7 hmC v=>?_))
   obtain ⟨m,hmC⟩:=hmC
   have O1:=O.add [(C,oC)]
   have S8:St ((R.st [(C,oC)]).st [(D,lstO vs n)]) fr ow τ':=S7
   show wpAny _ _ (PySem.assign (.Name x np) R.X.env (.ref D)) _ _ _
   refine PyProof.Rows.assign_Name (St.storeO (R:=R.st [(C,oC)]) (c:=.l p) O1 (S8.restill O1 (s':=τ'.s) fun zq zq zq e=>e) hm hk ⟨D,_,S8.still _ (.head _),.l p vs n v,S8.newOf O1 (.head _)⟩ fun a τ2 e t2 S9=>?_)
   refine ⟨m,Ns.keeps hmC fun o e=>(Option.some.inj ((S8.still _ (.tail _ (.head _))).symm.trans e)) ▸ S9.still _ (.head _),fun h3 hs=>wpAny_pure (wpAny_pure (k _ _ _ ⟨τ2.G,τ2.Φ,{ τ2.s with heap:=h3 }⟩ _ (e ▸ q) (t.trans (t2.trans .heap)) (S9.restill O fun b o hb e=>(hs.2 b (not_one hb)).trans e) .nx))⟩
  | false =>
   rw [if_neg (by decide)]
   refine wpAny_bind ((Mine.Internal.O.comp ok hfs hdi hda hdt hgs hde R fr ow τ O S).use h fun p τ1 v q t S1 v1=>?_)
   show wpAny _ _ (do let r <- (pure none:Sem (Option (List Str))); assignStores R.X.env v r ((assignEach [.Name x np] R.X.env).map (fun q=>q.2))) _ _ _
   refine wpAny_bind (wpAny_pure ?_)
   show wpAny _ _ (PySem.assign (.Name x np) R.X.env v >>= fun zq=>pure Flow.next) _ _ _
   exact wpAny_bind (PyProof.Rows.assign_Name (S1.storeO O hm hk v1 fun a τ2 e t2 S9=>wpAny_pure (k _ _ _ τ2 _ (e ▸ q) (t.trans t2) S9 .nx)))
end
end
section
variable {cx:Cx}
noncomputable def GlobOk (P:PW) (K:Frag) (x:Str) (p:PV):Prop:=∃ v,gv K x = some v /\ ∀ Φ:Fz,(∀ a o,K.lookup a = some o -> Φ.fz a = some o) -> VR P Φ p v
theorem E.glob {x:Str} {pos:Pos} {p:PV} (g:∀ P K,cx.kp P K -> GlobOk P K x p) (hm:x ∈ cx.gl) (hx:okName x = true):SE cx (.Name x pos) (dConst p) :=
 fun R fr ow τ O S=>.mk fun Q zq zq h k=>by
  obtain ⟨v,hg,hv⟩:=g _ _ O.kk
  exact evalGlobal O S hm hx hg (k _ τ _ h .refl S (hv τ.Φ fun a o e=>S.core.mono.f _ _ (O.kb.kfz a o e)))
noncomputable def fNeg:F1:=fun a Q=>oq (pvI a) fun i=>Q (.int (-i))
noncomputable def dU (f:F1) (d:DE):DE:=fun o fr G Q=>d o fr G fun a G=>f a fun c=>Q c G
theorem E.neg {e:Expr} {pos:Pos} {d:DE} (x:SE cx e d):SE cx (.UnaryOp .USub e pos) (dU fNeg d) :=
 fun R fr ow τ O S=>.mk fun Q Q' E' h k=>PyProof.Rows.UnaryOp_ ((x R fr ow τ O S).use h fun p τ1 v h t1 S v1=>pvI.el (C:=fun v=>wpAny R.M R.A (unaryOp .USub v) Q' E' τ1.s) h v1 fun i t h=>PyProof.Rows.neg_int (k _ τ1.tk _ h (t1.trans .tok) S.tok ⟨_⟩))
noncomputable def fNot:F1:=fun a Q=>oq (pvT a) fun b=>Q (.bool !b)
theorem E.not {e:Expr} {pos:Pos} {d:DE} (x:SE cx e d):SE cx (.UnaryOp .Not e pos) (dU fNot d) :=
 fun R fr ow τ O S=>.mk fun Q zq zq h k=>PyProof.Rows.UnaryOp_ ((x R fr ow τ O S).use h fun p τ1 v h t1 S v1=>PyProof.Rows.not_of ((primT S v1).use (Q:=fun b G=>Q (.bool !b) G) h fun b τ2 u h t2 S e=>k _ τ2 _ h (t1.trans t2) S (congrArg (fun b=>Value.bool !b) e)))
noncomputable def dOrE (d r:DE):DE:=fun o fr G Q=>d o fr G fun a G=>oq (pvT a) fun b=>cond b (Q a G) (r o fr G Q)
theorem E.or2 {e1 e2:Expr} {pos:Pos} {d r:DE} (x:SE cx e1 d) (y:SE cx e2 r):SE cx (.BoolOp .Or [e1,e2] pos) (dOrE d r) :=
 fun R fr ow τ O S=>.mk fun Q zq zq h k=>PyProof.Rows.BoolOp_or ((x R fr ow τ O S).use h fun p τ1 v h t1 S v1=>(primT S v1).use (Q:=fun b G=>cond b (Q p G) (r R.o fr G Q)) h fun b τ2 u h t2 S e=>by
  subst e
  cases u with
  | true=>rw [if_pos rfl]; exact k _ τ2 _ h (t1.trans t2) S (VR.mono t2.le _ _ v1)
  | false=>rw [if_neg (by decide)]; exact PyProof.Rows.BoolOp_one ((y R fr ow τ2 O S).use h fun p τ3 v h t3 S v3=>k _ τ3 _ h (t1.trans (t2.trans t3)) S v3))
theorem B.val {e:Expr} {d:DE} (he:∀ env whole,isTrue e env whole = (do let v <- whole; standAt e.pos; holding [v] (truthy v))) (x:SE cx e d):SB cx e (dT d):=B.plain he x
noncomputable def fAddL (a b:PV) (Q:CV -> Prop):Prop:=match a with
 | .lst a=>match b with
  | .lst b=>bq (decide (a.length + b.length <= 1000000)) (Q (.l (a ++ b)))
  | _=>False
 | _=>False
noncomputable def dAddL (l r:DH):DO:=fun o fr G Q=>l o fr G fun a G=>r o fr G fun b G=>oq (a.res fr G) fun p=>oq (b.res fr G) fun q=>fAddL p q fun c=>Q c G
theorem O.add {l r:Expr} {pos:Pos} {dl dr:DH} (x:SH cx l dl) (y:SH cx r dr):SO cx (.BinOp l .Add r pos) (dAddL dl dr) :=
 fun R fr ow τ O S=>.mk fun Q zq zq h k=>wpAny_BinOp ((x R fr ow τ O S).use h fun a τ1 v h t1 S v1=>(y R fr ow τ1 O S).use h fun b τ2 u h t2 S v2=>oq.el h fun p hp h=>oq.el h fun q hq h=>by
  have g1:=S.held (v1.mono t2.le) hp
  have g2:=S.held v2 hq
  cases p with
  | lst l1 =>
   cases q with
   | lst l2 =>
    refine bq.el h fun e h=>?_
    obtain ⟨a1,vs,k1,f1,w1⟩:=g1
    obtain ⟨a2,us,k2,f2,w2⟩:=g2
    refine PySem.P.add_list (n:=k1) (n2:=k2) f1 f2 ?_ (size_le w1 w2 e)
    rw [List.append_toArray]
    exact k _ ⟨τ2.G,τ2.Φ,{ τ2.s with heap:=τ2.h.push (lstO (vs ++ us) 0) }⟩ _ h (t1.trans (t2.trans .heap)) (S.push O _ _) ⟨_,_,Heap.get?_push_size _ rfl,.l _ _ _ (w1.append w2),St.isNew (τ:=τ2) O S get_size⟩
   | _=>exact h.elim
  | _=>exact h.elim)
noncomputable def fnV (b:Bool) (T:String):Value:=match b with | true=>.type T | false=>.builtin T
section
variable {x:Str} {np pos:Pos} {T:String} {e e1 e2:Expr} {b:Bool}
theorem call1 {β:Type} {d:WP β} {V:Tau -> β -> Value -> Prop} {R:Rn} {fr:Fr} {ow:List (List Addr)} {τ:Tau} {Q:β -> Gs -> Prop} {Q' E':Value -> Shared -> Prop} (O:R.Ok cx) (S:St R fr ow τ) (hm:x ∈ cx.gl) (hx:okName x = true) (hg:∀ P K,cx.kp P K -> gv K x = some (fnV b T)) (he:∀ env,starEach [e] env = [(false,eval e env)])
  (y:Tr R fr ow τ (eval e R.X.env) d V) (h:d Q) (k:∀ a τ1 v,Q a τ1.G -> To τ τ1 -> St R fr ow τ1 -> V τ1 a v -> wpAny R.M R.A (call (fnV b T) [v]) Q' E' τ1.s):wpAny R.M R.A (eval (.Call (.Name x np) [e] [] pos) R.X.env) Q' E' τ.s:=by
 refine PyProof.Rows.Call_ (evalGlobal O S hm hx (hg _ _ O.kk) ?_)
 have z:wpAny R.M R.A (spliced (backTo pos (starEach [e] R.X.env))) (fun vs s=>wpAny R.M R.A (call (fnV b T) vs) Q' E' s) E' τ.s:=PyProof.Rows.args_cons (y.use h fun a τ1 v h t1 S1 v1=>PyProof.Rows.args_nil (k a τ1 v h t1 S1 v1)) (he _)
 cases b with
 | true=>exact PyProof.Rows.callWith_type1 z (he _)
 | false=>exact PyProof.Rows.callWith_builtin1 z (he _)
noncomputable def PrimH {β:Type} (t:Value -> Sem Value) (f:PV -> (β -> Prop) -> Prop) (V:Rn -> List (List Addr) -> Tau -> β -> Value -> Prop):Prop :=
 ∀ cx R fr ow τ hv v p,R.Ok cx -> St R fr ow τ -> Held R.P τ.Φ ow hv v -> hv.res fr τ.G = some p -> Tr R fr ow τ (t v) (fun Q=>f p fun c=>Q c τ.G) (V R ow)
noncomputable def dH1 {β:Type} (f:PV -> (β -> Prop) -> Prop) (d:DH):D β:=fun o fr G Q=>d o fr G fun a G=>oq (a.res fr G) fun p=>f p fun c=>Q c G
noncomputable abbrev vE (R:Rn) (_:List (List Addr)):=R.VR
noncomputable abbrev vO (R:Rn) (ow:List (List Addr)) (τ:Tau) (c:CV):=IsO R ow τ (CO R.P τ.Φ c)
theorem call_H {β:Type} {f:PV -> (β -> Prop) -> Prop} {V:Rn -> List (List Addr) -> Tau -> β -> Value -> Prop} {d:DH} (p:PrimH (fun v=>call (fnV b T) [v]) f V) (hm:x ∈ cx.gl) (hx:okName x = true) (hg:∀ P K,cx.kp P K -> gv K x = some (fnV b T)) (he:∀ env,starEach [e] env = [(false,eval e env)])
  (y:SH cx e d) (R:Rn) (fr:Fr) (ow:List (List Addr)) (τ:Tau) (O:R.Ok cx) (S:St R fr ow τ):Tr R fr ow τ (eval (.Call (.Name x np) [e] [] pos) R.X.env) (dH1 f d R.o fr τ.G) (V R ow) :=
 .mk fun Q zq zq h k=>call1 O S hm hx hg he (y R fr ow τ O S) h fun a τ1 v h t1 S1 v1=>oq.el h fun c e h=>(p cx R fr ow τ1 a v c O S1 v1 e).use (Q:=Q) h fun c τ2 u h t2 S2 v2=>k c τ2 u h (t1.trans t2) S2 v2
theorem call_b2 {f:F2} {d1 d2:DE} (p:Prim2 (fun v u=>call (.builtin T) [v,u]) f) (hm:x ∈ cx.gl) (hx:okName x = true) (hg:∀ P K,cx.kp P K -> gv K x = some (.builtin T)) (he:∀ env,starEach [e1,e2] env = (false,eval e1 env) :: starEach [e2] env /\ starEach [e2] env = [(false,eval e2 env)])
  (y:SE cx e1 d1) (z:SE cx e2 d2):SE cx (.Call (.Name x np) [e1,e2] [] pos) (dBin f d1 d2) :=
 fun R fr ow τ O S=>.mk fun Q zq zq h k=>PyProof.Rows.Call_ (evalGlobal O S hm hx (hg _ _ O.kk) (PyProof.Rows.callWith_builtin1 (PyProof.Rows.args_cons ((y R fr ow τ O S).use h fun a τ1 v h t1 S v1=>PyProof.Rows.args_cons ((z R fr ow τ1 O S).use h fun b τ2 u h t2 S v2 =>
  PyProof.Rows.args_nil ((p cx R fr ow τ2 _ _ _ _ O S (VR.mono t2.le _ _ v1) v2).use (Q:=Q) h fun zq τ3 zq h t3 S v3=>k _ τ3 _ h (t1.trans (t2.trans t3)) S v3)) (he _).2) (he _).1) (he _).1 (by rw [(he _).2]; rfl)))
end
theorem tupHeld {P:PW} {Φ:Fz} {ow:List (List Addr)} {hv:HV} {v:Value} {fr:Fr} {G:Gs} {l:List PV} (x:Held P Φ ow hv v) (e:hv.res fr G = some (.tup l)):VR P Φ (.tup l) v:=by
 cases hv with
 | v p=>cases e; exact x
 | sl i=>have e:slPV fr[i]? = _:=e; generalize fr[i]? = y at e; cases y with | none=>cases e | some y=>cases y <;> cases e
 | rg i=>have e:rgPV G[i]? = _:=e; generalize G[i]? = y at e; cases y with | none=>cases e | some y=>cases y <;> cases e
theorem fits6 {P:PW} {Φ:Fz} {l:List PV} {vs:List Value} (x:VRs P Φ l vs) (h:decide (l.length <= 1000000) = true):vs.toArray.size <= sizeLine:=by
 rw [List.size_toArray,x.length,sizeLine_eq]; exact Nat.le_trans (of_decide_eq_true h) (by decide)
noncomputable def fTup:F1:=fun p Q=>match p with
 | .lst l=>bq (decide (l.length <= 1000000)) (Q (.tup l))
 | .tup l=>Q (.tup l)
 | _=>False
theorem p_tuple:PrimH (fun v=>call (fnV true "tuple") [v]) fTup vE:=fun cx R fr ow τ hv v p O S x e=>.mk fun Q zq zq h k=>by
 have g:=S.held x e
 cases p with
 | lst l =>
  refine bq.el h fun e h=>?_
  obtain ⟨b,vs,n,f1,r1⟩:=g
  refine call_tuple_list (isListOf f1) (fun h2 hk=>?_) (fits6 r1 e)
  have S1:St R fr ow ⟨τ.G,τ.Φ,{ τ.s with heap:=h2 }⟩:=S.keepAll hk
  exact k _ ⟨τ.G,Fz.put τ.Φ h2.objs.size (tupO vs 0),{ τ.s with heap:=h2.push (tupO vs 0) }⟩ _ h ((To.heap (τ:=τ)).trans (To.pushF O S1 (tupO vs 0) τ.s.toks)) (S1.pushF O (tupO vs 0) rfl τ.s.toks) (VR.of_put 0 r1 (S1.isNew O get_size).f)
 | tup l =>
  have g:=tupHeld x e
  have g':=g
  obtain ⟨b,vs,n,f1,r1⟩:=g
  exact PyProof.Rows.call_tuple_tup (isTupleOf (S.core.frz _ _ f1)) (k _ τ _ h .refl S g')
 | _=>exact h.elim
noncomputable def fList (p:PV) (Q:CV -> Prop):Prop:=match p with
 | .lst l=>bq (decide (l.length <= 1000000)) (Q (.l l))
 | .tup l=>bq (decide (l.length <= 1000000)) (Q (.l l))
 | _=>False
theorem p_list:PrimH (fun v=>call (fnV true "list") [v]) fList vO:=fun cx R fr ow τ hv v p O S x e=>.mk fun Q zq zq h k=>by
 have g:=S.held x e
 cases p with
 | lst l =>
  refine bq.el h fun e h=>?_
  obtain ⟨b,vs,n,f1,r1⟩:=g
  exact call_list_seq b (.inl rfl) f1 rfl rfl (fun h2 c' hk hn=>k _ ⟨τ.G,τ.Φ,{ τ.s with heap:=h2 }⟩ _ h .heap (S.keepAll hk) ⟨_,_,hn,.l l vs c' r1,St.isNew (τ:=τ) O S get_size⟩) (fits6 r1 e)
 | tup l =>
  refine bq.el h fun e h=>?_
  obtain ⟨b,vs,n,f1,r1⟩:=g
  exact call_list_seq b (.inr rfl) f1 rfl rfl (fun h2 c' hk hn=>k _ ⟨τ.G,τ.Φ,{ τ.s with heap:=h2 }⟩ _ h .heap (S.keepAll hk) ⟨_,_,hn,.l l vs c' r1,St.isNew (τ:=τ) O S get_size⟩) (fits6 r1 e)
 | _=>exact h.elim
noncomputable def fDict (p:PV) (Q:CV -> Prop):Prop:=match p with
 | .dct l=>bq (decide (l.length <= 900)) (Q (.d l))
 | _=>False
theorem p_dict:PrimH (fun v=>call (fnV true "dict") [v]) fDict vO:=fun cx R fr ow τ hv v p O S x e=>.mk fun Q zq zq h k=>by
 have g:=S.held x e
 cases p with
 | dct l =>
  refine bq.el h fun e h=>?_
  obtain ⟨b,ob,kvs,f1,m1,d1,r1⟩:=g
  refine kt_call_dict m1 (d1.at f1) (by rw [VRd.length r1,sizeLine_eq]; exact Nat.le_trans (of_decide_eq_true e) (by decide)) fun h2 hd2 hs=>?_
  obtain ⟨ob2,ho2,hd3⟩:=DctO.of hd2
  exact k _ ⟨τ.G,τ.Φ,{ τ.s with heap:=h2 }⟩ _ h .heap (S.keepAll fun b o' e=>(hs.2 b (Nat.ne_of_lt (Heap.lt_size e))).trans (Heap.get?_push_of_some _ e)) ⟨_,_,ho2,.d l _ kvs hd3 r1,St.isNew (τ:=τ) O S get_size⟩
 | _=>exact h.elim
noncomputable def isTr:PV -> Bool
 | .bool b=>b
 | _=>false
noncomputable def isBo:PV -> Bool
 | .bool _=>true
 | _=>false
noncomputable def fBs (f:List PV -> Bool):F1:=fun p Q=>match p with
 | .lst l=>bq (l.all isBo) (Q (.bool (f l)))
 | _=>False
noncomputable abbrev fAny:F1:=fBs fun l=>l.any isTr
noncomputable abbrev fAll:F1:=fBs fun l=>l.all isTr
noncomputable def trAt (l:List PV) (i:Nat):Bool:=match l[i]? with | some p=>isTr p | none=>false
theorem any_range (l:List PV):(List.range l.length).any (trAt l) = l.any isTr:=by
 induction l with
 | nil=>rfl
 | cons p l ih=>rw [List.length_cons,List.range_succ_eq_map,List.any_cons,List.any_map,List.any_cons,<- ih]; rfl
theorem all_range (l:List PV):(List.range l.length).all (trAt l) = l.all isTr:=by
 induction l with
 | nil=>rfl
 | cons p l ih=>rw [List.length_cons,List.range_succ_eq_map,List.all_cons,List.all_map,List.all_cons,<- ih]; rfl
theorem truth_list {P:PW} {Φ:Fz} {A:Around} {l:List PV} {vs:List Value} (hv:VRs P Φ l vs) (hb:l.all isBo = true):TruthOf P.prog P.w A (fun i v=>vs.toArray[i]? = some v) (trAt l):=by
 intro i v s Q E hP hQ
 have hP:vs[i]? = some v:=by rw [<- hP]; exact (List.getElem?_toArray ..).symm
 unfold trAt at hQ
 cases e:l[i]? with
 | none =>
  have:=(List.getElem?_eq_some_iff.mp hP).1
  rw [hv.length] at this
  exact absurd this (Nat.not_lt.mpr (List.getElem?_eq_none_iff.mp e))
 | some p =>
  obtain ⟨y,hy,vy⟩:=hv.get e
  cases hP.symm.trans hy
  rw [e] at hQ
  have q:=List.all_eq_true.mp hb p (List.mem_of_getElem? e)
  cases p with
  | bool b=>cases vy; exact wpAny_truthy_bool hQ
  | _=>cases q
noncomputable abbrev Quant (g:List Nat -> (Nat -> Bool) -> Bool) (T:String):Prop:=∀ (prog:Program) (w:World) (A:Around) (E:Value -> Shared -> Prop) (s:Shared) (x:Value) (Q:Value -> Shared -> Prop),
 wpAny (model prog w) A.in1 (pyIter x) (fun it s₂=>∃ I fp wr n P St tr,it = .ref I /\ Walks prog w A.in1 I fp wr n P St /\ St 0 s₂.heap /\ TruthOf prog w A.in1 P tr /\ ∀ h' tk,(∀ b o,b ∉ wr -> s₂.heap.get? b = some o -> h'.get? b = some o) -> Q (.bool (g (List.range n) tr)) { s₂ with heap:=h',toks:=tk }) E s ->
  wpAny (model prog w) A (call (.builtin T) [x]) Q E s
theorem p_quant {g:List Nat -> (Nat -> Bool) -> Bool} {T:String} {f:List PV -> Bool} (c:Quant g T) (hf:∀ l,g (List.range l.length) (trAt l) = f l):PrimH (fun v=>call (fnV false T) [v]) (fBs f) vE:=fun cx R fr ow τ hv v p O S x e=>.mk fun Q zq zq h k=>by
 have z:=S.held x e
 cases p with
 | lst l =>
  refine bq.el h fun e h=>?_
  obtain ⟨b,vs,n,f1,r1⟩:=z
  refine c _ _ _ _ _ _ _ (wpAny_pyIter_list (isListOf f1) ⟨_,_,_,_,_,_,_,rfl,Walks.list (A:=R.A.in1) O.room.hd _ b (Nat.ne_of_lt (Heap.lt_size f1)) vs.toArray,⟨⟨_,Heap.get?_push_size _ rfl,rfl,rfl⟩,(isListOf f1).push _⟩,truth_list r1 e,fun h2 tk2 hk=>?_⟩)
  exact k _ ⟨τ.G,τ.Φ,{ τ.s with heap:=h2,toks:=tk2 }⟩ _ h .heap (S.keepAll fun b o' e=>hk b o' (fun q=>absurd (Heap.lt_size e) (one q ▸ Nat.lt_irrefl _)) (Heap.get?_push_of_some _ e)) (by show _ = Value.bool _; rw [List.size_toArray,r1.length,hf])
 | _=>exact h.elim
theorem p_any:PrimH (fun v=>call (fnV false "any") [v]) fAny vE:=p_quant (fun zq zq zq zq zq zq zq h=>call_any_walk h) any_range
theorem p_all:PrimH (fun v=>call (fnV false "all") [v]) fAll vE:=p_quant (fun zq zq zq zq zq zq zq h=>call_all_walk h) all_range
noncomputable def fMax:F2:=int2 fun a b Q=>Q (.int (cond (decide (a < b)) b a))
noncomputable def fMin:F2:=int2 fun a b Q=>Q (.int (cond (decide (b < a)) b a))
theorem p_mm {T:String} {c:Int -> Int -> Bool} (x:∀ (prog:Program) (w:World) (A:Around) (E:Value -> Shared -> Prop) (s:Shared) a b t u (Q:Value -> Shared -> Prop),A.handled = none -> (∀ h' tk,(∀ c o,s.heap.get? c = some o -> h'.get? c = some o) -> Q (cond (c a b) (.int b u) (.int a t)) { s with heap:=h',toks:=tk }) ->
  wpAny (model prog w) A (call (.builtin T) [.int a t,.int b u]) Q E s):Prim2 (fun v u=>call (.builtin T) [v,u]) (int2 fun a b Q=>Q (.int (cond (c a b) b a))) :=
 fun cx R fr ow τ va vb a b O S xa xb=>.mk fun Q Q' E' h k=>pvI.el (C:=fun va=>wpAny R.M R.A (call (.builtin T) [va,vb]) Q' E' τ.s) h xa fun i u h =>
  pvI.el (C:=fun vb=>wpAny R.M R.A (call (.builtin T) [.int i u,vb]) Q' E' τ.s) h xb fun j v h=>x _ _ _ _ _ i j u v Q' O.room.hd fun h2 tk hk=>k _ ⟨τ.G,τ.Φ,{ τ.s with heap:=h2,toks:=tk }⟩ _ h .heap (S.keepAll hk) (by cases c i j <;> exact ⟨_⟩)
theorem p_max:Prim2 (fun v u=>call (.builtin "max") [v,u]) fMax:=p_mm (c:=fun a b=>decide (a < b)) fun zq zq zq zq zq a b t u Q hh h=>max_two_ints hh fun h' tk hk=>by
 have:=h h' tk hk
 refine Decidable.byCases (fun q:a < b=>?_) fun q=>?_
 ·rw [if_pos q]; rw [decide_eq_true q] at this; exact this
 ·rw [if_neg q]; rw [decide_eq_false q] at this; exact this
theorem p_min:Prim2 (fun v u=>call (.builtin "min") [v,u]) fMin:=p_mm (c:=fun a b=>decide (b < a)) fun zq zq zq zq zq a b t u Q hh h=>min_two_ints hh fun h' tk hk=>by
 have:=h h' tk hk
 refine Decidable.byCases (fun q:b < a=>?_) fun q=>?_
 ·rw [if_pos q]; rw [decide_eq_true q] at this; exact this
 ·rw [if_neg q]; rw [decide_eq_false q] at this; exact this
end
section
noncomputable def CV.ra:CV -> RA
 | .l x=>.list x
 | .d x=>.dict x
variable {cx:Cx}
section
variable {P:PW} {h:Heap} {Φ:Fz} {R:Rn} {fr:Fr} {ow:List (List Addr)} {τ:Tau} {c:RC} {g:RA} {a:Addr}
noncomputable def Fz.reg (Φ:Fz) (c:RC):Fz:=⟨Φ.rs ++ [c],Φ.fz⟩
theorem Fz.le_reg:Fz.le Φ (Fz.reg Φ c):=⟨List.prefix_append _ _,fun zq zq e=>e⟩
theorem RegsH.length {R:List RC} {G:Gs} (x:RegsH P h Φ R G):G.length = R.length:=by
 induction R generalizing G with
 | nil=>cases x; rfl
 | cons c R ih=>obtain ⟨r,G,x,y⟩:=x; exact congrArg (fun q=>q + 1) (ih y)
theorem RegsH.snoc (x:RegH P h Φ c g) {R:List RC} {G:Gs} (y:RegsH P h Φ R G):RegsH P h Φ (R ++ [c]) (G ++ [g]):=by
 induction R generalizing G with
 | nil=>cases y; exact ⟨g,[],x,⟨⟩⟩
 | cons d R ih=>obtain ⟨r,G,z,y⟩:=y; exact ⟨r,_,z,ih y⟩
theorem Reg.snoc {R:List RC} (x:Reg (R ++ [c]) a):Reg R a \/ a = c.addr \/ a = c.d :=
 x.el (C:=fun a=>Reg R a \/ a = c.addr \/ a = c.d) (fun b hb=>(List.mem_append.mp hb).elim (fun hb=>.inl (.a (mem_ras hb))) fun hb=>.inr (.inl (List.mem_singleton.mp hb ▸ rfl)))
  fun b hb=>(List.mem_append.mp hb).elim (fun hb=>.inl (.d (mem_rds hb))) fun hb=>.inr (.inr (List.mem_singleton.mp hb ▸ rfl))
theorem St.addReg (S:St R fr ow τ) (Na:New R.X τ.Φ ow c.addr) (Nd:New R.X τ.Φ ow c.d) (hg:RegH R.P τ.h τ.Φ c g):St R fr ow ⟨τ.G ++ [g],Fz.reg τ.Φ c,τ.s⟩ :=
 have l1:Fz.le τ.Φ (Fz.reg τ.Φ c):=Fz.le_reg
 have rd:rds (Fz.reg τ.Φ c).rs = rds τ.Φ.rs ++ [c.d]:=List.map_append
 {core :=
   {frz:=S.core.frz
    mono:=Fz.le_trans S.core.mono l1
    new:=S.core.new
    keep:=S.core.keep
    regs:=RegsH.snoc (hg.keeps l1 (fun zq e=>e) fun zq e=>e) (S.core.regs.keeps l1 fun zq zq zq e=>e)
    rfr:=fun d hd=>(Reg.snoc hd).elim (S.core.rfr d) fun e=>e.elim (fun e=>e ▸ Na.f) fun e=>e ▸ Nd.f
    rnew:=fun b hb=>(List.mem_append.mp hb).elim (S.core.rnew b) fun hb=>.inr (List.mem_singleton.mp hb ▸ ⟨Nd.h0,Na.h0⟩)
    sep :=
     {nd:=rd ▸ List.nodup_append.mpr ⟨S.core.sep.nd,List.nodup_cons.mpr ⟨(fun h=>nomatch h),.nil⟩,fun a ha b hb e=>Nd.r (.d (List.mem_singleton.mp hb ▸ e ▸ ha))⟩
      k:=fun a ha b hb e=>by
       rw [rd] at ha
       refine (List.mem_append.mp hb).elim (fun hb=>(List.mem_append.mp ha).elim (fun ha=>S.core.sep.k a ha b hb e) fun ha=>?_) fun hb=>?_
       ·have q:=List.mem_singleton.mp ha; subst q; exact absurd (.a (e ▸ mem_ras hb)) Nd.r
       ·have q:=List.mem_singleton.mp hb; subst q
        exact (List.mem_append.mp ha).elim (fun ha=>absurd (.d (by rw [e]; exact ha)) Na.r) fun ha=>(List.mem_singleton.mp ha).symm } }
  slots:=S.slots.keeps l1 (fun zq zq zq e=>e) fun zq zq zq e=>e
  nd:=S.nd
  off:=fun a ha=>⟨(S.off a ha).f,(S.off a ha).h0,fun hr=>(Reg.snoc hr).elim (S.off a ha).r fun e=>e.elim (fun e=>Na.apart (e ▸ ha)) fun e=>Nd.apart (e ▸ ha)⟩
  live:=S.live
  still:=S.still }
theorem CO.reg {c:CV} {ob:Obj} {a:Addr} (x:CO P Φ c ob) (e:h.get? a = some ob) (m:(a == sysModules) = false):RegH P h Φ ⟨a,a⟩ c.ra:=by
 cases x with
 | l l vs n v=>exact ⟨rfl,vs,n,v,e⟩
 | d l _ kvs q v=>exact ⟨rfl,m,kvs,v,q.at e⟩
end
noncomputable def dReg (d:DO):DE:=fun o fr G Q=>d o fr G fun c G=>Q (.reg G.length) (G ++ [c.ra])
theorem E.reg {e:Expr} {d:DO} (x:SO cx e d):SE cx e (dReg d) :=
 fun R fr ow τ O S=>.mk fun Q zq zq h k=>(x R fr ow τ O S).use h fun c τ1 v h t1 S1 v1=>by
  obtain ⟨a,ob,ha,c1,N⟩:=v1
  refine k _ ⟨τ1.G ++ [c.ra],Fz.reg τ1.Φ ⟨a,a⟩,τ1.s⟩ _ h ⟨t1.sm,Fz.le_trans t1.le Fz.le_reg⟩ (S1.addReg N N (c1.reg ha N.sm)) ⟨⟨a,a⟩,?_⟩
  rw [S1.core.regs.length]; exact List.getElem?_concat_length
noncomputable abbrev DP:=D (List (Nm × PV))
noncomputable def kvTrees (pos:Pos) (env:Env):List (Option Expr) -> List Expr -> List (Sem Value × Sem Value)
 | some k :: ks,v :: vs=>(eval k env,(do let x <- eval v env; standAt pos; pure x)) :: kvTrees pos env ks vs
 | _,_=>[]
inductive PsR (R:Rn) (τ:Tau) (l:List (Nm × PV)) (ps:List (Value × Value)):Prop | mk (kvs:List (Str × Value)) (c:Carries R.P.sk ps kvs) (v:VRd R.P τ.Φ l kvs):PsR R τ l ps
structure SP (cx:Cx) (ks:List (Option Expr)) (vs:List Expr) (d:DP):Prop where
 shape:∀ env pos,(evalEachOpt ks env).zip ((evalEach vs env).map fun v=>do let x <- v; standAt pos; pure x) = (kvTrees pos env ks vs).map fun p=>(some p.1,p.2)
 run:∀ R fr ow τ pos,R.Ok cx -> St R fr ow τ -> Tr R fr ow τ (evalPairs (kvTrees pos R.X.env ks vs)) (d R.o fr τ.G) (PsR R)
noncomputable def dpNil:DP:=fun zq zq G Q=>Q [] G
noncomputable def dpCons (k v:DE) (r:DP):DP:=fun o fr G Q=>k o fr G fun a G=>oq (pvS a) fun x=>v o fr G fun b G=>r o fr G fun l G=>Q ((x,b) :: l) G
theorem P.nil:SP cx [] [] dpNil:=⟨fun zq zq=>rfl,fun R fr ow τ pos O S=>.mk fun Q zq zq h k=>evalPairs_nil (k _ τ _ h .refl S ⟨[],trivial,⟨⟩⟩)⟩
theorem P.cons {k v:Expr} {ks:List (Option Expr)} {vs:List Expr} {dk dv:DE} {r:DP} (hk:∀ env,evalEachOpt (some k :: ks) env = some (eval k env) :: evalEachOpt ks env) (hv:∀ env,evalEach (v :: vs) env = eval v env :: evalEach vs env)
  (x:SE cx k dk) (y:SE cx v dv) (z:SP cx ks vs r):SP cx (some k :: ks) (v :: vs) (dpCons dk dv r) where
 shape:=fun env pos=>by rw [hk,hv,List.map_cons,List.zip_cons_cons,z.shape]; rfl
 run:=fun R fr ow τ pos O S=>.mk fun Q Q' E' h j=>evalPairs_cons ((x R fr ow τ O S).use h fun a τ1 u h t1 S1 v1 =>
  pvS.el (C:=fun u=>wpAny R.M R.A (eval v R.X.env >>= fun x=>standAt pos >>= fun zq=>pure x) (fun vv s=>wpAny R.M R.A (evalPairs (kvTrees pos R.X.env ks vs)) (fun vs s=>Q' ((u,vv) :: vs) s) E' s) E' τ1.s) h v1 fun c t h=>wpAny_bind ((y R fr ow τ1 O S1).use h fun b τ2 u2 h t2 S2 v2 =>
   wpAny_bind (wpAny_standAt (wpAny_pure ((z.run R fr ow τ2 pos O S2).use h fun l τ3 ps h t3 S3 v3=>by obtain ⟨kvs,c3,v3⟩:=v3; exact j _ τ3 _ h (t1.trans (t2.trans t3)) S3 ⟨(toS c,u2) :: kvs,⟨keyIs c t,rfl,c3⟩,u2,kvs,VR.mono t3.le _ _ v2,v3⟩)))))
noncomputable def mergeP (acc:List (Nm × PV)):List (Nm × PV) -> List (Nm × PV)
 | []=>acc
 | e :: l=>mergeP (putD acc e.1 e.2) l
theorem VRd.merge {P:PW} {Φ:Fz} {l acc:List (Nm × PV)} {kvs acs:List (Str × Value)} (x:VRd P Φ acc acs) (y:VRd P Φ l kvs):VRd P Φ (mergeP acc l) (merged acs kvs):=by
 induction l generalizing acc acs kvs with
 | nil=>cases y; exact x
 | cons e l ih=>obtain ⟨v,r,g,q⟩:=y; exact ih (acc:=putD acc e.1 e.2) (acs:=stored acs (toS e.1) v) (kvs:=r) (x.put g) q
theorem St.pushStill {R:Rn} {fr:Fr} {ow:List (List Addr)} {τ:Tau} (O:R.Ok cx) (S:St R fr ow τ) (o:Obj) (hf:o.isFreed = false) (t:Nat):St (R.st [(τ.h.objs.size,o)]) fr ow ⟨τ.G,τ.Φ,{ τ.s with heap:=τ.h.push o,toks:=t }⟩ :=
 (S.push O o t).addStill (List.nodup_cons.mpr ⟨(fun h=>nomatch h),.nil⟩) (fun a ha=>one ha ▸ St.isNew (τ:=τ) O S get_size) fun p hp=>by cases List.mem_singleton.mp hp; exact Heap.get?_push_size _ hf
noncomputable def dDisp (d:DP):DO:=fun o fr G Q=>d o fr G fun l G=>Q (.d (mergeP [] l)) G
theorem O.disp {ks:List (Option Expr)} {vs:List Expr} {pos:Pos} {d:DP} (h0:∀ env,kvTrees pos env ks vs ≠ [] /\ (kvTrees pos env ks vs).length <= 15) (x:SP cx ks vs d):SO cx (.Dict ks vs pos) (dDisp d) :=
 fun R fr ow τ O S=>.mk fun Q zq zq h k=>by
  refine wpAny_Dict_pairs (knd:=R.P.sk) (x.shape _ _) (h0 _).1 (h0 _).2 ?_
  refine (x.run _ _ _ _ pos (O.add _) (S.pushStill O { cls:=.type "dict",data:=.dict #[] } rfl τ.s.toks)).use h fun l τ1 ps h t1 S1 v1=>?_
  obtain ⟨kvs,c1,v1⟩:=v1
  refine ⟨kvs,c1,⟨_,#[],0,S1.still _ (.head _),⟨rfl,rfl,rfl⟩,rfl,(fun zq he=>nomatch he),.nil,List.nodup_nil⟩,fun h2 hd2 hs2=>?_⟩
  obtain ⟨ob2,ho2,hd3⟩:=DctO.of hd2
  exact k _ ⟨τ1.G,τ1.Φ,{ τ1.s with heap:=h2,toks:=_ }⟩ _ h (((To.heap (τ:=τ)).trans t1).trans .heap) (S1.restill O fun b o' hb e=>(hs2.2 b (not_one hb)).trans e) ⟨_,ob2,ho2,.d _ _ _ hd3 (VRd.merge (acc:=[]) ⟨⟩ v1),St.newOf (τ:=τ1) (st:=[(τ.h.objs.size,_)]) O S1 (.head _)⟩
noncomputable def dDisp0:DO:=fun zq zq G Q=>Q (.d []) G
theorem O.disp0 {pos:Pos}:SO cx (.Dict [] [] pos) dDisp0:=fun R fr ow τ O S=>.mk fun Q zq zq h k=>by
 rw [eval_Dict_empty]
 refine wpAny_bind (wpAny_standAt (wpAny_bind (wpAny_alloc (wpAny_pure ?_))))
 exact k _ ⟨τ.G,τ.Φ,{ τ.s with heap:=τ.h.push { cls:=.type "dict",data:=.dict #[] } }⟩ _ h .heap (S.push O _ _) ⟨_,_,Heap.get?_push_size _ rfl,.d [] _ [] ⟨⟨rfl,rfl,rfl⟩,⟨#[],0,rfl,(fun zq he=>nomatch he),.nil⟩,List.nodup_nil⟩ ⟨⟩,St.isNew (τ:=τ) O S get_size⟩
end
section
variable {cx:Cx}
noncomputable def kindOfP:PV -> String
 | .lst _=>"list"
 | .dct _=>"dict"
 | .idc _=>"dict"
 | _=>"?"
inductive Kd (s:Shared) (T:String):Value -> Prop | mk (a:Addr) (t:s.TypeIs (.ref a) T) (ob:Obj) (e:s.heap.get? a = some ob) (d:ob.dict = none):Kd s T (.ref a)
theorem HR.kd {P:PW} {Φ:Fz} {s:Shared} {p:PV} {v:Value} (x:HR P s.heap Φ p v) (hne:(kindOfP p == "?") = false):Kd s (kindOfP p) v:=by
 cases p with
 | lst l=>obtain ⟨a,vs,k,f,g⟩:=x; exact ⟨a,(isListOf f).typeIs,_,f,rfl⟩
 | dct l=>obtain ⟨a,ob,kvs,f,m,d,g⟩:=x; exact ⟨a,(d.at f).typeIs,ob,f,d.x.2.1⟩
 | idc l=>obtain ⟨a,ob,kvs,f,m,d,g⟩:=x; exact ⟨a,(d.at f).typeIs,ob,f,d.x.2.1⟩
 | _=>cases hne
noncomputable def dM (T:String) (d:DH) (l:DL):D (HV × List PV):=fun o fr G Q=>d o fr G fun a G=>oq (a.res fr G) fun q=>bq (kindOfP q == T) (l o fr G fun ls G=>Q (a,ls) G)
theorem cmeth {T id:String} {m:Str} {e e1:Expr} {es:List Expr} {apos pos:Pos} {d:DH} {l:DL} {R:Rn} {fr:Fr} {ow:List (List Addr)} {τ:Tau} {Q:HV × List PV -> Gs -> Prop} {Q' E':Value -> Shared -> Prop} (slot:PySem.Slot T m id) (pa:PlainAttrs T) (hty:typeOf (.builtin id) = pure (.type "method_descriptor"))
  (hne:(T == "?") = false) (O:R.Ok cx) (S:St R fr ow τ) (he:okCall e m (e1 :: es) apos pos) (hs:∀ env,starEach (e1 :: es) env = (false,eval e1 env) :: starEach es env) (hp:∀ env,(backTo pos (starEach es env)).any (fun q=>q.1) = false) (x:SH cx e d) (y:SL cx (e1 :: es) l) (h:dM T d l R.o fr τ.G Q)
  (k:∀ a ls r vs τ1,Q (a,ls) τ1.G -> To τ τ1 -> St R fr ow τ1 -> Held R.P τ1.Φ ow a (.ref r) -> R.VRs τ1 ls vs -> wpAny R.M R.A (call (.builtin id) (.ref r :: vs)) Q' E' τ1.s):wpAny R.M R.A (eval (.Call (.Attribute e m apos) (e1 :: es) [] pos) R.X.env) Q' E' τ.s:=by
 obtain ⟨hb,pl,he⟩:=he R.X.env
 rw [he,hb]
 refine wpAny_bind ((x R fr ow τ O S).use h fun a τ1 v h t1 S1 v1=>wpAny_bind (wpAny_standAt (wpAny_bind (wpAny_holding (oq.el h fun q hq h=>bq.el h fun hT h2=>?_)))))
 have hT:=beq_iff_eq.mp hT
 subst hT
 obtain ⟨r,hty2,ob,hob,hdn⟩:=HR.kd (S1.held v1 hq) hne
 refine getMethod_builtin hty2 pa slot hty (fun b e=>by cases e; exact ⟨ob,hob,hdn⟩) ?_
 exact PyProof.Rows.callWith_method1 ((y R fr ow τ1 pos O S1).use h2 fun ls τ2 vs h t2 S2 v2=>k a ls r vs τ2 h (t1.trans t2) S2 (v1.mono t2.le) v2) (hs _) (hp _)
theorem VRi.value {P:PW} {Φ:Fz} {s:Int} {l:List (Int × PV)} {kvs:List (Int × Value)} (x:VRi P Φ l kvs):OptR (VR P Φ) (fd l s) (valueAt kvs s):=by
 induction l generalizing kvs with
 | nil=>cases x; exact .none
 | cons e l ih =>
  obtain ⟨m,p⟩:=e
  obtain ⟨v,r,x,y⟩:=x
  refine Decidable.byCases (fun q:m = s=>?_) fun q=>?_
  ·subst q
   rw [show fd ((m,p) :: l) m = some p from by show cond (m == m) _ _ = _; rw [beq_self_eq_true]; rfl,show valueAt ((m,v) :: r) m = some v from by simp [valueAt]]
   exact .some _ _ x
  ·rw [show fd ((m,p) :: l) s = fd l s from by show cond (m == s) _ _ = _; rw [beq_eq_false_iff_ne.mpr q]; rfl,show valueAt ((m,v) :: r) s = valueAt r s from by simp [valueAt,List.find?_cons,q]]
   exact ih y
theorem ikeyIs {P:PW} (s:Int) (t:Tok):P.ik.is s (.int s t) = true:=by simp [intKind,Value.isInt]
theorem OptR.getD {α β:Type} {A:α -> β -> Prop} {x:Option α} {y:Option β} {a:α} {b:β} (h:OptR A x y) (g:A a b):A (x.getD a) (y.getD b):=by cases h with | some _ _ x=>exact x | none=>exact g
noncomputable def ls2 (l:List PV) (K:PV -> PV -> Prop):Prop:=match l with | [a,b]=>K a b | _=>False
inductive Vs2 (A B:Value -> Prop):List Value -> Prop | mk (u w:Value) (x:A u) (y:B w):Vs2 A B [u,w]
theorem ls2.el {P:PW} {Φ:Fz} {l:List PV} {K:PV -> PV -> Prop} {vs:List Value} {C:Prop} (h:ls2 l K) (v:VRs P Φ l vs) (k:∀ a b,K a b -> Vs2 (VR P Φ a) (VR P Φ b) vs -> C):C:=by
 unfold ls2 at h
 split at h
 ·obtain ⟨u,_,x,w,_,y,⟨⟩⟩:=v; exact k _ _ h ⟨u,w,x,y⟩
 ·exact h.elim
noncomputable def fGet (p:PV) (ls:List PV) (Q:PV -> Prop):Prop:=ls2 ls fun k dflt=>match p with
 | .dct l=>oq (pvS k) fun s=>Q ((fd l s).getD dflt)
 | .idc l=>oq (pvI k) fun s=>Q ((fd l s).getD dflt)
 | _=>False
noncomputable def dGet (d:DH) (l:DL):DE:=fun o fr G Q=>dM "dict" d l o fr G fun r G=>oq (r.1.res fr G) fun p=>fGet p r.2 fun c=>Q c G
theorem E.get {e e1 e2:Expr} {apos pos:Pos} {d:DH} {l:DL} (he:okCall e (Str.ofString "get") [e1,e2] apos pos) (hs:∀ env,starEach [e1,e2] env = (false,eval e1 env) :: starEach [e2] env) (hp:∀ env,(backTo pos (starEach [e2] env)).any (fun q=>q.1) = false)
  (x:SH cx e d) (y:SL cx [e1,e2] l):SE cx (.Call (.Attribute e (Str.ofString "get") apos) [e1,e2] [] pos) (dGet d l) :=
 fun R fr ow τ O S=>.mk fun Q Q' E' h j=>cmeth F.slot_dict_get F.plainAttrs_dict F.type_dict_get (by decide) O S he hs hp x y h fun a ls r vs τ1 h t1 S1 v1 vv=>oq.el h fun p hp2 h=>ls2.el h vv fun k dflt h vv=>by
  obtain ⟨u,w,w1,w2⟩:=vv
  have hv:=S1.held v1 hp2
  cases p with
  | dct l =>
   obtain ⟨_,ob,kvs,f1,m1,d1,r1⟩:=hv
   have hm:=(d1.at f1).mapOf
   exact pvS.el (C:=fun u=>wpAny R.M R.A (PySem.call (.builtin "dict.get") [.ref r,u,w]) Q' E' τ1.s) h w1 fun s t h=>call_meetsIn F.slot_dict_get hm.typeIs F.entry_dict_get (F.args_dict_get_3 _ _ _) (meets_dict_get_default R.P.sk r (keyIs s t) m1 w) ⟨_,hm,j _ τ1.tk _ h (t1.trans .tok) S1.tok ((VRd.value r1).getD w2)⟩
  | idc l =>
   obtain ⟨_,ob,kvs,f1,m1,d1,r1⟩:=hv
   have hm:=(d1.at f1).mapOf
   exact pvI.el (C:=fun u=>wpAny R.M R.A (PySem.call (.builtin "dict.get") [.ref r,u,w]) Q' E' τ1.s) h w1 fun s t h=>call_meetsIn F.slot_dict_get hm.typeIs F.entry_dict_get (F.args_dict_get_3 _ _ _) (meets_dict_get_default R.P.ik r (ikeyIs s t) m1 w) ⟨_,hm,j _ τ1.tk _ h (t1.trans .tok) S1.tok ((VRi.value r1).getD w2)⟩
  | _=>exact h.elim
theorem nointer {R:Rn} (O:R.Ok cx):interactive R.X.env = false:=by unfold interactive; rw [O.kind]; rfl
noncomputable def dDo (d:DE):DS:=fun o fr G Q=>d o fr G fun zq G=>Q .nx fr G
theorem X.expr {e:Expr} {pos:Pos} {d:DE} (hs:∀ env,swapsWith e none pos.line env = pure false) (x:SE cx e d):SX cx (.Expr e pos) (dDo d) :=
 fun R fr ow τ O S=>.mk fun Q zq zq h k=>wpAny_Expr_any ((x R fr ow τ O S).use h fun p τ1 v h t1 S1 v1=>k _ _ ow τ1 _ h t1 S1 .nx) (nointer O) (hs _)
noncomputable def dNo:DS:=fun zq zq zq zq=>False
theorem X.no {st:Stmt}:SX cx st dNo:=fun R fr ow τ O S=>.mk fun zq zq zq h zq=>h.elim
noncomputable def dNoE:DE:=fun zq zq zq zq=>False
theorem E.no {e:Expr}:SE cx e dNoE:=fun R fr ow τ O S=>.mk fun zq zq zq h zq=>h.elim
noncomputable def whF (c:DB) (b:DS):Nat -> DS
 | 0=>dNo
 | k + 1=>dIf c (dSeq b (whF c b k)) dSkip
noncomputable def dWh (c:DB) (b:DS):DS:=whF c b 50
inductive WI (R:Rn) (τ:Tau) (c:DB) (b:DS) (Q:Flo -> Fr -> Gs -> Prop) (k:Nat):Shared -> Prop | mk (fr:Fr) (ow:List (List Addr)) (τ':Tau) (t:To τ τ') (S:St R fr ow τ') (h:whF c b k R.o fr τ'.G Q):WI R τ c b Q k τ'.s
theorem X.while {t:Expr} {body:List Stmt} {pos:Pos} {c:DB} {b:DS} (x:SB cx t c) (y:SS cx body b):SX cx (.While t body [] pos) (dWh c b) :=
 fun R fr ow τ O S=>.mk fun Q zq zq h j=>wpAny_While (codeAny_whileLoop (WI R τ c b Q) (fun k s' w=>by
  obtain ⟨fri,owi,τi,ti,Si,hw⟩:=w
  cases k with
  | zero=>exact hw.elim
  | succ k =>
   refine (x R fri owi τi O Si).use (Q:=fun t G=>cond t (dSeq b (whF c b k) R.o fri G Q) (Q .nx fri G)) hw fun v τ1 u h t1 S1 e=>?_
   subst e
   cases u with
   | false=>rw [if_neg (by decide)]; exact wpAny_execs_nil (j _ _ owi τ1 _ h (ti.trans t1) S1 .nx)
   | true =>
    rw [if_pos rfl]
    refine (y R fri owi τ1 O S1).use h fun fl fr2 ow2 τ2 f h t2 S2 v=>?_
    cases v with
    | nx=>exact ⟨k,Nat.lt_succ_self _,fr2,ow2,τ2,ti.trans (t1.trans t2),S2,h⟩
    | rt p v x=>exact j (.rt p) fr2 ow2 τ2 _ h (ti.trans (t1.trans t2)) S2 (.rt p v x)) 50 ⟨fr,ow,τ,.refl,S,h⟩)
end
section
variable {cx:Cx}
noncomputable def putL (a:HV) (fr:Fr) (G:Gs) (l:List PV) (Q:Fr -> Gs -> Prop):Prop:=match a with
 | .sl i=>Q (fr.set i (.ol l)) G
 | .rg k=>Q fr (G.set k (.list l))
 | .v _=>False
noncomputable def pvL:PV -> Option (List PV) | .lst l=>some l | _=>none
theorem pvL.at {p:PV} {l:List PV} (h:pvL p = some l):p = .lst l:=by cases p with | lst=>cases h; rfl | _=>cases h
theorem slPV.ol {x:Option LV} {l:List PV} (h:slPV x = some (.lst l)):x = some (.ol l):=by
 cases x with | none=>cases h | some y=>cases y with | ol=>cases h; rfl | _=>cases h
theorem rgPV.list {x:Option RA} {l:List PV} (h:rgPV x = some (.lst l)):x = some (.list l):=by
 cases x with | none=>cases h | some y=>cases y with | list=>cases h; rfl | _=>cases h
section
variable {R:Rn} {fr:Fr} {ow:List (List Addr)} {τ:Tau}
theorem St.putL (O:R.Ok cx) (S:St R fr ow τ) {a:HV} {r:Addr} {l l':List PV} {Q:Fr -> Gs -> Prop} {C:Prop} {s':Shared} (hput:putL a fr τ.G l' Q) (v:Held R.P τ.Φ ow a (.ref r)) (hres:a.res fr τ.G = some (.lst l))
  {vs':List Value} {k':Nat} (hl:s'.heap.get? r = some (lstO vs' k')) (hv:R.VRs τ l' vs') (k:∀ b o,b ≠ r -> τ.h.get? b = some o -> s'.heap.get? b = some o) (j:∀ fr' G',Q fr' G' -> St R fr' ow ⟨G',τ.Φ,s'⟩ -> C):C:=by
 cases a with
 | v p=>exact hput.elim
 | sl i =>
  obtain ⟨_,ha⟩:=v
  exact j _ _ hput (S.turnOwn O (slPV.ol hres) ha k ⟨_,hl⟩ fun v' x=>LO.turn x hl ⟨vs',k',hv⟩)
 | rg i =>
  obtain ⟨c,hc⟩:=v
  obtain ⟨e1,vs,m,e3,e4⟩:=S.core.regs.at hc (rgPV.list hres)
  exact j _ _ hput (S.turnReg O hc (fun b o' hb e=>k b o' (fun q=>hb (q.trans e1.symm)) e) ⟨e1,vs',k',hv,e1 ▸ hl⟩)
theorem St.heldOff (S:St R fr ow τ) {a:HV} {r:Addr} {l':List PV} {Q:Fr -> Gs -> Prop} (hput:Mine.Internal.putL a fr τ.G l' Q) (v:Held R.P τ.Φ ow a (.ref r)):τ.Φ.fz r = none:=by
 cases a with
 | v p=>exact hput.elim
 | sl i=>obtain ⟨_,ha⟩:=v; exact (S.off r (List.mem_append_right _ (List.mem_flatten.mpr ⟨[r],List.mem_of_getElem? ha,.head _⟩))).f
 | rg j=>obtain ⟨c,hc⟩:=v; exact S.core.rfr _ (.a (mem_ras (List.mem_of_getElem? hc)))
end
noncomputable abbrev FL:=List PV -> PV -> (List PV -> Prop) -> Prop
noncomputable def Lm (id:String) (f:FL):Prop:=∀ (P:PW) (A:Around) (s:Shared) (Φ:Fz) (r:Addr) (l:List PV) (y:PV) (vs:List Value) (k:Nat) (v:Value) (Q:Value -> Shared -> Prop) (E:Value -> Shared -> Prop) (K:List PV -> Prop),
 (∀ a o,Φ.fz a = some o -> s.heap.get? a = some o) -> s.heap.get? r = some (lstO vs k) -> VRs P Φ l vs -> VR P Φ y v -> f l y K ->
 (∀ l' h' vs' k',K l' -> h'.get? r = some (lstO vs' k') -> VRs P Φ l' vs' -> (∀ b o,b ≠ r -> s.heap.get? b = some o -> h'.get? b = some o) -> Q .none { s with heap:=h' }) -> wpAny P.M A (call (.builtin id) [.ref r,v]) Q E s
noncomputable def ls1 (l:List PV) (K:PV -> Prop):Prop:=match l with | [a]=>K a | _=>False
inductive Vs1 (A:Value -> Prop):List Value -> Prop | mk (u:Value) (x:A u):Vs1 A [u]
theorem ls1.el {P:PW} {Φ:Fz} {l:List PV} {K:PV -> Prop} {vs:List Value} {C:Prop} (h:ls1 l K) (v:VRs P Φ l vs) (k:∀ a,K a -> Vs1 (VR P Φ a) vs -> C):C:=by
 unfold ls1 at h
 split at h
 ·obtain ⟨u,_,x,⟨⟩⟩:=v; exact k _ h ⟨u,x⟩
 ·exact h.elim
noncomputable def dLm (f:FL) (d:DH) (l:DL):DS:=fun o fr G Q=>dM "list" d l o fr G fun r G=>oq (r.1.res fr G) fun p=>oq (pvL p) fun l=>ls1 r.2 fun y=>f l y fun l2=>putL r.1 fr G l2 (Q .nx)
theorem X.lm {id:String} {m:Str} {f:FL} {e e1:Expr} {apos pos pos2:Pos} {d:DH} {l:DL} (slot:PySem.Slot "list" m id) (hty:typeOf (.builtin id) = pure (.type "method_descriptor")) (hf:Lm id f) (hsw:∀ env,swapsWith (.Call (.Attribute e m apos) [e1] [] pos) none pos2.line env = pure false)
  (he:okCall e m [e1] apos pos) (hs:∀ env,starEach [e1] env = [(false,eval e1 env)]) (x:SH cx e d) (y:SL cx [e1] l):SX cx (.Expr (.Call (.Attribute e m apos) [e1] [] pos) pos2) (dLm f d l) :=
 fun R fr ow τ O S=>.mk fun Q Q' E' h j=>wpAny_Expr_any (cmeth slot F.plainAttrs_list hty (by decide) O S he hs (fun zq=>rfl) x y h fun a ls r vs τ1 h t1 S1 v1 vv=>oq.el h fun p hp h=>oq.el h fun l1 hl h=>ls1.el h vv fun y1 g vv=>by
  obtain ⟨u,w1⟩:=vv
  have hl:=pvL.at hl
  subst hl
  obtain ⟨_,vs,k,f1,g1⟩:=S1.held v1 hp
  exact hf R.P R.A τ1.s τ1.Φ r l1 y1 vs k u _ _ _ S1.core.frz f1 g1 w1 g fun l2 h2 vs' k' hput hl' hv' hk'=>S1.putL O (s':={ τ1.s with heap:=h2 }) hput v1 hp hl' hv' hk' fun fr' G' q S2=>j _ fr' ow ⟨G',τ1.Φ,{ τ1.s with heap:=h2 }⟩ _ q (t1.trans .heap) S2 .nx) (nointer O) (hsw _)
noncomputable def fAppend:FL:=fun l y Q=>bq (decide (l.length <= 1000000)) (Q (l ++ [y]))
theorem lm_append:Lm "list.append" fAppend:=fun P A s Φ r l y vs k v Q E K hfz hl hv hy h hQ=>bq.el h fun e h =>
 append_exact hl (by rw [hv.length,sizeLine_eq]; exact Nat.le_trans (of_decide_eq_true e) (by decide)) fun h' k' h1 h2=>hQ _ h' _ k' h h1 (hv.append ⟨v,[],hy,⟨⟩⟩) fun b o hb e=>(h2.2 b hb).trans e
noncomputable def fExtend:FL:=fun l y Q=>oq (match y with | .lst l=>some l | _=>none) fun l2=>bq (decide (l.length <= 1000000)) (bq (decide (l2.length <= 1000000)) (Q (l ++ l2)))
theorem upd_seq {h:Heap} {r:Addr} {vs:List Value} {k:Nat} (ho:h.get? r = some (lstO vs k)) (g:Array Value -> Array Value):∃ k',(h.update r (Obj.mapSeq g)).get? r = some (lstO (g vs.toArray).toList k') :=
 ⟨_,(PyProof.Rows.get?_update_seq (c:="list") (xs:=vs.toArray) (n:=k) ho g).trans (by simp [lstO,PyProof.Rows.seqObj]; rfl)⟩
theorem lm_extend:Lm "list.extend" fExtend:=fun P A s Φ r l y vs k v Q E K hfz hl hv hy h hQ=>oq.el h fun l2 e h=>bq.el h fun z1 h=>bq.el h fun z2 hK=>by
 cases y with
 | lst l3 =>
  cases e
  obtain ⟨a2,us,k2,f2,g2⟩:=hy
  have z1:=of_decide_eq_true z1
  have z2:=of_decide_eq_true z2
  have e1:vs.toArray.size <= 1000000:=by rw [List.size_toArray,hv.length]; exact z1
  have e2:us.toArray.size <= 1000000:=by rw [List.size_toArray,g2.length]; exact z2
  have e3:=Nat.le_trans (Nat.add_le_add e1 e2) (show 1000000 + 1000000 <= sizeLine by rw [sizeLine_eq]; decide)
  have hz:¬(!vs.toArray.isEmpty && Builtin.List.listTooLong (vs.toArray.size + us.toArray.size)) = true:=by
   have:Builtin.List.listTooLong (vs.toArray.size + us.toArray.size) = false:=by
    unfold Builtin.List.listTooLong
    have:=sizeLine_eq
    rw [decide_eq_false_iff_not]
    omega
   rw [this,Bool.and_false]; exact Bool.false_ne_true
  refine call_meets F.slot_list_extend ⟨_,hl,rfl⟩ F.entry_list_extend (F.args_list_extend_2 _ _) (AutoSeq1.list_extend_list_list_0 r vs.toArray k a2 us.toArray k2 hz (Nat.le_trans e1 (by decide)) (Nat.le_succ_of_le e3)) ⟨hl,hfz _ _ f2,?_⟩
  obtain ⟨k',hk'⟩:=upd_seq hl (fun x=>x ++ us.toArray)
  exact hQ _ _ (vs ++ us) k' hK (by rw [hk',List.append_toArray]) (hv.append g2) fun b o hb e=>(Heap.get?_update_ne _ _ _ _ hb).trans e
 | _=>cases e
noncomputable def fRemove:FL:=fun l y Q=>oq (pvS y) fun s=>bq (l.all isStrP) (bq (decide (l.length <= 1000000)) (bq (decide (l.findIdx (eqStrP s) < l.length)) (Q (l.eraseIdx (l.findIdx (eqStrP s))))))
section
variable {P:PW} {Φ:Fz}
theorem VRs.eraseIdx {l:List PV} {vs:List Value} (x:VRs P Φ l vs) (i:Nat):VRs P Φ (l.eraseIdx i) (vs.eraseIdx i):=by
 induction l generalizing vs i with
 | nil=>cases x; exact ⟨⟩
 | cons p l ih=>obtain ⟨v,r,x,y⟩:=x; cases i with | zero=>exact y | succ i=>exact ⟨v,_,x,ih y i⟩
theorem strs_idx {s:Nm} {l:List PV} {vs:List Value} (x:VRs P Φ l vs) (h:l.all isStrP = true):vs.findIdx (eqStrV s) = l.findIdx (eqStrP s):=by
 induction l generalizing vs with
 | nil=>cases x; rfl
 | cons p l ih =>
  obtain ⟨v,r,x,y⟩:=x
  obtain ⟨h1,h2⟩:=an h
  rw [List.findIdx_cons,List.findIdx_cons,ih y h2]
  cases p with
  | str t=>obtain ⟨u⟩:=x; rfl
  | _=>cases h1
end
theorem lm_remove:Lm "list.remove" fRemove:=fun P A s Φ r l y vs k v Q E K hfz hl hv hy h hQ=>pvS.el (C:=fun v=>wpAny P.M A (call (.builtin "list.remove") [.ref r,v]) Q E s) h hy fun s' t h=>bq.el h fun hall h=>bq.el h fun hlen h=>bq.el h fun hfi h=>by
 obtain ⟨z1,_⟩:=all_go (e:=eqStrV s') (B:=eqStrP s') (va:=.str (toS s') t) (fun p v q x=>by cases p with | str r=>obtain ⟨u⟩:=x; exact ⟨SeqRoads2.EqGives.str (toS r) (toS s') u t,rfl⟩ | _=>cases q) hv hall
 have hi:vs.findIdx (eqStrV s') < vs.length:=by rw [strs_idx hv hall,hv.length]; exact of_decide_eq_true hfi
 rw [<- strs_idx hv hall] at h
 refine call_meets F.slot_list_remove ⟨_,hl,rfl⟩ F.entry_list_remove (F.args_list_remove_2 _ _) (MeetsSeq.list_remove r vs.toArray k (.str (toS s') t) (eqStrV s') (fun y hy=>z1 y (List.mem_toArray.mp hy)) (vs.findIdx (eqStrV s')) hi ?_ ?_ (fits6 hv hlen)) ⟨hl,?_⟩
 ·rw [List.getElem_toArray]; exact List.findIdx_getElem
 ·intro m hm hlt; rw [List.getElem_toArray]; exact List.not_of_lt_findIdx hlt
 ·obtain ⟨k',hk'⟩:=upd_seq hl (fun xs=>xs.eraseIdxIfInBounds (vs.findIdx (eqStrV s')))
  exact hQ _ _ (vs.eraseIdx (vs.findIdx (eqStrV s'))) k' h (by rw [hk']; simp) (hv.eraseIdx _) fun b o hb e=>(Heap.get?_update_ne _ _ _ _ hb).trans e
end
section
variable {cx:Cx}
theorem toS_append (a b:Nm):toS a ++ toS b = toS (a ++ b):=by
 show Str.append _ _ = _
 unfold Str.append toS; simp
theorem toS_length (a:Nm):(toS a).length = a.length:=by simp [toS,Str.length]
noncomputable def txt:PV -> Option Nm
 | .str s=>cond (decide (s.length <= 1000000)) (some s) none
 | .int i=>cond (decide (i.natAbs < 2 ^ 64)) (some (nm (toString i))) none
 | _=>none
noncomputable abbrev DJ:=Orc -> Fr -> Gs -> Nm -> WP Nm
noncomputable def SJ (cx:Cx) (vs:List Expr) (d:DJ):Prop:=∀ R fr ow τ (out:Nm),R.Ok cx -> St R fr ow τ -> out.length <= 1000000 -> Tr R fr ow τ (joinParts (toS out) (evalEach vs R.X.env)) (d R.o fr τ.G out) fun τ' x=>R.VR τ' (.str x)
noncomputable def jadd (out c:Nm) (K:Nm -> Prop):Prop:=bq (decide (out.length + c.length <= 1000000)) (K (out ++ c))
theorem line6 {n:Nat} (h:n <= 1000000):n <= sizeLine:=Nat.le_trans h (by rw [sizeLine_eq]; decide)
theorem jadd.el {out c:Nm} {K:Nm -> Prop} {C:Prop} (h:jadd out c K) (k:(out ++ c).length <= 1000000 -> K (out ++ c) -> C):C:=bq.el h fun e h=>k (by rw [List.length_append]; exact of_decide_eq_true e) h
noncomputable def dJnil:DJ:=fun zq zq G out Q=>Q out G
noncomputable def dJtext (c:Nm) (r:DJ):DJ:=fun o fr G out Q=>jadd out c fun x=>r o fr G x Q
noncomputable def dJval (d:DE) (r:DJ):DJ:=fun o fr G out Q=>d o fr G fun a G=>oq (txt a) fun c=>jadd out c fun x=>r o fr G x Q
theorem J.nil:SJ cx [] dJnil:=fun R fr ow τ out O S hl=>.mk fun Q zq zq h k=>PyProof.Rows.joinParts_nil (k _ τ.tk _ h .tok S.tok ⟨τ.s.toks⟩) (by rw [toS_length]; exact line6 hl)
theorem log2_small {i:Int} (h:i.natAbs < 2 ^ 64):i.natAbs.log2 < 1920:=by
 refine Nat.lt_trans ?_ (show 64 < 1920 by decide)
 by_cases h0:i.natAbs = 0
 ·rw [h0]; decide
 ·exact (Nat.log2_lt h0).mpr h
theorem J.text {c:String} {k:Nat} {p:Pos} {vs:List Expr} {r:DJ} (he:∀ env,evalEach (.Constant (.str (Str.ofString c)) k p :: vs) env = eval (.Constant (.str (Str.ofString c)) k p) env :: evalEach vs env) (y:SJ cx vs r) :
  SJ cx (.Constant (.str (Str.ofString c)) k p :: vs) (dJtext (nm c) r) :=
 fun R fr ow τ out O S hl=>.mk fun Q Q' E' h j=>jadd.el h fun e h=>by
  rw [he]
  refine PyProof.Rows.joinParts_cons ?_
  show wpAny _ _ (mkText (Str.ofString c)) _ _ _
  rw [ofS]
  intro Γ p' hΓ
  refine ⟨by rw [toS_append,toS_length]; exact line6 e,?_⟩
  rw [toS_append]
  exact (y R fr ow τ.tk (out ++ nm c) O S.tok e).use h fun x τ1 v h t1 S1 v1=>j x τ1 v h (To.tok.trans t1) S1 v1
theorem J.val {e:Expr} {p:Pos} {vs:List Expr} {d:DE} {r:DJ} (he:∀ env,evalEach (.FormattedValue e (-1) none p :: vs) env = eval (.FormattedValue e (-1) none p) env :: evalEach vs env) (x:SE cx e d) (y:SJ cx vs r) :
  SJ cx (.FormattedValue e (-1) none p :: vs) (dJval d r) :=
 fun R fr ow τ out O S hl=>.mk fun Q Q' E' h j=>by
  rw [he]
  refine PyProof.Rows.joinParts_cons (PyProof.Rows.FormattedValue_plain ((x R fr ow τ O S).use h fun a τ1 v h t1 S1 v1=>oq.el h fun c hc h=>jadd.el h fun e h=>?_))
  have fin:∀ t' tk2,(fun (v:Value) s₁=>match v with | .str y _=>(toS out ++ y).length <= sizeLine /\ wpAny R.M R.A (joinParts (toS out ++ y) (evalEach vs R.X.env)) Q' E' s₁ | _=>False) (.str (toS c) t') { τ1.s with toks:=tk2 }:=by
   intro t' tk2
   refine ⟨by rw [toS_append,toS_length]; exact line6 e,?_⟩
   rw [toS_append]
   exact (y R fr ow ⟨τ1.G,τ1.Φ,{ τ1.s with toks:=tk2 }⟩ (out ++ c) O S1.tok e).use h fun x τ2 v h t2 S2 v2=>j x τ2 v h (t1.trans (To.tok.trans t2)) S2 v2
  cases a with
  | str s' =>
   obtain ⟨t⟩:=v1
   have hc:cond (decide (s'.length <= 1000000)) (some s') none = some c:=hc
   cases hi:decide (s'.length <= 1000000) with
   | true=>rw [hi] at hc; cases hc; exact PyProof.Rows.formatField_str (fun t' tk2=>fin t' tk2) (by rw [toS_length]; exact line6 (of_decide_eq_true hi))
   | false=>rw [hi] at hc; cases hc
  | int i =>
   obtain ⟨t⟩:=v1
   have hc:cond (decide (i.natAbs < 2 ^ 64)) (some (nm (toString i))) none = some c:=hc
   cases hi:decide (i.natAbs < 2 ^ 64) with
   | true=>rw [hi] at hc; cases hc; refine PyProof.Rows.formatField_int_small (log2_small (of_decide_eq_true hi)) ?_; have:=fin (τ1.s.toks + 1) (τ1.s.toks + 1 + 1); rw [<- ofS] at this; exact this
   | false=>rw [hi] at hc; cases hc
  | _=>cases hc
noncomputable def dJoin (d:DJ):DE:=fun o fr G Q=>d o fr G [] fun x G=>Q (.str x) G
theorem E.fstr {v1 v2:Expr} {vs:List Expr} {pos:Pos} {d:DJ} (he:∀ env,evalEach (v1 :: v2 :: vs) env = eval v1 env :: eval v2 env :: evalEach vs env) (x:SJ cx (v1 :: v2 :: vs) d):SE cx (.JoinedStr (v1 :: v2 :: vs) pos) (dJoin d) :=
 fun R fr ow τ O S=>.mk fun Q zq zq h j=>PyProof.Rows.JoinedStr_many (by
  have z:=x R fr ow τ [] O S (Nat.zero_le _)
  rw [he] at z
  exact z.use (Q:=fun x G=>Q (.str x) G) h fun x τ1 v h t1 S1 v1=>j _ τ1 v h t1 S1 v1)
noncomputable abbrev DPt:=D (Option Int)
noncomputable def SPt (cx:Cx) (e:Option Expr) (d:DPt):Prop:=∀ R fr ow τ,R.Ok cx -> St R fr ow τ -> Tr R fr ow τ (evalPart e R.X.env) (d R.o fr τ.G) fun zq x v=>IsPart v x
noncomputable def dPt0:DPt:=fun zq zq G Q=>Q none G
noncomputable def dPt1 (d:DE):DPt:=fun o fr G Q=>d o fr G fun a G=>oq (pvI a) fun i=>Q (some i) G
theorem Pt.none:SPt cx none dPt0:=fun R fr ow τ O S=>.mk fun Q zq zq h k=>wpAny_pure (k _ τ _ h .refl S .none)
theorem Pt.some {e:Expr} {d:DE} (x:SE cx e d):SPt cx (some e) (dPt1 d):=fun R fr ow τ O S=>.mk fun Q Q' zq h k=>(x R fr ow τ O S).use h fun a τ1 v h t1 S1 v1=>pvI.el (C:=fun v=>Q' v τ1.s) h v1 fun i t h=>k _ τ1 _ h t1 S1 (.int _ _)
noncomputable def sliceP {α:Type} (l:List α) (lo hi:Option Int):List α:=(l.drop (lo.elim 0 (clipAt l.length))).take (hi.elim l.length (clipAt l.length) - lo.elim 0 (clipAt l.length))
section
variable {P:PW} {Φ:Fz}
theorem VRs.drop {l:List PV} {vs:List Value} (x:VRs P Φ l vs) (k:Nat):VRs P Φ (l.drop k) (vs.drop k):=by
 induction l generalizing vs k with
 | nil=>cases x; rw [List.drop_nil,List.drop_nil]; exact ⟨⟩
 | cons p l ih=>cases k with | zero=>exact x | succ k=>obtain ⟨v,r,x,y⟩:=x; exact ih y k
theorem VRs.take {l:List PV} {vs:List Value} (x:VRs P Φ l vs) (k:Nat):VRs P Φ (l.take k) (vs.take k):=by
 induction l generalizing vs k with
 | nil=>cases x; rw [List.take_nil,List.take_nil]; exact ⟨⟩
 | cons p l ih=>cases k with | zero=>exact ⟨⟩ | succ k=>obtain ⟨v,r,x,y⟩:=x; exact ⟨v,_,x,ih y k⟩
theorem VRs.slice {l:List PV} {vs:List Value} (x:VRs P Φ l vs) (lo hi:Option Int):VRs P Φ (sliceP l lo hi) (sliceP vs lo hi):=by
 unfold sliceP; rw [x.length]; exact (x.drop _).take _
end
theorem pick_slice (vs:List Value) (lo hi:Option Int):slicePick vs.toArray lo hi none = (sliceP vs lo hi).toArray:=by
 rw [slicePick_plain]; unfold sliceP; simp
section
variable {prog:Program} {w:World}
theorem clipAt_le (n:Nat) (i:Int):clipAt n i <= n:=by
 have:=clipAt_cast n i; split at this <;> omega
theorem adjust_plain (lo hi:Option Int) (n:Nat):Builtin.Slice.sliceAdjust lo hi 1 (n:Int) = (((lo.elim 0 (clipAt n):Nat):Int),((hi.elim n (clipAt n):Nat):Int)):=by
 unfold Builtin.Slice.sliceAdjust
 have h1:¬ ((1:Int) < 0):=by omega
 have hc:∀ v:Int,(if v < 0 then max (v + n) 0 else min v n) = ((clipAt n v:Nat):Int):=by
  intro v; rw [clipAt_cast]; split <;> omega
 simp only [h1,if_false]
 cases lo <;> cases hi <;> simp [hc]
theorem places_plain (a b:Nat):Builtin.Slice.slicePlaces (a:Int) (b:Int) 1 = b - a:=by
 unfold Builtin.Slice.slicePlaces
 have h1:(1:Int) > 0:=by omega
 simp only [h1,if_true,Int.ediv_one]
 split <;> omega
theorem slicePart_ {A:Around} {E:Value -> Shared -> Prop} {s:Shared} {v:Value} {k:Option Int} {Q:Option Int -> Shared -> Prop} (hv:IsPart v k) (h:Q k s):wpAny (model prog w) A (Builtin.Slice.slicePartIndex v) Q E s:=by
 cases hv with
 | none=>exact PyProof.Rows.slicePart_none h
 | int i t=>exact PyProof.Rows.slicePart_int h
theorem sliceApplied_ {A:Around} {E:Value -> Shared -> Prop} {s:Shared} {sl:Addr} {n:Nat} {vl vu:Value} {lo hi:Option Int} {Q:Int × Int × Nat -> Shared -> Prop} (hs:s.heap.IsSliceOf sl vl vu .none) (pl:IsPart vl lo) (pu:IsPart vu hi)
  (h:Q (((lo.elim 0 (clipAt n):Nat):Int),1,hi.elim n (clipAt n) - lo.elim 0 (clipAt n)) s):wpAny (model prog w) A (Builtin.Slice.sliceApplied (.ref sl) (pure (n:Int))) Q E s:=by
 obtain ⟨os,hos,hcs,hds⟩:=id hs
 unfold Builtin.Slice.sliceApplied Builtin.Slice.sliceFields
 refine wpAny_bind (wpAny_bind (wpAny_field hos hds (x:=vl) rfl (wpAny_bind (wpAny_field hos hds (x:=vu) rfl (wpAny_bind (wpAny_field hos hds (x:=.none) rfl (wpAny_pure ?_)))))))
 refine wpAny_bind (PyProof.Rows.slicePart_none ?_)
 show wpAny _ _ (if ((1:Int) == 0) = true then _ else _) _ _ s
 rw [if_neg (by decide)]
 refine wpAny_bind (slicePart_ pl (wpAny_bind (slicePart_ pu (wpAny_bind (wpAny_pure ?_)))))
 show wpAny _ _ (match Builtin.Slice.sliceAdjust lo hi 1 (n:Int) with | (lo,hi)=>pure (lo,(1:Int),Builtin.Slice.slicePlaces lo hi 1)) _ _ s
 rw [adjust_plain]
 show wpAny _ _ (pure ((_:Int),(1:Int),Builtin.Slice.slicePlaces _ _ 1)) _ _ s
 rw [places_plain]
 exact wpAny_pure h
theorem pick_from_ (xs:Array Value) (a k:Nat):((List.range k).filterMap fun (j:Nat)=>xs[((a:Int) + (j:Int) * 1).toNat]?).toArray = ((xs.toList.drop a).take k).toArray:=by
 have e:(fun (j:Nat)=>xs[((a:Int) + (j:Int) * 1).toNat]?) = fun j=>xs[a + j]?:=by
  funext j
  have:((a:Int) + (j:Int) * 1).toNat = a + j:=by omega
  rw [this]
 rw [e]
 have:=pick_run xs a k
 rw [List.filterMap_map] at this
 have e2:((fun x=>xs[x]?) ∘ fun x=>a + x) = fun j=>xs[a + j]?:=rfl
 rw [e2] at this
 rw [this]
theorem getItem_tuple_cut {A:Around} {E:Value -> Shared -> Prop} {s:Shared} {t sl:Addr} {vs:List Value} {k:Nat} {vl vu:Value} {lo hi:Option Int} {Q:Value -> Shared -> Prop} (ht:s.heap.get? t = some (tupO vs k)) (hs:s.heap.IsSliceOf sl vl vu .none) (pl:IsPart vl lo) (pu:IsPart vu hi)
  (hsame:sliceP vs lo hi = vs -> Q (.ref t) s) (hnew:Q (.ref s.heap.objs.size) { s with heap:=s.heap.push (tupO (sliceP vs lo hi) 0) }) (hsz:vs.length <= sizeLine):wpAny (model prog w) A (getItem (.ref t) (.ref sl)) Q E s:=by
 have hlen:(sliceP vs lo hi).length <= vs.length:=by unfold sliceP; simp; omega
 have hdrop:sizeOk (.seq (sliceP vs lo hi).toArray):=by
  show (sliceP vs lo hi).toArray.size <= sizeLine
  rw [List.size_toArray]; omega
 obtain ⟨os,hos,hcs,hds⟩:=id hs
 have hTs:s.TypeIs (.ref sl) "slice":=⟨os,hos,hcs⟩
 have hti:PyProof.Rows.IsTup s.heap t vs.toArray:=⟨_,ht,rfl,k,rfl⟩
 unfold getItem
 try with_reducible refine wpAny_holding ?_
 first | refine wpAny_bind (wpAny_pure ?_) | skip
 refine wpAny_bind (wpAny_sequenceKey hti.typeIs (by decide) ?_)
 refine wpAny_bind (wpAny_callSpecial?_slot (name:=Str.ofString "__getitem__") hti.typeIs F.slot_tuple_getitem
  (wpAny_call_entry F.slot_tuple_getitem hti.typeIs F.entry_tuple_getitem ?_ (F.args_tuple_getitem_2 _ _)))
 show wpAny _ _ (Builtin.Tuple.tupleItemsOf (.ref t) >>= _) _ _ s
 refine wpAny_bind (PyProof.Rows.tupleItemsOf_ hti ?_)
 refine wpAny_bind (wpAny_typeOf hTs ?_)
 rw [if_pos (by decide)]
 refine wpAny_bind (sliceApplied_ (n:=vs.toArray.size) hs pl pu ?_)
 generalize hb:((((lo.elim 0 (clipAt vs.toArray.size):Nat):Int) == 0 && (1:Int) == 1 && (hi.elim vs.toArray.size (clipAt vs.toArray.size) - lo.elim 0 (clipAt vs.toArray.size)) == vs.toArray.size):Bool) = b
 show wpAny _ _ (if ((((lo.elim 0 (clipAt vs.toArray.size):Nat):Int) == 0 && (1:Int) == 1 && (hi.elim vs.toArray.size (clipAt vs.toArray.size) - lo.elim 0 (clipAt vs.toArray.size)) == vs.toArray.size):Bool) = true then _ else _) _ _ s
 rw [hb]
 have hnew2:Q (.ref s.heap.objs.size) { s with heap:=s.heap.push { cls:=.type "tuple",data:=.seq (sliceP vs lo hi).toArray } }:=hnew
 cases b with
 | true =>
  rw [if_pos rfl]
  have e:sliceP vs lo hi = vs:=by
   simp only [Bool.and_eq_true,beq_iff_eq,List.size_toArray] at hb
   unfold sliceP
   have h0:lo.elim 0 (clipAt vs.length) = 0:=by omega
   rw [h0,List.drop_zero,List.take_of_length_le (by omega)]
  unfold Builtin.Tuple.tupleIsExact
  refine wpAny_bind (wpAny_bind (wpAny_typeOf hti.typeIs (wpAny_pure ?_)))
  rw [if_pos (by decide)]
  first
   | exact wpAny_bind (wpAny_rule (wpAny_pure ⟨_,rfl,wpAny_pure (hsame e)⟩))
   | exact wpAny_bind (wpAny_rule (wpAny_bind (wpAny_pure (wpAny_pure ⟨_,rfl,wpAny_pure (hsame e)⟩))))
   | exact wpAny_bind (wpAny_rule (wpAny_bind (wpAny_pure ⟨_,rfl,wpAny_pure (hsame e)⟩)))
 | false =>
  rw [if_neg (by decide),pick_from_]
  have e:((vs.toArray.toList.drop (lo.elim 0 (clipAt vs.toArray.size))).take (hi.elim vs.toArray.size (clipAt vs.toArray.size) - lo.elim 0 (clipAt vs.toArray.size))) = sliceP vs lo hi:=by unfold sliceP; simp
  rw [e]
  first
   | exact wpAny_bind (m:=Builtin.Tuple.tupleExact _) (wpAny_newObj_type (wpAny_pure ⟨_,rfl,wpAny_pure hnew2⟩) hdrop)
   | exact wpAny_bind (m:=Builtin.Tuple.tupleExact _) (wpAny_newObj_type (wpAny_bind (wpAny_pure (wpAny_pure ⟨_,rfl,wpAny_pure hnew2⟩))) hdrop)
   | exact wpAny_bind (wpAny_bind (m:=Builtin.Tuple.tupleExact _) (wpAny_newObj_type (wpAny_pure (wpAny_pure ⟨_,rfl,wpAny_pure hnew2⟩)) hdrop))
   | exact wpAny_bind (wpAny_bind (m:=Builtin.Tuple.tupleExact _) (wpAny_newObj_type (wpAny_pure ⟨_,rfl,wpAny_pure hnew2⟩) hdrop))
end
end
section
noncomputable abbrev Tau.ps (τ:Tau) (o:Obj):Tau:=⟨τ.G,τ.Φ,{ τ.s with heap:=τ.h.push o }⟩
noncomputable abbrev Tau.pf (τ:Tau) (o:Obj):Tau:=⟨τ.G,Fz.put τ.Φ τ.h.objs.size o,{ τ.s with heap:=τ.h.push o }⟩
variable {cx:Cx}
noncomputable def fSlice (p:PV) (lo hi:Option Int) (Q:PV -> Prop):Prop:=match p with
 | .lst l=>bq (decide (l.length <= 1000000)) (Q (.lst (sliceP l lo hi)))
 | .tup l=>bq (decide (l.length <= 1000000)) (Q (.tup (sliceP l lo hi)))
 | _=>False
noncomputable def dSlice (v:DE) (lo hi:DPt):DE:=fun o fr G Q=>v o fr G fun a G=>lo o fr G fun b G=>hi o fr G fun c G=>fSlice a b c fun r=>Q r G
theorem E.slice {v:Expr} {lo hi:Option Expr} {p pos:Pos} {dv:DE} {dl dh:DPt} (hs:∀ o j,∃ l,subscripted (.Slice lo hi Option.none p) false o j = operate l (getItem o j)) (x:SE cx v dv) (y:SPt cx lo dl) (z:SPt cx hi dh) :
  SE cx (.Subscript v (.Slice lo hi Option.none p) pos) (dSlice dv dl dh) :=
 fun R fr ow τ O S=>.mk fun Q Q' E' h k=>PyProof.Rows.Subscript_ ((x R fr ow τ O S).use h fun a τ1 u h t1 S1 v1=>wpAny_Slice ((y R fr ow τ1 O S1).use h fun b τ2 ul h t2 S2 p2=>(z R fr ow τ2 O S2).use h fun c τ3 uh h t3 S3 p3=>by
  rw [evalPart_none]
  refine wpAny_pure ?_
  have v3:=VR.mono (Fz.le_trans t2.le t3.le) _ _ v1
  have t4:=t1.trans (t2.trans t3)
  have S4:St R fr ow (τ3.ps { cls:=.type "slice",data:=.fields #[ul,uh,.none] }):=S3.push O _ _
  let τ4:=τ3.ps { cls:=.type "slice",data:=.fields #[ul,uh,.none] }
  have t5:To τ τ4:=t4.trans .heap
  cases a with
  | lst l =>
   refine bq.el h fun g h=>?_
   obtain ⟨t,vs,n,f,r⟩:=v3
   have f4:=S4.core.frz _ _ f
   refine subTail (isListOf f4).typeIs list_getitem_lookup (wpAny_getItem_list_slice (isListOf f4) (Heap.IsSliceOf.new ..) p2 p3 .none (by simp) ?_ (fits6 r g)) (hs _ _)
   rw [pick_slice]
   exact k _ (τ4.pf (lstO (sliceP vs b c) 0)) _ h (t5.trans (To.pushF O S4 (lstO (sliceP vs b c) 0) _)) (S4.pushF O (lstO (sliceP vs b c) 0) rfl _) ⟨_,_,0,Fz.put_self,VRs.mono (Fz.le_put (S4.isNew O get_size).f) _ _ (r.slice b c)⟩
  | tup l =>
   refine bq.el h fun g h=>?_
   have v3':=v3
   obtain ⟨t,vs,n,f,r⟩:=v3
   have f4:=S4.core.frz _ _ f
   refine subTail (isTupleOf f4).typeIs PySem.F.slot_tuple_getitem.lookup (getItem_tuple_cut f4 (Heap.IsSliceOf.new ..) p2 p3 (fun e=>?_) ?_ (by have:=fits6 r g; rw [List.size_toArray] at this; exact this)) (hs _ _)
   ·exact k _ τ4 _ h t5 S4 ⟨t,vs,n,f,e ▸ r.slice b c⟩
   ·exact k _ (τ4.pf (tupO (sliceP vs b c) 0)) _ h (t5.trans (To.pushF O S4 (tupO (sliceP vs b c) 0) _)) (S4.pushF O (tupO (sliceP vs b c) 0) rfl _) (VR.of_put 0 (r.slice b c) (S4.isNew O get_size).f)
  | _=>exact h.elim))
noncomputable def pvQ:PV -> Option (List PV) | .lst l=>some l | .tup l=>some l | _=>none
noncomputable def dIv (d:DE):DI:=fun o fr G Q=>d o fr G fun a G=>oq (pvQ a) fun l=>Q l G
theorem New.on {R:Rn} {ow:List (List Addr)} {Φ:Fz} {a:Addr} (N:New R.X Φ ow a):∀ b ∈ [a],New R.X Φ ow b:=fun b hb=>one hb ▸ N
theorem nd1 {a:Addr}:[a].Nodup:=List.nodup_cons.mpr ⟨(fun h=>nomatch h),.nil⟩
theorem known {R:Rn} {fr:Fr} {ow:List (List Addr)} {τ:Tau} {p:PV} {v:Value} {own:Bool} (x:R.VR τ p v):∀ c ∈ ([(.v p,p,v)]:Cs),Held R.P τ.Φ ow c.1 c.2.2 /\ (∀ G,c.1.res fr G = some c.2.1) /\ (own = false -> R.VR τ c.2.1 c.2.2) :=
 fun c hc=>by cases List.mem_singleton.mp hc; exact ⟨x,fun zq=>rfl,fun zq=>x⟩
theorem I.val {e t:Expr} {d:DE} (ht:OkT t) (x:SE cx e d):SI cx e t (dIv d) :=
 fun R fr ow τ Q O S h=>(x R fr ow τ O S).use h fun a τ1 v h t1 S1 v1=>oq.el h fun l e h=>by
  have v1':=v1
  cases a with
  | lst l' =>
   cases e
   obtain ⟨b,vs,k,f,g⟩:=v1
   have f':=S1.core.frz _ _ f
   exact wpAny_pyIter_list (isListOf f') ⟨_,⟨τ1.G,τ1.Φ,{ τ1.s with heap:=_ }⟩,_,[τ1.h.objs.size],[(.v (.lst l),.lst l,.ref b)],_,h,t1.trans .heap,S1.push O _ _,⟨_,Heap.get?_push_size _ rfl,rfl,rfl⟩,src_list ht,nd1,(S1.isNew O get_size).on,known v1'⟩
  | tup l' =>
   cases e
   obtain ⟨b,vs,k,f,g⟩:=v1
   have f':=S1.core.frz _ _ f
   exact wpAny_pyIter_tuple (isTupleOf f') ⟨_,⟨τ1.G,τ1.Φ,{ τ1.s with heap:=_ }⟩,_,[τ1.h.objs.size],[(.v (.tup l),.tup l,.ref b)],_,h,t1.trans .heap,S1.push O _ _,⟨_,Heap.get?_push_size _ rfl,rfl,rfl⟩,src_tuple ht,nd1,(S1.isNew O get_size).on,known v1'⟩
  | _=>cases e
noncomputable def rangeP (n:Int):List PV:=(List.range n.toNat).map fun (i:Nat)=>.int (i:Int)
section
variable {P:PW} {Φ:Fz}
theorem call_range1 {A:Around} {E:Value -> Shared -> Prop} {s:Shared} {n:Int} {t:Tok} {Q:Value -> Shared -> Prop} (h:∀ h' tk,(∃ t1 t2,IsRange h' s.heap.objs.size 0 n 1 t1 t t2) -> (∀ b o,s.heap.get? b = some o -> h'.get? b = some o) -> Q (.ref s.heap.objs.size) { s with heap:=h',toks:=tk }) :
  wpAny P.M A (call (.type "range") [.int n t]) Q E s:=by
 refine callType_new F.called_range (by decide) (F.typeCall_range_1 _) (F.newCall_range_1 _) (fun obj=>F.initArgs_range_1 obj _) F.entry_range_new
  (AutoRange.range___new___type_int_0 n t (by rw [isSubtype_type]; kernel_rfl)) ?_
 exact ⟨⟨_,Heap.get?_push_size _ rfl,rfl⟩,h _ _ ⟨_,_,Heap.get?_push_size _ rfl⟩ fun b o e=>Heap.get?_push_of_some _ e⟩
theorem src_range {t:Expr} {I:Addr} {n:Int} (ht:OkT t):Src P Φ t I [I] (rangeP n) [] (fun i h=>IsRangeIter h I (i:Int) (n.toNat - i:Int) 1) where
 frame:=fun i h h' st k=>k I (.head _) _ st
 live:=fun i h st b hb=>one hb ▸ ⟨_,st⟩
 item:=fun A i p s Φ zq hh hp st hc hf Q E hQ=>by
  unfold rangeP at hp
  rw [List.getElem?_map] at hp
  obtain ⟨j,hj,e⟩:=Option.map_eq_some_iff.mp hp
  obtain ⟨hlt,hj⟩:=List.getElem?_eq_some_iff.mp hj
  rw [List.getElem_range] at hj
  subst hj; subst e
  rw [List.length_range] at hlt
  refine wpAny_pyNext_range_item st (Int.sub_pos.mpr (Int.ofNat_lt.mpr hlt)) fun h' hit' hs'=>?_
  refine letGo_plain (s:={ s with heap:=h',toks:=s.toks + 1 }) ht hit' rfl (by decide) ?_
  refine hQ _ h' (s.toks + 1) ?_ (fun b o hb e=>hs'.extBut b o (not_one hb) e) (.old _ _ ⟨_⟩)
  rw [Int.natCast_succ,<- Int.sub_sub]; exact hit'
 done:=fun A s Φ zq hh st hc zq Q E hQ=>by
  rw [show (rangeP n).length = n.toNat from (List.length_map ..).trans List.length_range] at st
  exact wpAny_pyNext_range_end hh st (Int.le_of_eq (Int.sub_self _)) fun h' he'=>hQ h' s.toks fun b o hb e=>he' b o (not_one hb) e
 self:=fun A i s Q E st hQ=>by
  have hT:s.TypeIs (.ref I) "range_iterator":=⟨_,st,rfl⟩
  refine wpAny_pyIter_slot hT F.slot_range_iterator_iter (wpAny_call_entry F.slot_range_iterator_iter hT F.entry_range_iterator_iter ?_ (F.args_range_iterator_iter_1 _))
  show wpAny _ _ (ret (.ref I)) _ _ s
  exact wpAny_pure ⟨_,rfl,"range_iterator",_,hT,F.slot_range_iterator_next.lookup,hQ⟩
end
end
section
variable {cx:Cx}
noncomputable def dRange (d:DE):DI:=fun o fr G Q=>d o fr G fun a G=>oq (pvI a) fun i=>bq (decide (i <= 1000000)) (bq (decide (-1000000 <= i)) (Q (rangeP i) G))
theorem range_size {i:Int}:Builtin.Range.rangeSize 0 i 1 = i.toNat:=by
 unfold Builtin.Range.rangeSize
 simp only [Int.sub_zero]
 split <;> first | omega | (split <;> omega) | (simp; omega)
theorem range_small {i:Int} (h1:i <= 1000000) (h2:-1000000 <= i):Builtin.Range.small 0 i 1 = true:=by
 unfold Builtin.Range.small
 rw [range_size]
 simp only [Builtin.Range.rangeFitsLong,Bool.and_eq_true,Bool.or_eq_true,decide_eq_true_eq,beq_iff_eq]
 simp
 omega
theorem I.range {np pos:Pos} {e t:Expr} {d:DE} {x:Str} (ht:OkT t) (hm:x ∈ cx.gl) (hx:okName x = true) (hg:∀ P K,cx.kp P K -> gv K x = some (fnV true "range")) (he:∀ env,starEach [e] env = [(false,eval e env)]) (y:SE cx e d) :
  SI cx (.Call (.Name x np) [e] [] pos) t (dRange d) :=
 fun R fr ow τ Q O S h=>call1 O S hm hx hg he (y R fr ow τ O S) h fun a τ1 v h t1 S1 v1=>pvI.el (C:=fun v=>wpAny R.M R.A (call (fnV true "range") [v]) (fun x s1=>wpAny R.M R.A (pyIter x) (Went R fr ow τ t false Q) (fun zq zq=>False) s1) (fun zq zq=>False) τ1.s) h v1 fun i tv h=>bq.el h fun g1 h=>bq.el h fun g2 h =>
  call_range1 fun h2 tk2 hr hk=>by
   obtain ⟨t1',t2,hr⟩:=hr
   have S2:St R fr ow ⟨τ1.G,τ1.Φ,{ τ1.s with heap:=h2,toks:=tk2 }⟩:=S1.keepAll hk
   refine wpAny_pyIter_range hr (range_small (of_decide_eq_true g1) (of_decide_eq_true g2)) ?_
   rw [range_size]
   exact ⟨_,⟨τ1.G,τ1.Φ,{ τ1.s with heap:=h2.push _,toks:=tk2 }⟩,_,[h2.objs.size],[],_,h,t1.trans .heap,S2.push O _ _,(by simpa using Heap.get?_push_size h2 rfl),src_range ht,nd1,(S2.isNew O get_size).on,fun c hc=>nomatch hc⟩
noncomputable def enumP:Nat -> List PV -> List PV
 | _,[]=>[]
 | i,p :: l=>.tup [.int (i:Int),p] :: enumP (i + 1) l
theorem enumP_len {l:List PV} {k:Nat}:(enumP k l).length = l.length:=by
 induction l generalizing k with
 | nil=>rfl
 | cons p l ih=>exact congrArg (fun q=>q + 1) ih
theorem enumP_get {l:List PV} {k i:Nat} {p:PV} (h:(enumP k l)[i]? = some p):∃ q,l[i]? = some q /\ p = .tup [.int ((k + i:Nat):Int),q]:=by
 induction l generalizing k i with
 | nil=>cases h
 | cons q l ih =>
  cases i with
  | zero=>cases h; exact ⟨q,rfl,rfl⟩
  | succ i=>obtain ⟨q',h1,h2⟩:=ih h; exact ⟨q',h1,by rw [h2,Nat.succ_add]; rfl⟩
section
variable {P:PW} {Φ:Fz}
theorem two_el {a b c:Addr} {C:Addr -> Prop} (h:c ∈ [a,b]) (x:C a) (y:C b):C c:=by
 cases h with
 | head=>exact x
 | tail _ h=>cases List.mem_singleton.mp h; exact y
theorem not_two {a b c:Addr} (h:c ∉ [a,b]):c ≠ a /\ c ≠ b:=⟨fun e=>h (e ▸ .head _),fun e=>h (e ▸ .tail _ (.head _))⟩
theorem enumNew {h0 h:Heap} {i:Nat} {k:Tok} {q:PV} {y:Value} {T:Addr} {n:Nat} (vy:VR P Φ q y) (e:h.get? T = some (tupO [.int (i:Int) k,y] n)) (e0:h0.get? T = none):ER P Φ h0 h (.tup [.int ((0 + i:Nat):Int),q]) (.ref T) :=
 .new T _ _ n (by rw [Nat.zero_add]; exact ⟨_,_,⟨_⟩,_,_,vy,⟨⟩⟩) e e0
theorem src_enumL {elts:List Expr} {x1} {tp:Pos} {e I ax:Addr} {l:List PV} (h1:e ≠ I) (h2:ax ≠ I) (h3:ax ≠ e):Src P Φ (.Tuple elts x1 tp) e [e,I] (enumP 0 l) [(.lst l,.ref ax)] (fun i h=>(∃ old,IsEnum h e I (i:Int) old) /\ h.IsListIter I ax i) where
 frame:=fun i h h' st k=>by
  obtain ⟨⟨old,he⟩,o,ho,r⟩:=st
  exact ⟨⟨old,k e (.head _) _ he⟩,o,k I (.tail _ (.head _)) o ho,r⟩
 live:=fun i h st b hb=>by
  obtain ⟨⟨old,he⟩,o,ho,r⟩:=st
  exact two_el (C:=fun b=>∃ o,h.get? b = some o) hb ⟨_,he⟩ ⟨_,ho⟩
 item:=fun A i p s Φ zq hh hp st hc hf Q E hQ=>by
  obtain ⟨⟨old,he⟩,hit⟩:=st
  obtain ⟨_,vs,n,f,hv⟩:=hc _ (.head _)
  obtain ⟨q,hq,rfl⟩:=enumP_get hp
  obtain ⟨y,hy,vy⟩:=hv.get hq
  have hlt:i < vs.toArray.size:=(List.getElem?_eq_some_iff.mp hy).1
  refine wpAny_pyNext_enum_itemD (Draws.list (A:=A.in1) hh I ax h2 vs.toArray) he ⟨hit,isListOf f⟩ hlt h1 (by simp [h1,h3.symm]) fun x h' tk hP ho st' hT hsz hk=>?_
  have hxy:x = y:=Option.some.inj ((List.getElem?_toArray ..).symm.trans hP |>.symm.trans hy)
  subst hxy
  refine wpAny_letOwnedTupleGo_enum ho fun h'' he'' hs''=>?_
  exact hQ (.ref s.heap.objs.size) h'' (tk + 1) ⟨⟨_,he''⟩,st'.1.extBut hs''.extBut h1.symm⟩ (fun b o hb e'=>hs''.extBut b o (not_two hb).1 (hk b o (not_two hb).1 (not_two hb).2 e')) (enumNew vy (hs''.extBut _ _ (Nat.ne_of_gt (Heap.lt_size he)) hT) get_size)
 done:=fun A s Φ zq hh st hc hf Q E hQ=>by
  obtain ⟨⟨old,he⟩,hit⟩:=st
  obtain ⟨_,vs,n,f,hv⟩:=hc _ (.head _)
  rw [enumP_len] at he hit
  exact wpAny_pyNext_enum_endD (Draws.list (A:=A.in1) hh I ax h2 vs.toArray) he ⟨by rw [List.size_toArray,hv.length]; exact hit,isListOf f⟩ fun h' he'=>hQ h' s.toks fun b o hb e=>he' b o (not_two hb).2 e
 self:=fun A i s Q E st hQ=>by
  obtain ⟨⟨old,he⟩,hit⟩:=st
  exact wpAny_pyIter_enum he hQ
theorem src_enumS {elts:List Expr} {x1} {tp:Pos} {e I:Addr} {x:Nm} {tt:Tok} (h1:e ≠ I):Src P Φ (.Tuple elts x1 tp) e [e,I] (enumP 0 (x.map fun c=>.str [c])) [] (fun i h=>(∃ old,IsEnum h e I (i:Int) old) /\ h.IsStrIter I "str_ascii_iterator" (toS x) tt i) where
 frame:=fun i h h' st k=>by
  obtain ⟨⟨old,he⟩,o,ho,r⟩:=st
  exact ⟨⟨old,k e (.head _) _ he⟩,o,k I (.tail _ (.head _)) o ho,r⟩
 live:=fun i h st b hb=>by
  obtain ⟨⟨old,he⟩,o,ho,r⟩:=st
  exact two_el (C:=fun b=>∃ o,h.get? b = some o) hb ⟨_,he⟩ ⟨_,ho⟩
 item:=fun A i p s Φ zq hh hp st hc hf Q E hQ=>by
  obtain ⟨⟨old,he⟩,hit⟩:=st
  obtain ⟨q,hq,rfl⟩:=enumP_get hp
  rw [List.getElem?_map] at hq
  obtain ⟨c,hc',rfl⟩:=Option.map_eq_some_iff.mp hq
  have hlt:i < (toS x).cps.size:=(List.getElem?_eq_some_iff.mp hc').1
  refine wpAny_pyNext_enum_itemD (Draws.strAscii (A:=A.in1) hh I (toS x) tt) he hit hlt h1 (by simp [h1]) fun x' h' tk hP ho st' hT hsz hk=>?_
  obtain ⟨c',u,hc2,rfl⟩:=hP
  have:c' = c:=Option.some.inj (((List.getElem?_toArray ..).symm.trans hc2).symm.trans hc')
  subst this
  refine wpAny_letOwnedTupleGo_enum ho fun h'' he'' hs''=>?_
  exact hQ (.ref s.heap.objs.size) h'' (tk + 1) ⟨⟨_,he''⟩,st'.extBut hs''.extBut h1.symm⟩ (fun b o hb e'=>hs''.extBut b o (not_two hb).1 (hk b o (not_two hb).1 (not_two hb).2 e')) (enumNew (q:=.str [c']) ⟨u⟩ (hs''.extBut _ _ (Nat.ne_of_gt (Heap.lt_size he)) hT) get_size)
 done:=fun A s Φ zq hh st hc hf Q E hQ=>by
  obtain ⟨⟨old,he⟩,hit⟩:=st
  rw [enumP_len,List.length_map] at he hit
  exact wpAny_pyNext_enum_endD (Draws.strAscii (A:=A.in1) hh I (toS x) tt) he hit fun h' he'=>hQ h' s.toks fun b o hb e=>he' b o (not_two hb).2 e
 self:=fun A i s Q E st hQ=>by
  obtain ⟨⟨old,he⟩,hit⟩:=st
  exact wpAny_pyIter_enum he hQ
end
end
section
variable {cx:Cx}
noncomputable def fEnum (a:PV) (Q:List PV -> Prop):Prop:=match a with
 | .lst l=>Q (enumP 0 l)
 | .str x=>bq (x.all fun c=>decide (c < 128)) (Q (enumP 0 (x.map fun c=>.str [c])))
 | _=>False
noncomputable def dEnum (d:DE):DI:=fun o fr G Q=>d o fr G fun a G=>fEnum a fun l=>Q l G
theorem get_size1 {h:Heap}:h.get? (h.objs.size + 1) = none:=not_some fun ⟨_,q⟩=>absurd (Heap.lt_size q) (Nat.not_lt.mpr (Nat.le_succ _))
theorem New.two {R:Rn} {ow:List (List Addr)} {Φ:Fz} {a b:Addr} (N:New R.X Φ ow a) (M:New R.X Φ ow b):∀ c ∈ [a,b],New R.X Φ ow c:=fun c hc=>two_el (C:=New R.X Φ ow) hc N M
theorem nd2 {a:Addr}:[a + 1,a].Nodup:=List.nodup_cons.mpr ⟨(fun h=>Nat.succ_ne_self a (one h)),nd1⟩
theorem I.enum {np pos:Pos} {e:Expr} {elts:List Expr} {x1} {tp:Pos} {d:DE} {x:Str} (hm:x ∈ cx.gl) (hx:okName x = true) (hg:∀ P K,cx.kp P K -> gv K x = some (fnV true "enumerate")) (he:∀ env,starEach [e] env = [(false,eval e env)]) (y:SE cx e d) :
  SI cx (.Call (.Name x np) [e] [] pos) (.Tuple elts x1 tp) (dEnum d) :=
 fun R fr ow τ Q O S h=>call1 O S hm hx hg he (y R fr ow τ O S) h fun a τ1 v h t1 S1 v1=>by
  have en:=S1.isNew O get_size
  have en2:=S1.isNew O get_size1
  cases a with
  | str x =>
   obtain ⟨tv⟩:=v1
   refine bq.el h fun ha h=>?_
   refine call_enumerate_str fun h2 he2 hi2 hsz hk=>?_
   have hty:strIterType (toS x) = "str_ascii_iterator":=by
    unfold strIterType; rw [if_pos]; simpa [toS] using ha
   rw [hty] at hi2
   exact wpAny_pyIter_enum he2 ⟨_,⟨τ1.G,τ1.Φ,{ τ1.s with heap:=h2 }⟩,_,[τ1.h.objs.size + 1,τ1.h.objs.size],[],_,h,t1.trans .heap,S1.keepAll hk,⟨⟨_,he2⟩,hi2⟩,src_enumS (tt:=tv) (Nat.succ_ne_self _),nd2,en2.two en,fun c hc=>nomatch hc⟩
  | lst l0 =>
   have v1':=v1
   obtain ⟨b,vs,k,f,g⟩:=v1
   have f':=S1.core.frz _ _ f
   have hb:=Heap.lt_size f'
   refine call_enumerate_list (isListOf f') fun h2 he2 hi2 hsz hk=>?_
   exact wpAny_pyIter_enum he2 ⟨_,⟨τ1.G,τ1.Φ,{ τ1.s with heap:=h2 }⟩,_,[τ1.h.objs.size + 1,τ1.h.objs.size],[(.v (.lst l0),.lst l0,.ref b)],_,h,t1.trans .heap,S1.keepAll hk,⟨⟨_,he2⟩,hi2⟩,src_enumL (Nat.succ_ne_self _) (Nat.ne_of_lt hb) (Nat.ne_of_lt (Nat.lt_succ_of_lt hb)),nd2,en2.two en,known v1'⟩
  | _=>exact h.elim
noncomputable def itemsP (l:List (Nm × PV)):List PV:=l.map fun e=>.tup [.str e.1,e.2]
section
variable {P:PW} {Φ:Fz}
theorem VRd.at {l:List (Nm × PV)} {kvs:List (Str × Value)} (x:VRd P Φ l kvs) {i:Nat} {en:Nm × PV} (h:l[i]? = some en):∃ v,kvs[i]? = some (toS en.1,v) /\ VR P Φ en.2 v:=by
 induction l generalizing kvs i with
 | nil=>cases h
 | cons e l ih =>
  obtain ⟨v,r,g,q⟩:=x
  cases i with
  | zero=>cases h; exact ⟨v,rfl,g⟩
  | succ i=>exact ih q h
theorem src_items {elts:List Expr} {x1} {tp:Pos} {I d:Addr} {l:List (Nm × PV)} {ob:Obj} {ep:Nat} {kvs:List (Str × Value)} (hv:VRd P Φ l kvs) (hob:Φ.fz d = some ob) (hdi:d ≠ I) (hda:∀ h:Heap,h.get? d = some ob -> h.DictAt P.sk d kvs ep) :
  Src P Φ (.Tuple elts x1 tp) I [I] (itemsP l) [] (fun i h=>∃ ok ov,IsItemIter h I d i kvs.length ep ok ov) where
 frame:=fun i h h' st k=>by obtain ⟨ok,ov,st⟩:=st; exact ⟨ok,ov,k I (.head _) _ st⟩
 live:=fun i h st b hb=>by obtain ⟨ok,ov,st⟩:=st; exact one hb ▸ ⟨_,st⟩
 item:=fun A i p s Φ2 hle hh hp' st hc hf Q E hQ=>by
  obtain ⟨ok,ov,st⟩:=st
  unfold itemsP at hp'
  rw [List.getElem?_map] at hp'
  obtain ⟨en,hen,rfl⟩:=Option.map_eq_some_iff.mp hp'
  obtain ⟨v,hv1,hv2⟩:=hv.at hen
  refine wpAny_pyNext_items_item (knd:=P.sk) st (hda _ (hf _ _ (hle.f _ _ hob))) hv1 fun key h' hkey hit hT hsz hk'=>?_
  refine wpAny_letOwnedTupleGo_items hit fun h'' he'' hs''=>?_
  obtain ⟨tk,rfl⟩:=Value.isStrOf_shape hkey
  exact hQ (.ref s.heap.objs.size) h'' s.toks ⟨_,_,he''⟩ (fun b o hb e'=>hs''.extBut b o (not_one hb) (hk' b o (not_one hb) e')) (.new s.heap.objs.size [.str en.1,en.2] [.str (toS en.1) tk,v] 0 ⟨_,_,⟨tk⟩,_,_,VR.mono hle _ _ hv2,⟨⟩⟩ (hs''.extBut _ _ (Nat.ne_of_gt (Heap.lt_size st)) hT) get_size)
 done:=fun A s Φ2 hle hh st hc hf Q E hQ=>by
  obtain ⟨ok,ov,st⟩:=st
  exact wpAny_pyNext_items_end (knd:=P.sk) hh st (hda _ (hf _ _ (hle.f _ _ hob))) (by simp [itemsP,hv.length]) fun h' he'=>hQ h' s.toks fun b o hb e=>he' b o (not_one hb) e
 self:=fun A i s Q E st hQ=>by
  obtain ⟨ok,ov,st⟩:=st
  exact kcp_self st hQ
end
noncomputable def pvD:PV -> Option (List (Nm × PV)) | .dct l=>some l | _=>none
noncomputable def dItems (d:DE):DI:=fun o fr G Q=>d o fr G fun a G=>oq (pvD a) fun l=>Q (itemsP l) G
theorem I.items {e:Expr} {elts:List Expr} {x1} {tp apos pos:Pos} {d:DE} (he:okCall e (Str.ofString "items") [] apos pos) (x:SE cx e d):SI cx (.Call (.Attribute e (Str.ofString "items") apos) [] [] pos) (.Tuple elts x1 tp) (dItems d) :=
 fun R fr ow τ Q O S h=>by
  obtain ⟨hb,pl,he⟩:=he R.X.env
  rw [he,hb]
  refine wpAny_bind ((x R fr ow τ O S).use h fun a τ1 v h t1 S1 v1=>wpAny_bind (wpAny_standAt (wpAny_bind (wpAny_holding (oq.el h fun l e h=>?_)))))
  cases a with
  | dct l =>
   cases e
   obtain ⟨d,ob,kvs,f,sm,dO,hv⟩:=v1
   have f':=S1.core.frz _ _ f
   have hdo:=dO.at f'
   refine getMethod_builtin hdo.typeIs F.plainAttrs_dict F.slot_dict_items F.type_dict_items hdo.mapOf.noDict ?_
   show wpAny _ _ (callWith pos (.builtin "dict.items") [.ref d] [] []) _ _ _
   refine method_meetsIn F.slot_dict_items F.entry_dict_items rfl (evalArgs_none ⟨rfl,hdo.typeIs,F.args_dict_items_1 _,_,meets_dict_items R.P.sk d sm,⟨kvs,hdo⟩,?_⟩)
   obtain ⟨hx,he,hn⟩:=dO
   obtain ⟨es,ep,hdt,hk,hp⟩:=he
   have S2:St R fr ow (τ1.ps { cls:=.type "dict_items",data:=.fields #[.ref d] }):=S1.push O _ _
   have da:∀ h:Heap,h.get? d = some ob -> h.DictAt R.P.sk d kvs ep:=fun h e=>⟨ob,es,e,hx,hdt,hk,hp,hn⟩
   have f2:=S2.core.frz _ _ f
   refine wpAny_pyIter_items (kvs:=kvs) (knd:=R.P.sk) (ep:=ep) ⟨_,Heap.get?_push_size _ rfl,rfl,rfl⟩ (da _ f2) ?_
   exact ⟨_,⟨τ1.G,τ1.Φ,{ τ1.s with heap:=(τ1.h.push { cls:=.type "dict_items",data:=.fields #[.ref d] }).push _ }⟩,_,[(τ1.h.push { cls:=.type "dict_items",data:=.fields #[.ref d] }).objs.size],[],_,h,t1.trans .heap,S2.push O _ _,⟨_,_,Heap.get?_push_size _ rfl⟩,src_items hv f (Nat.ne_of_lt (Heap.lt_size f2)) da,nd1,(S2.isNew O get_size).on,fun c hc=>nomatch hc⟩
  | _=>cases e
end
section
section
variable {P:PW} {h h':Heap}
noncomputable def SeqIt (h:Heap) (b:Bool) (I a:Addr) (i:Nat):Prop:=if b = true then h.IsListIter I a i else h.IsTupleIter I a i
noncomputable def SeqAtH (h:Heap) (b:Bool) (a:Addr) (vs:Array Value):Prop:=if b = true then h.IsList a vs else h.IsTuple a vs
theorem SeqIt.but {b:Bool} {I a c:Addr} {i:Nat} (x:SeqIt h b I a i) (hs:Heap.ExtBut c h h') (hne:I ≠ c):SeqIt h' b I a i:=by
 cases b
 ·obtain ⟨o,ho,r⟩:=x; exact ⟨o,hs _ _ hne ho,r⟩
 ·obtain ⟨o,ho,r⟩:=x; exact ⟨o,hs _ _ hne ho,r⟩
theorem SeqIt.to {b:Bool} {I a:Addr} {i:Nat} (x:SeqIt h b I a i) (k:∀ o,h.get? I = some o -> h'.get? I = some o):SeqIt h' b I a i:=by
 cases b
 ·obtain ⟨o,ho,r⟩:=x; exact ⟨o,k _ ho,r⟩
 ·obtain ⟨o,ho,r⟩:=x; exact ⟨o,k _ ho,r⟩
theorem SeqIt.live {b:Bool} {I a:Addr} {i:Nat} (x:SeqIt h b I a i):∃ o,h.get? I = some o:=by
 cases b
 ·obtain ⟨o,ho,_⟩:=x; exact ⟨o,ho⟩
 ·obtain ⟨o,ho,_⟩:=x; exact ⟨o,ho⟩
theorem SeqAtH.but {b:Bool} {a c:Addr} {vs:Array Value} (x:SeqAtH h b a vs) (hs:Heap.ExtBut c h h') (hne:a ≠ c):SeqAtH h' b a vs:=by
 cases b
 ·obtain ⟨o,ho,r⟩:=x; exact ⟨o,hs _ _ hne ho,r⟩
 ·obtain ⟨o,ho,r⟩:=x; exact ⟨o,hs _ _ hne ho,r⟩
theorem nextOf_tuple_item {A:Around} {E:Value -> Shared -> Prop} {s:Shared} {it t:Addr} {i:Nat} {items:Array Value} {x:Value} {Q:Value -> Shared -> Prop} (hit:s.heap.IsTupleIter it t i) (ht:s.heap.IsTuple t items) (hx:items[i]? = some x)
  (hQ:∀ h',h'.IsTupleIter it t (i + 1) -> Heap.SameBut it s.heap h' -> Q x { s with heap:=h' }):wpAny (P.M) A (Builtin.SmallTypes.nextOf (.ref it)) Q E s:=by
 obtain ⟨o,ho,hc,hd⟩:=id hit
 obtain ⟨ol,hol,_,nl,hdl⟩:=ht
 unfold Builtin.SmallTypes.nextOf
 refine wpAny_bind (wpAny_callSpecial?_slot (name:=Str.ofString "__next__") hit.typeIs F.slot_tuple_iterator_next (wpAny_call_entry F.slot_tuple_iterator_next hit.typeIs F.entry_tuple_iterator_next ?_ (F.args_tuple_iterator_next_1 _)))
 show wpAny _ _ (field (.ref it) 0 >>= _) _ _ s
 refine wpAny_bind (wpAny_field ho hd (x:=.ref t) rfl ?_)
 rw [if_neg (show ¬ ((Value.ref t == Value.none) = true) from Bool.false_ne_true)]
 refine wpAny_bind (wpAny_field ho hd (x:=.int i 0) rfl ?_)
 refine wpAny_bind (wpAny_seqItems hol hdl ?_)
 simp only [Int.toNat_natCast,hx]
 refine wpAny_bind (wpAny_setField ho hd (by simp) (wpAny_pure ⟨x,rfl,wpAny_pure (hQ _ ?_ (Heap.SameBut.update ..))⟩))
 exact ⟨_,Heap.get?_update_self _ ho (Obj.isFreed_of_fields (Obj.data_mapFields hd _)),(Obj.cls_mapFields ..).trans hc,by rw [Obj.data_mapFields hd]; simp [rawInt]⟩
theorem nextOf_tuple_end {A:Around} {E:Value -> Shared -> Prop} {s:Shared} {it t:Addr} {i:Nat} {items:Array Value} {Q:Value -> Shared -> Prop} (hh:A.handled = none) (hit:s.heap.IsTupleIter it t i) (ht:s.heap.IsTuple t items) (hx:items[i]? = none)
  (hE:∀ h' e,Heap.ExtBut it s.heap h' -> (∃ o,h'.get? e = some o /\ o.cls = .type "StopIteration") -> E (.ref e) { s with heap:=h' }):wpAny (P.M) A (Builtin.SmallTypes.nextOf (.ref it)) Q E s:=by
 obtain ⟨o,ho,hc,hd⟩:=id hit
 obtain ⟨ol,hol,_,nl,hdl⟩:=ht
 unfold Builtin.SmallTypes.nextOf
 refine wpAny_bind (wpAny_callSpecial?_slot (name:=Str.ofString "__next__") hit.typeIs F.slot_tuple_iterator_next (wpAny_call_entry F.slot_tuple_iterator_next hit.typeIs F.entry_tuple_iterator_next ?_ (F.args_tuple_iterator_next_1 _)))
 show wpAny _ _ (field (.ref it) 0 >>= _) _ _ s
 refine wpAny_bind (wpAny_field ho hd (x:=.ref t) rfl ?_)
 rw [if_neg (show ¬ ((Value.ref t == Value.none) = true) from Bool.false_ne_true)]
 refine wpAny_bind (wpAny_field ho hd (x:=.int i 0) rfl ?_)
 refine wpAny_bind (wpAny_seqItems hol hdl ?_)
 simp only [Int.toNat_natCast,hx]
 refine wpAny_bind (wpAny_rule (wpAny_bind (wpAny_setField ho hd (by simp) ?_)))
 show wpAny _ _ (newExc (.type "StopIteration") [] >>= _) _ _ _
 refine wpAny_bind ?_
 simp only [newExc,newTuple]
 refine wpAny_bind (wpAny_newObj_type ?_ (by size_fits))
 refine wpAny_bind (m:=firstArgMember _ _) (wpAny_of_eq (a:=Value.none) (by first | rfl | (simp only [firstArgMember]; rfl)) ?_)
 refine wpAny_newObj_type ?_ (by size_fits)
 simp only [raiseNew]
 refine wpAny_bind (wpAny_handled ?_)
 first | rw [show A.in1.handled = none from hh] | rw [hh]
 refine wpAny_bind (wpAny_pure (wpAny_throw ?_))
 exact hE _ _ (((Heap.SameBut.update ..).extBut.push _).push _) ⟨_,Heap.get?_push_size _ rfl,rfl⟩
theorem nextOf_item {A:Around} {E:Value -> Shared -> Prop} {s:Shared} {b:Bool} {it t:Addr} {i:Nat} {items:Array Value} {x:Value} {Q:Value -> Shared -> Prop} (hit:SeqIt s.heap b it t i) (ht:SeqAtH s.heap b t items) (hx:items[i]? = some x)
  (hQ:∀ h',SeqIt h' b it t (i + 1) -> Heap.SameBut it s.heap h' -> Q x { s with heap:=h' }):wpAny (P.M) A (Builtin.SmallTypes.nextOf (.ref it)) Q E s:=by
 cases b
 ·exact nextOf_tuple_item hit ht hx hQ
 ·exact wpAny_nextOf_list_item hit ht hx hQ
theorem nextOf_end {A:Around} {E:Value -> Shared -> Prop} {s:Shared} {b:Bool} {it t:Addr} {i:Nat} {items:Array Value} {Q:Value -> Shared -> Prop} (hh:A.handled = none) (hit:SeqIt s.heap b it t i) (ht:SeqAtH s.heap b t items) (hx:items[i]? = none)
  (hE:∀ h' e,Heap.ExtBut it s.heap h' -> (∃ o,h'.get? e = some o /\ o.cls = .type "StopIteration") -> E (.ref e) { s with heap:=h' }):wpAny (P.M) A (Builtin.SmallTypes.nextOf (.ref it)) Q E s:=by
 cases b
 ·exact nextOf_tuple_end hh hit ht hx hE
 ·exact wpAny_nextOf_list_end hh hit ht hx hE
structure ZipAp (z TI TO i1 i2 l1 l2:Addr):Prop where
 TIz:TI ≠ z
 TOz:TO ≠ z
 i1z:i1 ≠ z
 i2z:i2 ≠ z
 TITO:TI ≠ TO
 TIi1:TI ≠ i1
 TIi2:TI ≠ i2
 TOi1:TO ≠ i1
 TOi2:TO ≠ i2
 i12:i1 ≠ i2
 l1z:l1 ≠ z
 l1TO:l1 ≠ TO
 l1i1:l1 ≠ i1
 l1i2:l1 ≠ i2
 l2z:l2 ≠ z
 l2TO:l2 ≠ TO
 l2i1:l2 ≠ i1
 l2i2:l2 ≠ i2
structure ZipSt (h:Heap) (z TI TO i1 i2:Addr) (f0:Value) (b1 b2:Bool) (l1 l2:Addr) (k1 k2:Nat):Prop where
 z:IsZip h z TI TO f0
 ti:IsPair h TI (.ref i1) (.ref i2)
 to:∃ a b,IsPair h TO a b
 i1:SeqIt h b1 i1 l1 k1
 i2:SeqIt h b2 i2 l2 k2
theorem zip_draw {A:Around} {E:Value -> Shared -> Prop} {s:Shared} {z TI TO i1 i2 l1 l2:Addr} {b1 b2:Bool} {k:Nat} {xs ys:Array Value} {Q:Value -> Shared -> Prop} (hh:A.handled = none) (D:ZipAp z TI TO i1 i2 l1 l2) (Z:ZipSt s.heap z TI TO i1 i2 .none b1 b2 l1 l2 k k)
  (hl1:SeqAtH s.heap b1 l1 xs) (hl2:SeqAtH s.heap b2 l2 ys)
  (hQ:∀ x y h',xs[k]? = some x -> ys[k]? = some y -> ZipSt h' z TI TO i1 i2 (rawInt s.heap.objs.size) b1 b2 l1 l2 (k + 1) (k + 1) -> IsPair h' s.heap.objs.size x y ->
   (∀ c o,c ≠ z -> c ≠ TO -> c ≠ i1 -> c ≠ i2 -> s.heap.get? c = some o -> h'.get? c = some o) -> Q (.ref s.heap.objs.size) { s with heap:=h' })
  (hE:∀ h' e,xs[k]? = none \/ ys[k]? = none -> (∀ c o,c ≠ z -> c ≠ TO -> c ≠ i1 -> c ≠ i2 -> s.heap.get? c = some o -> h'.get? c = some o) -> (∃ o,h'.get? e = some o /\ o.cls = .type "StopIteration") -> E (.ref e) { s with heap:=h' }) :
  wpAny (P.M) A (Builtin.«zip.__next__» ⟨[.ref z],[]⟩) (fun fin s'=>∃ v,fin = .done (.ret v) /\ Q v s') E s:=by
 obtain ⟨hz,hTI,⟨a,b,hTO⟩,h1,h2⟩:=Z
 show wpAny _ _ (field (.ref z) 2 >>= _) _ _ _
 refine wpAny_bind (wpAny_field hz rfl (x:=.bool false) rfl ?_)
 refine wpAny_bind (wpAny_field hz rfl (x:=.ref TI) rfl ?_)
 refine wpAny_bind (wpAny_seqItems hTI rfl ?_)
 show wpAny _ _ (Builtin.SmallTypes.ownedTupleIsFree (.ref z) >>= _) _ _ _
 refine wpAny_bind ?_
 unfold Builtin.SmallTypes.ownedTupleIsFree
 refine wpAny_bind (wpAny_field hz rfl (x:=.none) rfl (wpAny_pure ?_))
 simp only [if_true]
 refine wpAny_bind (wpAny_rule ?_)
 refine wpAny_bind (wpAny_field hz rfl (x:=.ref TO) rfl ?_)
 refine wpAny_bind (wpAny_setField_rec hz (by simp) fun g1 z1 s1=>?_)
 replace z1:IsZip g1 z TI TO .ellipsis:=z1
 refine wpAny_bind ?_
 simp only [List.zipIdx_cons,List.zipIdx_nil,List.forIn_cons,List.forIn_nil]
 refine wpAny_bind (wpAny_bind (wpAny_onRaise ?_))
 show wpAny _ _ (Builtin.SmallTypes.nextOf (.ref i1) >>= _) _ _ _
 have z1i1:=h1.but s1.extBut D.i1z
 have z1l1:=hl1.but s1.extBut D.l1z
 cases hx:xs[k]? with
 | none =>
  refine wpAny_bind (nextOf_end (s:={ s with heap:=g1 }) hh z1i1 z1l1 hx fun g2 e s2 he=>?_)
  obtain ⟨oe,hoe,hce⟩:=he
  have z2:IsZip g2 z TI TO .ellipsis:=s2 _ _ D.i1z.symm z1
  have hez:e ≠ z:=fun q=>by subst q; rw [z2] at hoe; cases hoe; simp at hce
  refine wpAny_setField_rec z2 (by simp) fun g3 zq s3=>hE g3 e (.inl hx) (fun c o c1 zq c3 zq q=>s3.extBut _ _ c1 (s2 _ _ c3 (s1.extBut _ _ c1 q))) ⟨oe,s3.extBut _ _ hez hoe,hce⟩
 | some x =>
  refine wpAny_bind (nextOf_item (s:={ s with heap:=g1 }) z1i1 z1l1 hx fun g2 h1' s2=>wpAny_pure ?_)
  have t2:IsPair g2 TO a b:=s2.extBut _ _ D.TOi1 (s1.extBut _ _ D.TOz hTO)
  refine wpAny_bind (wpAny_seqItems t2 rfl ?_)
  refine wpAny_bind (wpAny_updateSeq_pair t2 fun g3 t3 s3=>?_)
  replace t3:IsPair g3 TO x b:=t3
  refine wpAny_bind (wpAny_letGo (wpAny_pure ?_))
  refine wpAny_bind (wpAny_bind (wpAny_onRaise ?_))
  show wpAny _ _ (Builtin.SmallTypes.nextOf (.ref i2) >>= _) _ _ _
  have u3:=((h2.but s1.extBut D.i2z).but s2.extBut D.i12.symm).but s3.extBut D.TOi2.symm
  have v3:=((hl2.but s1.extBut D.l2z).but s2.extBut D.l2i1).but s3.extBut D.l2TO
  have z3:IsZip g3 z TI TO .ellipsis:=s3.extBut _ _ D.TOz.symm (s2.extBut _ _ D.i1z.symm z1)
  cases hy:ys[k]? with
  | none =>
   refine wpAny_bind (nextOf_end (s:={ s with heap:=g3 }) hh u3 v3 hy fun g4 e s4 he=>?_)
   obtain ⟨oe,hoe,hce⟩:=he
   have z4:IsZip g4 z TI TO .ellipsis:=s4 _ _ D.i2z.symm z3
   have hez:e ≠ z:=fun q=>by subst q; rw [z4] at hoe; cases hoe; simp at hce
   refine wpAny_setField_rec z4 (by simp) fun g5 zq s5=>hE g5 e (.inr hy) (fun c o c1 c2 c3 c4 q=>s5.extBut _ _ c1 (s4 _ _ c4 (s3.extBut _ _ c2 (s2.extBut _ _ c3 (s1.extBut _ _ c1 q))))) ⟨oe,s5.extBut _ _ hez hoe,hce⟩
  | some y =>
   refine wpAny_bind (nextOf_item (s:={ s with heap:=g3 }) u3 v3 hy fun g4 h2' s4=>wpAny_pure ?_)
   have t4:IsPair g4 TO x b:=s4.extBut _ _ D.TOi2 t3
   refine wpAny_bind (wpAny_seqItems t4 rfl ?_)
   refine wpAny_bind (wpAny_updateSeq_pair t4 fun g5 t5 s5=>?_)
   replace t5:IsPair g5 TO x y:=t5
   refine wpAny_bind (wpAny_letGo (wpAny_pure (wpAny_pure ?_)))
   refine wpAny_bind (wpAny_seqItems t5 rfl ?_)
   refine wpAny_bind (wpAny_newTuple ?_)
   have hsz:g5.objs.size = s.heap.objs.size:=by rw [s5.1,s4.1,s3.1,s2.1,s1.1]
   have z5:IsZip g5 z TI TO .ellipsis:=s5.extBut _ _ D.TOz.symm (s4.extBut _ _ D.i2z.symm z3)
   have k5:∀ c o,c ≠ z -> c ≠ TO -> c ≠ i1 -> c ≠ i2 -> s.heap.get? c = some o -> g5.get? c = some o:=fun c o c1 c2 c3 c4 e =>
    s5.extBut _ _ c2 (s4.extBut _ _ c4 (s3.extBut _ _ c2 (s2.extBut _ _ c3 (s1.extBut _ _ c1 e))))
   have a5:=((h1'.but s3.extBut D.TOi1.symm).but s4.extBut D.i12).but s5.extBut D.TOi1.symm
   have b5:=h2'.but s5.extBut D.TOi2.symm
   have ti5:IsPair g5 TI (.ref i1) (.ref i2):=k5 _ _ D.TIz D.TITO D.TIi1 D.TIi2 hTI
   have hzlt:z < g5.objs.size:=Heap.lt_size z5
   show wpAny _ _ (Builtin.SmallTypes.ownedTupleHandOut (.ref z) (.ref g5.objs.size) >>= _) _ _ _
   refine wpAny_bind ?_
   unfold Builtin.SmallTypes.ownedTupleHandOut
   have z6:IsZip (g5.push { cls:=.type "tuple",data:=.seq #[x,y] }) z TI TO .ellipsis:=Heap.get?_push_of_some _ z5
   refine wpAny_bind (wpAny_setField_rec z6 (by simp) fun g7 z7 s7=>?_)
   replace z7:IsZip g7 z TI TO (rawInt g5.objs.size):=z7
   refine wpAny_setField_rec z7 (by simp) fun g8 z8 s8=>?_
   replace z8:IsZip g8 z TI TO (rawInt g5.objs.size):=z8
   have up:∀ c o,c ≠ z -> g5.get? c = some o -> g8.get? c = some o:=fun c o c1 e=>s8.extBut _ _ c1 (s7.extBut _ _ c1 (Heap.get?_push_of_some _ e))
   have tn:IsPair g8 g5.objs.size x y:=s8.extBut _ _ (Nat.ne_of_gt hzlt) (s7.extBut _ _ (Nat.ne_of_gt hzlt) (Heap.get?_push_size _ rfl))
   rw [hsz] at z8 tn
   refine wpAny_pure ⟨_,rfl,?_⟩
   show Q (.ref g5.objs.size) _
   rw [hsz]
   exact hQ x y g8 hx hy ⟨z8,up _ _ D.TIz ti5,⟨x,y,up _ _ D.TOz t5⟩,a5.to fun o e=>up _ o D.i1z e,b5.to fun o e=>up _ o D.i2z e⟩ tn fun c o c1 c2 c3 c4 e=>up c o c1 (k5 c o c1 c2 c3 c4 e)
end
end
section
section
variable {P:PW} {Φ:Fz} {h h':Heap}
noncomputable def itTy (b:Bool):String:=if b = true then "list_iterator" else "tuple_iterator"
noncomputable def itO (b:Bool) (l:Addr):Obj:={ cls:=.type (itTy b),data:=.fields #[.ref l,.int 0 0] }
theorem pyIter_seq {prog:Program} {w:World} {A:Around} {E:Value -> Shared -> Prop} {s:Shared} {b:Bool} {l:Addr} {xs:Array Value} {Q:Value -> Shared -> Prop} (hl:SeqAtH s.heap b l xs) (hQ:Q (.ref s.heap.objs.size) { s with heap:=s.heap.push (itO b l) }):wpAny (model prog w) A (pyIter (.ref l)) Q E s:=by
 cases b
 ·exact wpAny_pyIter_tuple hl hQ
 ·exact wpAny_pyIter_list hl hQ
theorem SeqAtH.push {b:Bool} {a:Addr} {xs:Array Value} (x:SeqAtH h b a xs) (o:Obj):SeqAtH (h.push o) b a xs:=by
 cases b
 ·obtain ⟨o',ho,r⟩:=x; exact ⟨o',Heap.get?_push_of_some _ ho,r⟩
 ·obtain ⟨o',ho,r⟩:=x; exact ⟨o',Heap.get?_push_of_some _ ho,r⟩
noncomputable abbrev zH (b1 b2:Bool) (h:Heap) (l1 l2:Addr):Heap:=(((((h.push (itO b1 l1)).push (itO b2 l2)).push { cls:=.type "tuple",data:=.seq #[.ref h.objs.size,.ref (h.push (itO b1 l1)).objs.size] }).push { cls:=.type "tuple",data:=.seq #[.none,.none] }).push
 { cls:=.type "zip",data:=.fields #[.none,.bool false,.bool false,.ref ((h.push (itO b1 l1)).push (itO b2 l2)).objs.size,.ref (((h.push (itO b1 l1)).push (itO b2 l2)).push { cls:=.type "tuple",data:=.seq #[.ref h.objs.size,.ref (h.push (itO b1 l1)).objs.size] }).objs.size] })
theorem zip_new (b1 b2:Bool) (l1 l2:Addr) (xs ys:Array Value) :
  Meets (Builtin.«zip.__new__» ⟨[.type "zip",.ref l1,.ref l2],[]⟩) (fun zq R s=>SeqAtH s.heap b1 l1 xs /\ SeqAtH s.heap b2 l2 ys /\
   R (.ok (.ret (.ref ((((s.heap.push (itO b1 l1)).push (itO b2 l2)).push { cls:=.type "tuple",data:=.seq #[.ref s.heap.objs.size,.ref (s.heap.push (itO b1 l1)).objs.size] }).push { cls:=.type "tuple",data:=.seq #[.none,.none] }).objs.size))) { s with heap:=zH b1 b2 s.heap l1 l2 }) :=
 .of_wp fun prog w A R s h=>by
  obtain ⟨hp,g,d,tk,os⟩:=s; obtain ⟨hl1,hl2,h⟩:=h
  have hsub:=sub_zip
  have hL1:SeqAtH (Shared.heap ⟨hp,g,d,tk,os⟩) b1 l1 xs:=hl1
  have hL2:SeqAtH (Shared.heap ⟨hp.push (itO b1 l1),g,d,tk,os⟩) b2 l2 ys:=SeqAtH.push hl2 _
  wp_walk using pyIter_seq hL1,pyIter_seq hL2
  exact ⟨_,rfl,h⟩
theorem call_zip {A:Around} {E:Value -> Shared -> Prop} {s:Shared} {b1 b2:Bool} {l1 l2:Addr} {xs ys:Array Value} {Q:Value -> Shared -> Prop} (hl1:SeqAtH s.heap b1 l1 xs) (hl2:SeqAtH s.heap b2 l2 ys)
  (h:∀ h',ZipSt h' (s.heap.objs.size + 4) (s.heap.objs.size + 2) (s.heap.objs.size + 3) s.heap.objs.size (s.heap.objs.size + 1) .none b1 b2 l1 l2 0 0 ->
   (∀ c o,s.heap.get? c = some o -> h'.get? c = some o) -> Q (.ref (s.heap.objs.size + 4)) { s with heap:=h' }) :
  wpAny P.M A (call (.type "zip") [.ref l1,.ref l2]) Q E s:=by
 refine callType_new F.called_zip (by decide) (F.typeCall_zip_2 _ _) (F.newCall_zip_2 _ _) (fun obj=>F.args_object_init_3 obj _ _) F.entry_zip_new (zip_new b1 b2 l1 l2 xs ys) ⟨hl1,hl2,?_⟩
 have z1:(s.heap.push (itO b1 l1)).objs.size = s.heap.objs.size + 1:=Heap.size_push ..
 have z2:((s.heap.push (itO b1 l1)).push (itO b2 l2)).objs.size = s.heap.objs.size + 2:=by rw [Heap.size_push,z1]
 have z3:(((s.heap.push (itO b1 l1)).push (itO b2 l2)).push { cls:=.type "tuple",data:=.seq #[.ref s.heap.objs.size,.ref (s.heap.push (itO b1 l1)).objs.size] }).objs.size = s.heap.objs.size + 3:=by rw [Heap.size_push,z2]
 have z4:((((s.heap.push (itO b1 l1)).push (itO b2 l2)).push { cls:=.type "tuple",data:=.seq #[.ref s.heap.objs.size,.ref (s.heap.push (itO b1 l1)).objs.size] }).push { cls:=.type "tuple",data:=.seq #[.none,.none] }).objs.size = s.heap.objs.size + 4:=by rw [Heap.size_push,z3]
 have g5:(zH b1 b2 s.heap l1 l2).get? ((((s.heap.push (itO b1 l1)).push (itO b2 l2)).push { cls:=.type "tuple",data:=.seq #[.ref s.heap.objs.size,.ref (s.heap.push (itO b1 l1)).objs.size] }).push { cls:=.type "tuple",data:=.seq #[.none,.none] }).objs.size = some _:=Heap.get?_push_size _ rfl
 have g4:(zH b1 b2 s.heap l1 l2).get? (((s.heap.push (itO b1 l1)).push (itO b2 l2)).push { cls:=.type "tuple",data:=.seq #[.ref s.heap.objs.size,.ref (s.heap.push (itO b1 l1)).objs.size] }).objs.size = some _:=Heap.get?_push_of_some _ (Heap.get?_push_size _ rfl)
 have g3:(zH b1 b2 s.heap l1 l2).get? ((s.heap.push (itO b1 l1)).push (itO b2 l2)).objs.size = some _:=Heap.get?_push_of_some _ (Heap.get?_push_of_some _ (Heap.get?_push_size _ rfl))
 have g2:(zH b1 b2 s.heap l1 l2).get? (s.heap.push (itO b1 l1)).objs.size = some (itO b2 l2):=Heap.get?_push_of_some _ (Heap.get?_push_of_some _ (Heap.get?_push_of_some _ (Heap.get?_push_size _ (by cases b2 <;> rfl))))
 have g1:(zH b1 b2 s.heap l1 l2).get? s.heap.objs.size = some (itO b1 l1):=Heap.get?_push_of_some _ (Heap.get?_push_of_some _ (Heap.get?_push_of_some _ (Heap.get?_push_of_some _ (Heap.get?_push_size _ (by cases b1 <;> rfl)))))
 rw [z2,z3] at g5
 rw [z1,z2] at g3
 rw [z3] at g4
 rw [z1] at g2
 rw [z4]
 have it1:SeqIt (zH b1 b2 s.heap l1 l2) b1 s.heap.objs.size l1 0:=by cases b1 <;> exact ⟨_,g1,rfl,rfl⟩
 have it2:SeqIt (zH b1 b2 s.heap l1 l2) b2 (s.heap.objs.size + 1) l2 0:=by cases b2 <;> exact ⟨_,g2,rfl,rfl⟩
 rw [z4] at g5
 exact ⟨⟨_,g5,rfl⟩,h _ ⟨g5,g3,⟨_,_,g4⟩,it1,it2⟩ fun c o x=>Heap.get?_push_of_some _ (Heap.get?_push_of_some _ (Heap.get?_push_of_some _ (Heap.get?_push_of_some _ (Heap.get?_push_of_some _ x))))⟩
noncomputable def zipP:List PV -> List PV -> List PV
 | [],_=>[]
 | p :: l,m=>match m with | []=>[] | q :: m=>.tup [p,q] :: zipP l m
theorem ZipAp.of {N a1 a2:Nat} (b1:a1 < N) (b2:a2 < N):ZipAp (N + 4) (N + 2) (N + 3) N (N + 1) a1 a2:=by
 constructor <;> (intro e; have e:(_:Nat) = _:=e; omega)
theorem zipP_none {l m:List PV} (h:l[(zipP l m).length]? ≠ none) (h2:m[(zipP l m).length]? ≠ none):False:=by
 induction l generalizing m with
 | nil=>exact h rfl
 | cons p l ih=>cases m with | nil=>exact h2 rfl | cons q m=>exact ih h h2
theorem zipP_get {l m:List PV} {i:Nat} {p:PV} (h:(zipP l m)[i]? = some p):∃ a b,l[i]? = some a /\ m[i]? = some b /\ p = .tup [a,b]:=by
 induction l generalizing m i with
 | nil=>cases h
 | cons a l ih =>
  cases m with
  | nil=>cases h
  | cons b m=>cases i with | zero=>cases h; exact ⟨a,b,rfl,rfl,rfl⟩ | succ i=>exact ih h
noncomputable def seqP (b:Bool) (l:List PV):PV:=match b with | true=>.lst l | false=>.tup l
theorem HR.seq {b:Bool} {l:List PV} {a:Addr} (x:HR P h Φ (seqP b l) (.ref a)):∃ vs,SeqAtH h b a vs.toArray /\ VRs P Φ l vs:=by
 cases b
 ·obtain ⟨_,vs,n,e,g⟩:=x; exact ⟨vs,isTupleOf e,g⟩
 ·obtain ⟨_,vs,n,e,g⟩:=x; exact ⟨vs,isListOf e,g⟩
theorem VRs.getA {l:List PV} {vs:List Value} {i:Nat} {p:PV} {x:Value} (v:VRs P Φ l vs) (h:l[i]? = some p) (e:vs.toArray[i]? = some x):VR P Φ p x:=by
 obtain ⟨y,hy,z⟩:=v.get h
 exact Option.some.inj (hy.symm.trans ((List.getElem?_toArray ..).symm.trans e)) ▸ z
theorem VRs.noneA {l:List PV} {vs:List Value} {i:Nat} (v:VRs P Φ l vs) (e:vs.toArray[i]? = none):l[i]? = none:=by
 refine List.getElem?_eq_none_iff.mpr ?_
 have:=List.getElem?_eq_none_iff.mp ((List.getElem?_toArray ..).symm.trans e)
 rw [<- v.length]; exact this
theorem VRs.someA {l:List PV} {vs:List Value} {i:Nat} {x:Value} (v:VRs P Φ l vs) (e:vs.toArray[i]? = some x):l[i]? ≠ none:=fun q=>by
 have:=List.getElem?_eq_none_iff.mp q
 rw [<- v.length] at this
 exact nomatch (List.getElem?_eq_none_iff.mpr this).symm.trans ((List.getElem?_toArray ..).symm.trans e)
theorem five {C:Addr -> Prop} {a b c d e x:Addr} (h:x ∈ [a,b,c,d,e]) (h1:C a) (h2:C b) (h3:C c) (h4:C d) (h5:C e):C x:=by
 rcases List.mem_cons.mp h with rfl | h
 ·exact h1
 rcases List.mem_cons.mp h with rfl | h
 ·exact h2
 rcases List.mem_cons.mp h with rfl | h
 ·exact h3
 exact two_el (C:=C) h h4 h5
structure Ne4 (z TI TO i1 i2 c:Addr):Prop where
 z:c ≠ z
 to:c ≠ TO
 i1:c ≠ i1
 i2:c ≠ i2
theorem ne4 {z TI TO i1 i2 c:Addr} (h:c ∉ [z,TI,TO,i1,i2]):Ne4 z TI TO i1 i2 c :=
 ⟨fun e=>h (e ▸ .head _),fun e=>h (e ▸ .tail _ (.tail _ (.head _))),fun e=>h (e ▸ .tail _ (.tail _ (.tail _ (.head _)))),fun e=>h (e ▸ .tail _ (.tail _ (.tail _ (.tail _ (.head _)))))⟩
theorem src_zip {elts:List Expr} {x1} {tp:Pos} {z TI TO i1 i2 a1 a2:Addr} {b1 b2:Bool} {l m:List PV} (D:ZipAp z TI TO i1 i2 a1 a2) :
  Src P Φ (.Tuple elts x1 tp) z [z,TI,TO,i1,i2] (zipP l m) [(seqP b1 l,.ref a1),(seqP b2 m,.ref a2)] (fun i h=>ZipSt h z TI TO i1 i2 .none b1 b2 a1 a2 i i) where
 frame:=fun i h h' st k=>⟨k _ (.head _) _ st.z,k _ (.tail _ (.head _)) _ st.ti,by obtain ⟨a,b,e⟩:=st.to; exact ⟨a,b,k _ (.tail _ (.tail _ (.head _))) _ e⟩,st.i1.to fun o e=>k _ (.tail _ (.tail _ (.tail _ (.head _)))) o e,st.i2.to fun o e=>k _ (.tail _ (.tail _ (.tail _ (.tail _ (.head _))))) o e⟩
 live:=fun i h st b hb=>by
  obtain ⟨a,b',e⟩:=st.to
  exact five (C:=fun b=>∃ o,h.get? b = some o) hb ⟨_,st.z⟩ ⟨_,st.ti⟩ ⟨_,e⟩ st.i1.live st.i2.live
 item:=fun A i p s Φ zq hh hp st hc hf Q E hQ=>by
  obtain ⟨vs,hl1,hv1⟩:=HR.seq (hc _ (.head _))
  obtain ⟨us,hl2,hv2⟩:=HR.seq (hc _ (.tail _ (.head _)))
  obtain ⟨a,b,ha,hb,rfl⟩:=zipP_get hp
  have hT:s.TypeIs (.ref z) "zip":=⟨_,st.z,rfl⟩
  unfold pyNext
  refine wpAny_bind (wpAny_attempt (wpAny_callSpecial?_slot (name:=Str.ofString "__next__") hT F.slot_zip_next
   (wpAny_call_entry F.slot_zip_next hT F.entry_zip_next (zip_draw (A:=A.in1) hh D st hl1 hl2 (fun x y h' hx hy Z hT' hk=>wpAny_pure ?_) fun h' e hn zq zq=>?_) (F.args_zip_next_1 _))))
  ·refine wpAny_letOwnedTupleGo_zip Z.z fun h'' hz'' hs''=>?_
   exact hQ (.ref s.heap.objs.size) h'' s.toks ⟨hz'',hs''.extBut _ _ D.TIz Z.ti,by obtain ⟨a,b,e⟩:=Z.to; exact ⟨a,b,hs''.extBut _ _ D.TOz e⟩,Z.i1.but hs''.extBut D.i1z,Z.i2.but hs''.extBut D.i2z⟩
    (fun c o hc' e'=>have n:=ne4 hc'; hs''.extBut c o n.z (hk c o n.z n.to n.i1 n.i2 e'))
    (.new s.heap.objs.size [a,b] [x,y] 0 ⟨_,_,hv1.getA ha hx,_,_,hv2.getA hb hy,⟨⟩⟩ (hs''.extBut _ _ (Nat.ne_of_gt (Heap.lt_size st.z)) hT') get_size)
  ·exact (hn.elim (fun hn=>nomatch ha.symm.trans (hv1.noneA hn)) fun hn=>nomatch hb.symm.trans (hv2.noneA hn):False).elim
 done:=fun A s Φ zq hh st hc hf Q E hQ=>by
  obtain ⟨vs,hl1,hv1⟩:=HR.seq (hc _ (.head _))
  obtain ⟨us,hl2,hv2⟩:=HR.seq (hc _ (.tail _ (.head _)))
  have hT:s.TypeIs (.ref z) "zip":=⟨_,st.z,rfl⟩
  unfold pyNext
  refine wpAny_bind (wpAny_attempt (wpAny_callSpecial?_slot (name:=Str.ofString "__next__") hT F.slot_zip_next
   (wpAny_call_entry F.slot_zip_next hT F.entry_zip_next (zip_draw (A:=A.in1) hh D st hl1 hl2 (fun x y h' hx hy Z hT' hk=>(zipP_none (hv1.someA hx) (hv2.someA hy)).elim) fun h' e hn hk he=>?_) (F.args_zip_next_1 _))))
  obtain ⟨o,ho,hc'⟩:=he
  refine wpAny_bind (wpAny_isInstance (T:="StopIteration") (b:=true) ⟨o,ho,hc'⟩ isSubtype_stop ?_)
  exact wpAny_pure (hQ h' s.toks fun c o hc e=>have n:=ne4 hc; hk c o n.z n.to n.i1 n.i2 e)
 self:=fun A i s Q E st hQ=>wpAny_pyIter_zip st.z hQ
end
noncomputable def asSeq (p:PV) (K:Bool -> List PV -> Prop):Prop:=match p with
 | .lst l=>K true l
 | .tup l=>K false l
 | _=>False
theorem asSeq.el {p:PV} {K:Bool -> List PV -> Prop} {C:PV -> Prop} (h:asSeq p K) (k:∀ b l,K b l -> C (seqP b l)):C p:=by
 cases p with
 | lst l=>exact k true l h
 | tup l=>exact k false l h
 | _=>exact h.elim
variable {cx:Cx}
noncomputable def dZip (d1 d2:DE):DI:=fun o fr G Q=>d1 o fr G fun a G=>d2 o fr G fun b G=>asSeq a fun zq x=>asSeq b fun zq y=>Q (zipP x y) G
inductive IsRef:Value -> Prop | mk (a:Addr):IsRef (.ref a)
theorem VR.seq {P:PW} {Φ:Fz} {b:Bool} {l:List PV} {v:Value} (x:VR P Φ (seqP b l) v):IsRef v:=by cases b <;> (cases x; exact ⟨_⟩)
theorem SeqAtH.lt {h:Heap} {b:Bool} {a:Addr} {xs:Array Value} (x:SeqAtH h b a xs):a < h.objs.size:=by
 cases b
 ·obtain ⟨o,ho,_⟩:=x; exact Heap.lt_size ho
 ·obtain ⟨o,ho,_⟩:=x; exact Heap.lt_size ho
theorem get_sizeK {h:Heap} {k:Nat}:h.get? (h.objs.size + k) = none:=not_some fun ⟨_,q⟩=>absurd (Heap.lt_size q) (Nat.not_lt.mpr (Nat.le_add_right _ _))
theorem nd5 {n:Nat}:[n + 4,n + 2,n + 3,n,n + 1].Nodup:=by simp
theorem I.zip {np pos:Pos} {e1 e2:Expr} {elts:List Expr} {x1} {tp:Pos} {d1 d2:DE} {x:Str} (hm:x ∈ cx.gl) (hx:okName x = true) (hg:∀ P K,cx.kp P K -> gv K x = some (.type "zip")) (he:∀ env,starEach [e1,e2] env = (false,eval e1 env) :: starEach [e2] env /\ starEach [e2] env = [(false,eval e2 env)])
  (y:SE cx e1 d1) (z:SE cx e2 d2):SI cx (.Call (.Name x np) [e1,e2] [] pos) (.Tuple elts x1 tp) (dZip d1 d2) :=
 fun R fr ow τ Q O S h=>PyProof.Rows.Call_ (evalGlobal O S hm hx (hg _ _ O.kk) (PyProof.Rows.callWith_type1 (PyProof.Rows.args_cons ((y R fr ow τ O S).use h fun a τ1 v h t1 S1 v1=>PyProof.Rows.args_cons ((z R fr ow τ1 O S1).use h fun b τ2 u h t2 S2 v2=>PyProof.Rows.args_nil (by
  have v1:=VR.mono t2.le _ _ v1
  refine asSeq.el (C:=fun a=>R.VR τ2 a v -> _) h (fun b1 p1 h v1=>?_) v1
  refine asSeq.el (C:=fun b=>R.VR τ2 b u -> _) h (fun b2 p2 h v2=>?_) v2
  have w1:=v1
  have w2:=v2
  obtain ⟨a1⟩:=VR.seq v1
  obtain ⟨a2⟩:=VR.seq v2
  obtain ⟨xs,hl1,_⟩:=HR.seq (VR.held S2.core.frz v1)
  obtain ⟨ys,hl2,_⟩:=HR.seq (VR.held S2.core.frz v2)
  refine call_zip hl1 hl2 fun h3 Z hk=>?_
  have nw:∀ k,New R.X τ2.Φ ow (τ2.h.objs.size + k):=fun k=>S2.isNew O get_sizeK
  exact wpAny_pyIter_zip Z.z ⟨_,⟨τ2.G,τ2.Φ,{ τ2.s with heap:=h3 }⟩,_,[τ2.h.objs.size + 4,τ2.h.objs.size + 2,τ2.h.objs.size + 3,τ2.h.objs.size,τ2.h.objs.size + 1],[(.v (seqP b1 p1),seqP b1 p1,.ref a1),(.v (seqP b2 p2),seqP b2 p2,.ref a2)],_,h,t1.trans (t2.trans .heap),S2.keepAll hk,Z,src_zip (ZipAp.of hl1.lt hl2.lt),nd5,
   fun a ha=>five (C:=New R.X τ2.Φ ow) ha (nw 4) (nw 2) (nw 3) (nw 0) (nw 1),List.forall_mem_cons.mpr ⟨⟨w1,fun zq=>rfl,fun zq=>w1⟩,known w2⟩⟩)) (he _).2) (he _).1) (he _).1 (by rw [(he _).2]; rfl)))
end
section
mutual
noncomputable def PV.sub (m:Nat) (C:PV):PV -> PV
 | .tup l=>.tup (PV.subs m C l)
 | .lst l=>.lst (PV.subs m C l)
 | .dct l=>.dct (PV.subd m C l)
 | .idc l=>.idc (PV.subi m C l)
 | .reg k=>cond (k == m) C (.reg k)
 | .none=>.none
 | .bool b=>.bool b
 | .int i=>.int i
 | .str s=>.str s
 | .tdc l=>.tdc l
noncomputable def PV.subs (m:Nat) (C:PV):List PV -> List PV
 | []=>[]
 | p :: l=>PV.sub m C p :: PV.subs m C l
noncomputable def PV.subd (m:Nat) (C:PV):List (Nm × PV) -> List (Nm × PV)
 | []=>[]
 | (k,p) :: l=>(k,PV.sub m C p) :: PV.subd m C l
noncomputable def PV.subi (m:Nat) (C:PV):List (Int × PV) -> List (Int × PV)
 | []=>[]
 | (k,p) :: l=>(k,PV.sub m C p) :: PV.subi m C l
end
mutual
noncomputable def PV.lo (m:Nat):PV -> Bool
 | .tup l=>PV.los m l
 | .lst l=>PV.los m l
 | .dct l=>PV.lod m l
 | .idc l=>PV.loi m l
 | .reg k=>decide (k < m)
 | .none=>true
 | .bool _=>true
 | .int _=>true
 | .str _=>true
 | .tdc _=>true
noncomputable def PV.los (m:Nat):List PV -> Bool
 | []=>true
 | p :: l=>PV.lo m p && PV.los m l
noncomputable def PV.lod (m:Nat):List (Nm × PV) -> Bool
 | []=>true
 | (_,p) :: l=>PV.lo m p && PV.lod m l
noncomputable def PV.loi (m:Nat):List (Int × PV) -> Bool
 | []=>true
 | (_,p) :: l=>PV.lo m p && PV.loi m l
end
section
variable {m n:Nat} {C:PV}
theorem cons_eq {α:Type} {a b:α} {l r:List α} (h:a = b) (k:l = r):a :: l = b :: r:=by rw [h,k]
mutual
theorem PV.sub_below (hn:n <= m):∀ (p:PV),p.lo n = true -> PV.sub m C p = p
 | .tup l,h=>congrArg PV.tup (PV.subs_below hn l h)
 | .lst l,h=>congrArg PV.lst (PV.subs_below hn l h)
 | .dct l,h=>congrArg PV.dct (PV.subd_below hn l h)
 | .idc l,h=>congrArg PV.idc (PV.subi_below hn l h)
 | .reg k,h=>by show cond (k == m) C (.reg k) = _; rw [beq_eq_false_iff_ne.mpr (Nat.ne_of_lt (Nat.lt_of_lt_of_le (of_decide_eq_true h) hn))]; rfl
 | .none,_=>rfl
 | .bool _,_=>rfl
 | .int _,_=>rfl
 | .str _,_=>rfl
 | .tdc _,_=>rfl
theorem PV.subs_below (hn:n <= m):∀ (l:List PV),PV.los n l = true -> PV.subs m C l = l
 | [],_=>rfl
 | p :: l,h=>cons_eq (PV.sub_below hn p (an h).1) (PV.subs_below hn l (an h).2)
theorem PV.subd_below (hn:n <= m):∀ (l:List (Nm × PV)),PV.lod n l = true -> PV.subd m C l = l
 | [],_=>rfl
 | (k,p) :: l,h=>cons_eq (congrArg (Prod.mk k) (PV.sub_below hn p (an h).1)) (PV.subd_below hn l (an h).2)
theorem PV.subi_below (hn:n <= m):∀ (l:List (Int × PV)),PV.loi n l = true -> PV.subi m C l = l
 | [],_=>rfl
 | (k,p) :: l,h=>cons_eq (congrArg (Prod.mk k) (PV.sub_below hn p (an h).1)) (PV.subi_below hn l (an h).2)
end
end
section
variable {P:PW} {Φ Φ':Fz} {m:Nat} {C:PV}
structure Low (Φ Φ':Fz) (m:Nat):Prop where
 f:∀ a o,Φ.fz a = some o -> Φ'.fz a = some o
 r:∀ k c,k < m -> Φ.rs[k]? = some c -> Φ'.rs[k]? = some c
mutual
theorem VR.low (z:Low Φ Φ' m):∀ (p:PV) (v:Value),p.lo m = true -> VR P Φ p v -> VR P Φ' p v
 | .none,_,_,x=>x
 | .bool _,_,_,x=>x
 | .int _,_,_,x=>x
 | .str _,_,_,x=>x
 | .tup l,_,b,x=>IsSq.mono z.f (fun vs=>VRs.low z l vs b) x
 | .lst l,_,b,x=>IsSq.mono z.f (fun vs=>VRs.low z l vs b) x
 | .dct l,_,b,x=>IsD.mono z.f (fun vs=>VRd.low z l vs b) x
 | .reg k,_,b,⟨c,e⟩=>⟨c,z.r k c (of_decide_eq_true b) e⟩
 | .tdc _,_,_,x=>IsT.mono z.f x
 | .idc l,_,b,x=>IsI.mono z.f (fun vs=>VRi.low z l vs b) x
theorem VRs.low (z:Low Φ Φ' m):∀ (p:List PV) (v:List Value),PV.los m p = true -> VRs P Φ p v -> VRs P Φ' p v
 | [],_,_,x=>x
 | p :: l,_,b,x=>IsC.mono (fun v=>VR.low z p v (an b).1) (fun v=>VRs.low z l v (an b).2) x
theorem VRd.low (z:Low Φ Φ' m):∀ (p:List (Nm × PV)) (v:List (Str × Value)),PV.lod m p = true -> VRd P Φ p v -> VRd P Φ' p v
 | [],_,_,x=>x
 | (_,p) :: l,_,b,x=>IsC.mono (fun v=>VR.low z p v (an b).1) (fun v=>VRd.low z l v (an b).2) x
theorem VRi.low (z:Low Φ Φ' m):∀ (p:List (Int × PV)) (v:List (Int × Value)),PV.loi m p = true -> VRi P Φ p v -> VRi P Φ' p v
 | [],_,_,x=>x
 | (_,p) :: l,_,b,x=>IsC.mono (fun v=>VR.low z p v (an b).1) (fun v=>VRi.low z l v (an b).2) x
end
structure Seals (P:PW) (Φ Φ':Fz) (m:Nat) (C:PV):Prop where
 f:∀ a o,Φ.fz a = some o -> Φ'.fz a = some o
 r:∀ k c,Φ.rs[k]? = some c -> VR P Φ' (cond (k == m) C (.reg k)) (.ref c.addr)
mutual
theorem VR.sub (z:Seals P Φ Φ' m C):∀ (p:PV) (v:Value),VR P Φ p v -> VR P Φ' (PV.sub m C p) v
 | .none,_,x=>x
 | .bool _,_,x=>x
 | .int _,_,x=>x
 | .str _,_,x=>x
 | .tup l,_,x=>IsSq.mono z.f (VRs.sub z l) x
 | .lst l,_,x=>IsSq.mono z.f (VRs.sub z l) x
 | .dct l,_,x=>IsD.mono z.f (VRd.sub z l) x
 | .reg k,_,⟨c,e⟩=>z.r k c e
 | .tdc _,_,x=>IsT.mono z.f x
 | .idc l,_,x=>IsI.mono z.f (VRi.sub z l) x
theorem VRs.sub (z:Seals P Φ Φ' m C):∀ (p:List PV) (v:List Value),VRs P Φ p v -> VRs P Φ' (PV.subs m C p) v
 | [],_,x=>x
 | p :: l,_,x=>IsC.mono (VR.sub z p) (VRs.sub z l) x
theorem VRd.sub (z:Seals P Φ Φ' m C):∀ (p:List (Nm × PV)) (v:List (Str × Value)),VRd P Φ p v -> VRd P Φ' (PV.subd m C p) v
 | [],_,x=>x
 | (_,p) :: l,_,x=>IsC.mono (VR.sub z p) (VRd.sub z l) x
theorem VRi.sub (z:Seals P Φ Φ' m C):∀ (p:List (Int × PV)) (v:List (Int × Value)),VRi P Φ p v -> VRi P Φ' (PV.subi m C p) v
 | [],_,x=>x
 | (_,p) :: l,_,x=>IsC.mono (VR.sub z p) (VRi.sub z l) x
end
end
end
section
noncomputable def RA.content:RA -> Option PV
 | .dict fs=>some (.dct fs)
 | .list l=>some (.lst l)
 | .idict l=>some (.idc l)
 | .inst _ _=>none
noncomputable def RA.sub (m:Nat) (C:PV):RA -> RA
 | .dict fs=>.dict (PV.subd m C fs)
 | .list l=>.list (PV.subs m C l)
 | .idict l=>.idict (PV.subi m C l)
 | .inst K fs=>.inst K (PV.subd m C fs)
noncomputable def RA.lo (m:Nat):RA -> Bool
 | .dict fs=>PV.lod m fs
 | .list l=>PV.los m l
 | .idict l=>PV.loi m l
 | .inst _ fs=>PV.lod m fs
noncomputable def LV.sub (m:Nat) (C:PV):LV -> LV
 | .val p=>.val (PV.sub m C p)
 | .ol l=>.ol (PV.subs m C l)
 | .od l=>.od (PV.subd m C l)
 | .unset=>.unset
 | .any=>.any
theorem RA.sub_below {m n:Nat} {C:PV} (hn:n <= m) {g:RA} (h:g.lo n = true):g.sub m C = g:=by
 cases g with
 | inst K fs=>exact congrArg (RA.inst K) (PV.subd_below hn fs h)
 | dict fs=>exact congrArg RA.dict (PV.subd_below hn fs h)
 | list l=>exact congrArg RA.list (PV.subs_below hn l h)
 | idict l=>exact congrArg RA.idict (PV.subi_below hn l h)
theorem RAs.sub_below {m n:Nat} {C:PV} (hn:n <= m) {G:Gs} (h:G.all (RA.lo n) = true):G.map (RA.sub m C) = G:=by
 induction G with
 | nil=>rfl
 | cons g G ih=>exact cons_eq (RA.sub_below hn (an h).1) (ih (an h).2)
section
variable {P:PW} {h:Heap} {Φ Φ':Fz} {m:Nat} {C:PV}
theorem DD.sub {d:Addr} {fs:List (Nm × PV)} (z:Seals P Φ Φ' m C) (x:DD P h Φ d fs):DD P h Φ' d (PV.subd m C fs):=by obtain ⟨q,kvs,v,e⟩:=x; exact ⟨q,kvs,VRd.sub z _ _ v,e⟩
theorem RegH.sub (z:Seals P Φ Φ' m C) {c:RC} {g:RA} (x:RegH P h Φ c g):RegH P h Φ' c (g.sub m C):=by
 cases g with
 | inst K fs=>exact ⟨x.o,x.ne,x.k.sub z⟩
 | dict fs=>exact ⟨x.1,x.2.sub z⟩
 | list l=>obtain ⟨e,vs,k,v,d⟩:=x; exact ⟨e,vs,k,VRs.sub z _ _ v,d⟩
 | idict l=>obtain ⟨e,q,kvs,v,d⟩:=x; exact ⟨e,q,kvs,VRi.sub z _ _ v,d⟩
theorem RegsH.sub (z:Seals P Φ Φ' m C) {R:List RC} {G:Gs} (x:RegsH P h Φ R G):RegsH P h Φ' R (G.map (RA.sub m C)):=by
 induction R generalizing G with
 | nil=>cases x; exact ⟨⟩
 | cons c R ih=>obtain ⟨r,G,x,y⟩:=x; exact ⟨_,_,x.sub z,ih y⟩
inductive Last (P:PW) (h:Heap) (Φ:Fz) (G:Gs) (g:RA):List RC -> Prop | mk (R:List RC) (c:RC) (e:R.length = G.length) (x:RegsH P h Φ R G) (y:RegH P h Φ c g):Last P h Φ G g (R ++ [c])
theorem RegsH.last {g:RA} {R:List RC} {G:Gs} (x:RegsH P h Φ R (G ++ [g])):Last P h Φ G g R:=by
 induction R generalizing G with
 | nil=>cases G <;> cases x
 | cons d R ih =>
  cases G with
  | nil =>
   obtain ⟨_,_,x,y⟩:=x
   cases R with
   | nil=>exact ⟨[],d,rfl,⟨⟩,x⟩
   | cons=>cases y
  | cons a G =>
   obtain ⟨_,_,x,y⟩:=x
   obtain ⟨R,c,e,z,w⟩:=ih y
   exact ⟨d :: R,c,congrArg (fun q=>q + 1) e,⟨a,G,x,z⟩,w⟩
theorem LR.sub (z:Seals P Φ Φ' m C) {lv:LV} {v:Option Value} {own:List Addr} (x:LR P Φ h lv v own):LR P Φ' h (lv.sub m C) v own:=by
 cases lv with
 | unset=>exact x
 | val p=>obtain ⟨v,x⟩:=x; exact ⟨v,VR.sub z _ _ x⟩
 | ol l=>exact LO.keeps x (fun o y=>by obtain ⟨vs,n,y⟩:=y; exact ⟨vs,n,VRs.sub z _ _ y⟩) fun zq zq zq e=>e
 | od l=>exact LO.keeps x (fun o y=>by obtain ⟨kvs,d,y⟩:=y; exact ⟨kvs,d,VRd.sub z _ _ y⟩) fun zq zq zq e=>e
 | any=>exact x
theorem Slots.sub (z:Seals P Φ Φ' m C) {ps:List Place} {fr:Fr} {ow:List (List Addr)} (x:Slots P Φ h ps fr ow):Slots P Φ' h ps (fr.map (LV.sub m C)) ow:=by
 induction ps generalizing fr ow with
 | nil=>cases x; exact ⟨⟩
 | cons p ps ih=>obtain ⟨lv,fr,o,ow,⟨v,hv,l⟩,y⟩:=x; exact ⟨_,_,o,ow,⟨v,hv,l.sub z⟩,ih y⟩
theorem RegH.val {c:RC} {g:RA} {ob:Obj} (z:Low Φ Φ' m) (x:RegH P h Φ c g) (hC:g.content = some C) (hb:C.lo m = true) (ho:h.get? c.d = some ob) (hf:Φ'.fz c.d = some ob):VR P Φ' C (.ref c.addr):=by
 cases g with
 | inst K fs=>cases hC
 | dict fs =>
  cases hC
  obtain ⟨e,sm,kvs,v,d⟩:=x
  obtain ⟨o',ho',d'⟩:=DctO.of d
  cases ho.symm.trans ho'
  exact e ▸ ⟨_,ob,kvs,hf,sm,d',VRd.low z _ _ hb v⟩
 | list l =>
  cases hC
  obtain ⟨e,vs,k,v,ho'⟩:=x
  cases ho.symm.trans ho'
  exact e ▸ ⟨_,vs,k,hf,VRs.low z _ _ hb v⟩
 | idict l =>
  cases hC
  obtain ⟨e,sm,kvs,v,d⟩:=x
  obtain ⟨o',ho',d'⟩:=IctO.of d
  cases ho.symm.trans ho'
  exact e ▸ ⟨_,ob,kvs,hf,sm,d',VRi.low z _ _ hb v⟩
end
inductive Sealed (R:Rn) (fr:Fr) (ow:List (List Addr)) (G:Gs) (n:Nat) (Φ:Fz) (s:Shared):Prop
 | mk (Φ':Fz) (r:Φ'.rs = Φ.rs.take n) (f:∀ a o,Φ.fz a = some o -> Φ'.fz a = some o) (S:St R fr ow ⟨G,Φ',s⟩):Sealed R fr ow G n Φ s
theorem St.seal1 {R:Rn} {fr:Fr} {ow:List (List Addr)} {G:Gs} {g:RA} {Φ:Fz} {s:Shared} (S:St R fr ow ⟨G ++ [g],Φ,s⟩) {C:PV} (hC:g.content = some C) (hb:C.lo G.length = true) (hN:R.X.Φ0.rs.length <= G.length) :
  Sealed R (fr.map (LV.sub G.length C)) ow (G.map (RA.sub G.length C)) G.length Φ s:=by
 obtain ⟨rs,fz⟩:=Φ
 have L:Last R.P s.heap ⟨rs,fz⟩ G g rs:=RegsH.last S.core.regs
 obtain ⟨Rs,c,hRl,r1,r2⟩:=L
 have sep:=S.core.sep
 have mem:∀ {a},Reg Rs a -> Reg (Rs ++ [c]) a:=fun q=>q.el (C:=Reg (Rs ++ [c])) (fun b hb=>.a (mem_ras (List.mem_append_left _ hb))) fun b hb=>.d (mem_rds (List.mem_append_left _ hb))
 have mc:c ∈ Rs ++ [c]:=List.mem_append_right _ (.head _)
 have rd:rds (Rs ++ [c]) = rds Rs ++ [c.d]:=List.map_append
 have ⟨nd0,_,nd1⟩:=List.nodup_append.mp (rd ▸ sep.nd)
 have nd:c.d ∉ rds Rs:=fun q=>nd1 _ q _ (.head _) rfl
 have nda:c.d ∉ ras Rs:=fun q=>by
  obtain ⟨c',hc',e⟩:=List.mem_map.mp q
  exact nd (sep.k c.d (mem_rds mc) c' (List.mem_append_left _ hc') e ▸ mem_rds hc')
 obtain ⟨ob,hob⟩:=S.core.regs.live (.d (mem_rds mc))
 have hfn:fz c.d = none:=S.core.rfr _ (.d (mem_rds mc))
 have low:Low ⟨Rs ++ [c],fz⟩ (Fz.put ⟨Rs,fz⟩ c.d ob) G.length:=⟨(Fz.le_put (Φ:=⟨Rs,fz⟩) hfn).f,fun k c' hk e=>(List.getElem?_append_left (hRl ▸ hk)).symm.trans e⟩
 have z:Seals R.P ⟨Rs ++ [c],fz⟩ (Fz.put ⟨Rs,fz⟩ c.d ob) G.length C:=⟨low.f,fun k c' e=>by
  have e:(Rs ++ [c])[k]? = some c':=e
  refine Decidable.byCases (fun hk:k = G.length=>?_) fun hk=>?_
  ·subst hk
   rw [<- hRl,List.getElem?_concat_length] at e
   cases e
   rw [beq_self_eq_true]
   exact RegH.val low r2 hC hb hob Fz.put_self
  ·rw [beq_eq_false_iff_ne.mpr hk]
   have:=(List.getElem?_eq_some_iff.mp e).1
   rw [List.length_append,hRl] at this
   exact ⟨c',low.r k c' (Nat.lt_of_le_of_ne (Nat.le_of_lt_succ this) hk) e⟩⟩
 have p0:R.X.Φ0.rs <+: Rs:=by
  obtain ⟨t,ht⟩:=S.core.mono.r
  have ht:R.X.Φ0.rs ++ t = Rs ++ [c]:=ht
  exact (List.prefix_append _ t).trans (ht ▸ List.prefix_refl _) |>.elim fun u hu=>List.prefix_of_prefix_length_le ⟨u,hu⟩ (List.prefix_append Rs [c]) (hRl ▸ hN)
 have hcn:=(S.core.rnew c mc).resolve_left fun q=>nd (mem_rds (p0.subset q))
 refine ⟨Fz.put ⟨Rs,fz⟩ c.d ob,(List.take_left' hRl).symm,low.f,?_⟩
 exact
  {core :=
    {frz:=fun a o' e=>Fz.put_el e (fun q e=>by subst e; exact (congrArg s.heap.get? q).trans hob) fun zq e=>S.core.frz a o' e
     mono:=⟨p0,fun a o' e=>low.f _ _ (S.core.mono.f _ _ e)⟩
     new:=fun a o' e=>Fz.put_el e (fun q zq=>.inr (q ▸ hcn.1)) fun zq e=>S.core.new a o' e
     keep:=S.core.keep
     regs:=RegsH.sub z r1
     rfr:=fun d hd=>(Fz.put_ne fun q:d = c.d=>by subst q; cases hd with | a h=>exact nda h | d h=>exact nd h).trans (S.core.rfr d (mem hd))
     rnew:=fun c' hc'=>S.core.rnew c' (List.mem_append_left _ hc')
     sep:=⟨nd0,fun a ha c' hc' e=>sep.k a (rd ▸ List.mem_append_left _ ha) c' (List.mem_append_left _ hc') e⟩ }
   slots:=Slots.sub z S.slots
   nd:=S.nd
   off:=fun a ha=>have q:=S.off a ha; ⟨(Fz.put_ne fun e:a = c.d=>q.r (.d (e ▸ mem_rds mc))).trans q.f,q.h0,fun r=>q.r (mem r)⟩
   live:=S.live
   still:=S.still }
end
section
noncomputable def keepOnly:List Bool -> Fr -> Fr
 | [],_=>[]
 | b :: bs,fr=>match fr with | []=>[] | lv :: fr=>cond b lv .any :: keepOnly bs fr
noncomputable def sealR (m:Nat):Nat -> List RA -> Fr -> (Fr -> Prop) -> Prop
 | 0,Gr,fr,Q=>bq Gr.isEmpty (Q fr)
 | k + 1,Gr,fr,Q=>match Gr with
  | []=>Q fr
  | g :: Gr=>oq g.content fun C=>bq (C.lo (m + Gr.length)) (sealR m k (Gr.map (RA.sub (m + Gr.length) C)) (fr.map (LV.sub (m + Gr.length) C)) Q)
noncomputable def kSeal (ks:List Bool) (d3:DS) (o:Orc) (n:Nat) (Q:Flo -> Fr -> Gs -> Prop) (f:Flo) (fr:Fr) (G:Gs):Prop:=match f with
 | .nx=>bq (decide (n <= G.length)) (bq (ks.length == fr.length) (bq ((G.take n).all (RA.lo n)) (sealR n G.length (G.drop n).reverse (keepOnly ks fr) fun fr=>d3 o fr (G.take n) Q)))
 | .rt _=>False
noncomputable def dSeal3 (ks:List Bool) (d1 d2 d3:DS):DS:=fun o fr G Q=>dSeq d1 d2 o fr G (kSeal ks d3 o G.length Q)
section
variable {P:PW} {h:Heap} {Φ:Fz}
inductive Kept (P:PW) (Φ:Fz) (h:Heap) (ps:List Place) (fr:Fr) (ow:List (List Addr)):Prop | mk (ow':List (List Addr)) (x:Slots P Φ h ps fr ow') (s:ow'.flatten.Sublist ow.flatten):Kept P Φ h ps fr ow
theorem Slots.keepOnly {ps:List Place} {fr:Fr} {ow:List (List Addr)} {ks:List Bool} (e:ks.length = ps.length) (x:Slots P Φ h ps fr ow):Kept P Φ h ps (keepOnly ks fr) ow:=by
 induction ps generalizing fr ow ks with
 | nil=>cases x; cases ks with | nil=>exact ⟨[],⟨⟩,.refl _⟩ | cons=>cases e
 | cons p ps ih =>
  obtain ⟨lv,fr,o,ow,x,y⟩:=x
  cases ks with
  | nil=>cases e
  | cons b ks =>
   obtain ⟨ow2,y2,s2⟩:=ih (Nat.succ.inj e) y
   cases b with
   | true=>exact ⟨o :: ow2,⟨lv,_,o,_,x,y2⟩,(List.Sublist.refl o).append s2⟩
   | false=>obtain ⟨v,hv,l⟩:=x; exact ⟨[] :: ow2,⟨.any,_,[],_,⟨v,hv,LAny.mk v⟩,y2⟩,s2.trans (List.sublist_append_right _ _)⟩
end
section
variable {R:Rn} {fr:Fr} {ow:List (List Addr)} {τ:Tau} {s:Shared} {cx:Cx}
theorem St.keepOnly (S:St R fr ow τ) {ks:List Bool} (e:ks.length = fr.length):∃ ow',St R (keepOnly ks fr) ow' τ:=by
 obtain ⟨ow',y,s⟩:=Slots.keepOnly (e.trans S.slots.len) S.slots
 have sb:(R.X.own ow').Sublist (R.X.own ow):=(List.Sublist.refl _).append s
 exact ⟨ow',S.core,y,S.nd.sublist sb,fun a ha=>S.off a (sb.subset ha),S.live,S.still⟩
theorem St.sealR {k:Nat} {Gr:List RA} {G0:Gs} {Φ:Fz} {Q:Fr -> Prop} {C:Prop} (S:St R fr ow ⟨G0 ++ Gr.reverse,Φ,s⟩) (hl:G0.all (RA.lo G0.length) = true) (hN:R.X.Φ0.rs.length <= G0.length) (h:Mine.Internal.sealR G0.length k Gr fr Q)
  (j:∀ fr',Q fr' -> Sealed R fr' ow G0 G0.length Φ s -> C):C:=by
 have nil:∀ {fr:Fr} {Φ:Fz},St R fr ow ⟨G0 ++ [].reverse,Φ,s⟩ -> Sealed R fr ow G0 G0.length Φ s:=fun {fr Φ} S=>by
  rw [List.reverse_nil,List.append_nil] at S
  exact ⟨Φ,by rw [show G0.length = Φ.rs.length from S.core.regs.length,List.take_length],fun zq zq e=>e,S⟩
 induction k generalizing Gr fr Φ with
 | zero =>
  refine bq.el h fun e h=>?_
  cases Gr with
  | nil=>exact j _ h (nil S)
  | cons=>cases e
 | succ k ih =>
  cases Gr with
  | nil=>exact j _ h (nil S)
  | cons g Gr =>
   refine oq.el h fun C hC h=>bq.el h fun hb h=>?_
   rw [List.reverse_cons,<- List.append_assoc] at S
   have hlen:(G0 ++ Gr.reverse).length = G0.length + Gr.length:=by rw [List.length_append,List.length_reverse]
   obtain ⟨Φ1,r1,f1,S1⟩:=S.seal1 hC (hlen ▸ hb) (hlen ▸ Nat.le_trans hN (Nat.le_add_right _ _))
   rw [hlen] at S1 r1
   rw [List.map_append,RAs.sub_below (Nat.le_add_right _ _) hl,List.map_reverse] at S1
   refine ih S1 h fun fr' q x=>j fr' q ?_
   obtain ⟨Φ2,r2,f2,S2⟩:=x
   exact ⟨Φ2,by rw [r2,r1,List.take_take,Nat.min_eq_left (Nat.le_add_right _ _)],fun a o e=>f2 _ _ (f1 _ _ e),S2⟩
theorem S.seal3 {s1 s2 s3:Stmt} {d1 d2 d3:DS} (ks:List Bool) (x:SX cx s1 d1) (y:SX cx s2 d2) (z:SX cx s3 d3):SS cx [s1,s2,s3] (dSeal3 ks d1 d2 d3) :=
 fun R fr ow τ O S=>.mk fun Q Q' E' h k=>wpAny_execs_cons ((x R fr ow τ O S).use (Q:=kSeq d2 R.o (kSeal ks d3 R.o τ.G.length Q)) h fun fl fr1 ow1 τ1 f h t1 S1 v=>by
  cases v with
  | rt=>exact h.elim
  | nx =>
   refine wpAny_execs_cons ((y R fr1 ow1 τ1 O S1).use (Q:=kSeal ks d3 R.o τ.G.length Q) h fun fl fr2 ow2 τ2 f h t2 S2 v=>?_)
   cases v with
   | rt=>exact h.elim
   | nx =>
    refine bq.el h fun c1 h=>bq.el h fun c2 h=>bq.el h fun c3 h=>?_
    have c1:=of_decide_eq_true c1
    obtain ⟨ow3,S3⟩:=S2.keepOnly (ks:=ks) (beq_iff_eq.mp c2)
    have hN:(τ2.G.take τ.G.length).length = τ.G.length:=List.length_take_of_le c1
    have S3':St R (Mine.Internal.keepOnly ks fr2) ow3 ⟨τ2.G.take τ.G.length ++ ((τ2.G.drop τ.G.length).reverse).reverse,τ2.Φ,τ2.s⟩:=by
     rw [List.reverse_reverse,List.take_append_drop]; exact S3
    have hG:τ.G.length = τ.Φ.rs.length:=S.core.regs.length
    refine St.sealR (k:=τ2.G.length) (Q:=fun fr=>d3 R.o fr (τ2.G.take τ.G.length) Q) S3' (hN.symm ▸ c3) (by rw [hN,hG]; exact S.core.mono.r.length_le) (hN.symm ▸ h) fun fr4 h x=>?_
    obtain ⟨Φ4,r4,f4,S4⟩:=x
    have t12:=t1.trans t2
    have l4:Fz.le τ.Φ Φ4:=by
     refine ⟨?_,fun a o e=>f4 _ _ (t12.le.f _ _ e)⟩
     rw [r4,hN,hG]
     obtain ⟨t,ht⟩:=t12.le.r
     rw [<- ht,List.take_left' rfl]
     exact List.prefix_refl _
    exact wpAny_execs_cons ((z R fr4 ow3 ⟨_,Φ4,τ2.s⟩ O S4).use h fun fl fr5 ow5 τ5 f h t5 S5 v=>by
     have t:=(To.mk (τ:=τ) (τ':=⟨τ2.G,Φ4,τ2.s⟩) t12.sm l4).sm.trans t5.sm
     have tt:To τ τ5:=⟨t,Fz.le_trans l4 t5.le⟩
     cases v with
     | nx=>exact wpAny_execs_nil (k _ _ ow5 τ5 _ h tt S5 .nx)
     | rt p v x=>exact k (.rt p) fr5 ow5 τ5 _ h tt S5 (.rt p v x)))
end
end
section
noncomputable def tbKind (tb:Tb) (x:Str):Option NameKind:=(tb.find? fun e=>e.1 == x).map (fun q=>q.2.1)
noncomputable def tbSlot (tb:Tb) (x:Str):Nat:=((tb.find? fun e=>e.1 == x).map (fun q=>q.2.2)).getD 0
noncomputable def isStarred:Expr -> Bool
 | .Starred ..=>true
 | _=>false
noncomputable def swLine (ts:List Expr):Nat:=(ts.head?.map (fun q=>q.pos.line)).getD 0
noncomputable def swName (loc:Str -> Bool) (line:Nat):Expr -> Option Str
 | .Name id pos=>if loc id && pos.line == line then some id else none
 | _=>none
noncomputable def swKnown (tb:Tb):Expr -> Bool
 | .Name id _=>(tbKind tb id).isSome
 | _=>true
noncomputable def swapOf (tb:Tb) (ts vs:List Expr):Option (Option (List Str)) :=
 if ts.all (swKnown tb) = true then
  if (!(ts.length == 2 || ts.length == 3) || vs.length != ts.length) = true then some none
  else if vs.any isStarred = true then some none
  else
   let names:=ts.filterMap (swName (fun x=>tbKind tb x == some .local) (swLine ts))
   if (names.length != ts.length || names.eraseDups.length != names.length) = true then some none
   else if vs.all (foldedForSure 8) = true then some none
   else if vs.all (constantsAlone 8) = true then none
   else some (some names)
 else none
variable {cx:Cx} {R:Rn}
theorem filterMap_cg {α β:Type} {f g:α -> Option β} {l:List α} (h:∀ x ∈ l,f x = g x):l.filterMap f = l.filterMap g:=by
 induction l with
 | nil=>rfl
 | cons a l ih=>rw [List.filterMap_cons,List.filterMap_cons,h a (.head _),ih fun x hx=>h x (.tail _ hx)]
theorem tbKind_mem {tb:Tb} {x:Str} {k:NameKind} (e:tbKind tb x = some k):(x,k,tbSlot tb x) ∈ tb:=by
 unfold tbKind at e
 unfold tbSlot
 obtain ⟨⟨a,b,c⟩,h1,h2⟩:=Option.map_eq_some_iff.mp e
 have hp:=List.find?_some (p:=fun e:Str × NameKind × Nat=>e.1 == x) h1
 have hp:a = x:=beq_iff_eq.mp hp
 cases hp
 cases h2
 rw [h1]
 exact List.mem_of_find?_eq_some h1
theorem kind_local (O:R.Ok cx) {x:Str} {k:NameKind} (e:tbKind cx.tb x = some k):(R.X.env.kindOf x == some .local) = (k == .local):=by
 obtain ⟨p,_,r⟩:=O.tb _ _ _ (tbKind_mem e)
 have r:Res2 R.X.env x (R.X.env.kindOf x) k p:=r
 generalize R.X.env.kindOf x = q at r
 cases r <;> rfl
noncomputable def swStores (loc:Str -> Bool) (b:Bool) (ts vs:List Expr):Sem (Option (List Str)) :=
 if (!(ts.length == 2 || ts.length == 3) || vs.length != ts.length || b) = true then pure none
 else if vs.any isStarred = true then pure none
 else
  let names:=ts.filterMap (swName loc (swLine ts))
  if (names.length != ts.length || names.eraseDups.length != names.length) = true then pure none
  else if vs.all (foldedForSure 8) = true then pure none
  else do
   if vs.all (constantsAlone 8) = true then unsupported "assign.tuple-of-constant-expressions:order-of-the-stores"
   return some names
theorem swStores_eq {ts vs:List Expr} {k k2:Nat} {p p2:Pos} {env:Env}:swappedStores [.Tuple ts k p] (.Tuple vs k2 p2) env = swStores (fun x=>env.kindOf x == some .local) (env.blockKind != .function) ts vs:=rfl
set_option tactic.hygienic true in
theorem swapped_of (O:R.Ok cx) {ts vs:List Expr} {k k2:Nat} {p p2:Pos} {r:Option (List Str)} (e:swapOf cx.tb ts vs = some r):swappedStores [.Tuple ts k p] (.Tuple vs k2 p2) R.X.env = pure r:=by
 unfold swapOf at e
 split at e
 case isFalse=>cases e
 rename_i hk
 have hb:R.X.env.blockKind = .function:=by unfold Env.blockKind; rw [O.kind]; rfl
 have hnames:ts.filterMap (swName (fun x=>R.X.env.kindOf x == some .local) (swLine ts)) = ts.filterMap (swName (fun x=>tbKind cx.tb x == some .local) (swLine ts)):=by
  refine filterMap_cg fun t ht=>?_
  have:=List.all_eq_true.mp hk t ht
  cases t with
  | Name id pos =>
   obtain ⟨kd,hkd⟩:=Option.isSome_iff_exists.mp this
   have e1:(R.X.env.kindOf id == some .local) = (tbKind cx.tb id == some .local):=(kind_local O hkd).trans (by rw [hkd]; rfl)
   simp only [swName,e1]
  | _=>rfl
 rw [swStores_eq]
 unfold swStores
 rw [show (R.X.env.blockKind != ScopeKind.function) = false by rw [hb]; rfl,Bool.or_false,hnames]
 dsimp only at e ⊢
 split at e
 ·rename_i h1; cases e; rw [if_pos h1]
 rename_i h1
 rw [if_neg h1]
 split at e
 ·rename_i h2; cases e; rw [if_pos h2]
 rename_i h2
 rw [if_neg h2]
 split at e
 ·rename_i h3; cases e; rw [if_pos h3]
 rename_i h3
 rw [if_neg h3]
 split at e
 ·rename_i h4; cases e; rw [if_pos h4]
 rename_i h4
 rw [if_neg h4]
 split at e
 ·cases e
 rename_i h5
 cases e
 rw [if_neg h5]
noncomputable def setFwd:List Nat -> List PV -> Fr -> Fr
 | [],_,fr=>fr
 | i :: is,ps,fr=>match ps with | []=>fr | p :: ps=>setFwd is ps (fr.set i (.val p))
theorem bind_names (O:R.Ok cx) {nms:List Str} {ps:List PV} {vs:List Value} {fr:Fr} {ow:List (List Addr)} {τ:Tau} (hn:∀ x ∈ nms,tbKind cx.tb x = some .local) (S:St R fr ow τ) (v:R.VRs τ ps vs) :
  Ta R τ (assignInOrder (nms.map fun n=>bindName R.X.env n) vs) fun Q=>Q (setFwd (nms.map (tbSlot cx.tb)) ps fr) τ.G:=by
 induction nms generalizing ps vs fr ow τ with
 | nil=>exact .mk fun Q Q' E' h k=>by rw [show assignInOrder (([]:List Str).map fun n=>bindName R.X.env n) vs = pure () by cases vs <;> rfl]; exact wpAny_pure (k _ ow τ h .refl S)
 | cons x nms ih =>
  cases ps with
  | nil=>cases v; exact .mk fun Q Q' E' h k=>wpAny_pure (k _ ow τ h .refl S)
  | cons p ps =>
   obtain ⟨u,r,v1,v2⟩:=v
   refine .mk fun Q Q' E' h k=>?_
   show wpAny _ _ (holding r (bindName R.X.env x u) >>= fun zq=>assignInOrder (nms.map fun n=>bindName R.X.env n) r) _ _ _
   refine wpAny_bind (wpAny_holding (PyProof.Rows.bindName_ (S.storeV O (tbKind_mem (hn x (.head _))) rfl v1 fun τ2 e t2 S2=>?_)))
   exact (ih (fun y hy=>hn y (.tail _ hy)) S2 (VRs.mono t2.le _ _ v2)).use (by rw [e]; exact h) fun fr' ow' τ' h t S=>k fr' ow' τ' h (t2.trans t) S
theorem VRs.reverse {P:PW} {Φ:Fz} {l:List PV} {vs:List Value} (x:VRs P Φ l vs):VRs P Φ l.reverse vs.reverse:=by
 induction l generalizing vs with
 | nil=>cases x; exact ⟨⟩
 | cons p l ih=>obtain ⟨v,r,f,g⟩:=x; rw [List.reverse_cons,id,List.reverse_cons]; exact VRs.append (ih g) ⟨v,[],f,⟨⟩⟩
set_option tactic.hygienic true in
theorem swapOf_kinds {tb:Tb} {ts vs:List Expr} {names:List Str} (e:swapOf tb ts vs = some (some names)):∀ x ∈ names,tbKind tb x = some .local:=by
 unfold swapOf at e
 split at e
 case isFalse=>cases e
 split at e
 ·cases e
 split at e
 ·cases e
 dsimp only at e
 split at e
 ·cases e
 split at e
 ·cases e
 split at e
 ·cases e
 cases e
 intro x hx
 obtain ⟨t,_,ht⟩:=List.mem_filterMap.mp hx
 cases t <;> simp only [swName] at ht <;> try cases ht
 split at ht
 ·rename_i hc; cases ht
  simp only [Bool.and_eq_true,beq_iff_eq] at hc
  exact hc.1
 ·cases ht
noncomputable def pvU:PV -> Option (List PV) | .tup l=>some l | _=>none
noncomputable def dTupSw (idxs:List Nat) (d:DE):DS:=fun o fr G Q=>d o fr G fun a G=>oq (pvU a) fun l=>bq (l.length == idxs.length) (Q .nx (setFwd idxs.reverse l.reverse fr) G)
theorem X.tupSw {ts vs:List Expr} {k k2:Nat} {p p2 pos:Pos} {names:List Str} {idxs:List Nat} {d:DE} (hw:swapOf cx.tb ts vs = some (some names)) (hi:names.map (tbSlot cx.tb) = idxs) (hs:∀ env,swapsWithSole [.Tuple ts k p] (.Tuple vs k2 p2) pos.line env = pure false)
  (x:SE cx (.Tuple vs k2 p2) d):SX cx (.Assign [.Tuple ts k p] (.Tuple vs k2 p2) pos) (dTupSw idxs d) :=
 fun R fr ow τ O S=>.mk fun Q Q' E' h j=>PyProof.Rows.Assign_Tuple_swapped (names:=names) ((x R fr ow τ O S).use h fun a τ1 v h t1 S1 v1=>oq.el h fun l e h=>bq.el h fun hl hK=>by
  cases a with
  | tup l' =>
   cases e
   obtain ⟨t,us,m,f,g⟩:=v1
   have e1:names.length = us.toArray.size:=by rw [List.size_toArray,g.length,beq_iff_eq.mp hl,<- hi,List.length_map]
   rw [e1]
   refine PyProof.Rows.unpackItems_tuple O.room.hd (isTupleOf (S1.core.frz _ _ f)) fun h2 he=>?_
   have S2:St R fr ow ⟨τ1.G,τ1.Φ,{ τ1.s with heap:=h2 }⟩:=S1.keepAll fun b ob e=>he b ob (Nat.ne_of_lt (Heap.lt_size e)) e
   rw [<- hi,<- List.map_reverse] at hK
   exact (bind_names O (fun y hy=>swapOf_kinds hw y (List.mem_reverse.mp hy)) S2 (VRs.reverse g)).use (Q:=Q .nx) hK fun fr' ow' τ' h t S=>j _ fr' ow' τ' _ h ((t1.trans .heap).trans t) S .nx
  | _=>cases e) (hs _) (swapped_of O hw)
theorem X.tupIn {ts vs:List Expr} {k k2:Nat} {p p2 pos:Pos} {d:DE} {a:DA} (hw:swapOf cx.tb ts vs = some none) (hs:∀ env,swapsWithSole [.Tuple ts k p] (.Tuple vs k2 p2) pos.line env = pure false)
  (he:∀ env,assignEach [.Tuple ts k p] env = [(false,PySem.assign (.Tuple ts k p) env)]) (x:SE cx (.Tuple vs k2 p2) d) (y:SA cx (.Tuple ts k p) a):SX cx (.Assign [.Tuple ts k p] (.Tuple vs k2 p2) pos) (dAssign d a) :=
 fun R fr ow τ O S=>.mk fun zq zq zq h k=>exec_assign1 (hs _) (swapped_of O hw) (he _) ((x R fr ow τ O S).use h fun p τ1 v h t1 S v1=>(y R fr ow τ1 v p O S v1).use h fun fr2 ow2 τ2 h t2 S=>k _ fr2 ow2 τ2 _ h (t1.trans t2) S .nx)
end
section
variable {cx:Cx}
noncomputable def dTup2o (i j:Nat) (d1:DE) (d2:DO):DS:=fun o fr G Q=>d1 o fr G fun a G=>d2 o fr G fun c G=>Q .nx ((fr.set i (.val a)).set j c.lv) G
theorem X.tup2o {x1 x2:Str} {k1 k2:NameKind} {i j:Nat} {n1 n2:Pos} {e1 e2:Expr} {k k3:Nat} {p p2 pos:Pos} {d1:DE} {d2:DO} (hm1:(x1,k1,i) ∈ cx.tb) (hm2:(x2,k2,j) ∈ cx.tb) (hk1:(k1 == .free) = false) (hk2:(k2 == .free) = false)
  (hw:swapOf cx.tb [.Name x1 n1,.Name x2 n2] [e1,e2] = some none) (hs:∀ env,swapsWithSole [.Tuple [.Name x1 n1,.Name x2 n2] k p] (.Tuple [e1,e2] k3 p2) pos.line env = pure false)
  (he:∀ env,starEach [e1,e2] env = (false,eval e1 env) :: starEach [e2] env /\ starEach [e2] env = [(false,eval e2 env)])
  (x:SE cx e1 d1) (y:SO cx e2 d2):SX cx (.Assign [.Tuple [.Name x1 n1,.Name x2 n2] k p] (.Tuple [e1,e2] k3 p2) pos) (dTup2o i j d1 d2) :=
 fun R fr ow τ O S=>.mk fun Q Q' E' h kk=>exec_assign1 (hs _) (swapped_of O hw) rfl (PyProof.Rows.Tuple_ (PyProof.Rows.args_cons ((x R fr ow τ O S).use h fun a τ1 u h t1 S1 v1=>PyProof.Rows.args_cons ((y R fr ow τ1 O S1).use h fun c τ2 w h t2 S2 v2=>PyProof.Rows.args_nil (by
  obtain ⟨b,ob,hb,c2,N⟩:=v2
  refine wpAny_newObj_type ?_ (by show 2 <= sizeLine; rw [sizeLine_eq]; decide)
  refine PyProof.Rows.assign_Tuple_tuple O.room.hd (items:=#[u,.ref b]) ⟨_,Heap.get?_push_size _ rfl,rfl,0,rfl⟩ rfl rfl fun h3 he3=>?_
  have up:∀ b ob,τ2.h.get? b = some ob -> h3.get? b = some ob:=fun b ob e=>he3 b ob (Nat.ne_of_lt (Heap.lt_size (Heap.get?_push_of_some _ e))) (Heap.get?_push_of_some _ e)
  have S4:St R fr ow ⟨τ2.G,τ2.Φ,{ τ2.s with heap:=h3 }⟩:=S2.keepAll up
  have S5:=S4.addStill (st:=[(b,ob)]) nd1 (fun a ha=>one ha ▸ N) fun p hp=>by cases List.mem_singleton.mp hp; exact up _ _ hb
  show wpAny _ _ (holding [.ref b] (PySem.assign (.Name x1 n1) R.X.env u) >>= fun zq=>holding [] (PySem.assign (.Name x2 n2) R.X.env (.ref b)) >>= fun zq=>pure ()) _ _ _
  refine wpAny_bind (wpAny_holding (PyProof.Rows.assign_Name (St.storeV (R:=R.st [(b,ob)]) (O.add _) S5 hm1 hk1 (VR.mono t2.le _ _ v1) fun τ5 e5 t5 S6=>?_)))
  refine wpAny_bind (wpAny_holding (PyProof.Rows.assign_Name (St.storeO O (S6.restill O (s':=τ5.s) fun zq zq zq e=>e) hm2 hk2 ⟨b,ob,S6.still _ (.head _),c2.mono t5.le,S6.newOf O (.head _)⟩ fun a' τ6 e6 t6 S7=>?_)))
  have e7:τ6.G = τ2.G:=e6.trans e5
  exact wpAny_pure (kk _ _ _ τ6 _ (by rw [e7]; exact h) (t1.trans (t2.trans ((To.heap (τ:=τ2)).trans (t5.trans t6)))) S7 .nx))) (he _).2) (he _).1))
end
section
theorem plain_update_loop:plainId "dict.update.loop" = true:=by decide +kernel
theorem entry_update_loop:entryFor table "dict.update.loop" = some Builtin.«dict.update.loop»:=entryFor_of_fast (by kernel_rfl)
section
variable {prog:Program} {w:World} {A:Around} {E:Value -> Shared -> Prop} {s:Shared}
theorem keys_none_list {a:Addr} {vs:List Value} {k:Nat} {Q:Option Value -> Shared -> Prop} (hx:s.heap.get? a = some (lstO vs k)) (hA:A.handled = none)
  (h:∀ h' tk,(∀ b o,s.heap.get? b = some o -> h'.get? b = some o) -> Q none { s with heap:=h',toks:=tk }):wpAny (model prog w) A (getAttr? (.ref a) "keys") Q E s:=by
 obtain ⟨hp,g,d,tk,os⟩:=s
 have hx:hp.get? a = some { cls:=.type "list",dict:=none,data:=.seq vs.toArray k,slots:=#[] }:=hx
 have hT:∀ tk',(⟨hp,g,d,tk',os⟩:Shared).TypeIs (.ref a) "list":=fun zq=>⟨_,hx,rfl⟩
 have f1:=sub_AttributeError
 have f3:=F.slot_list_getattribute.lookup
 have f4:=F.slot_list_getattribute.bind (.ref a)
 have f5:=am_list_getattr_none
 have hmiss:typeLookup (.type "list") "keys" = pure none:=am_miss_of_fast (by kernel_rfl)
 have hname:(["__module__","__name__","__qualname__","__doc__","__annotations__"]:List Str).contains "keys" = false:=by decide +kernel
 unfold getAttr? getAttrBy? getAttrBy
 repeat (any_goals (first | assumption | exact hT _ | ((with_reducible show wpAny _ _ (call (Value.builtin "list.__getattribute__") _ _) _ _ _); refine call_meets F.slot_list_getattribute (hT _) am_entry_list_getattribute (F.args_list_getattribute_2 _ _) (meets_getattribute_miss_list a vs.toArray k _ "keys" _ hmiss hname) ⟨hx,hA,fun h' tk' e hx'=>?_⟩) | wp_step))
 obtain ⟨t',u',he⟩:=hx'.there
 show wpAny _ _ (getattributeRaised _ _ _ _ _ _ _) _ _ _
 unfold getattributeRaised
 repeat (any_goals (first | assumption | wp_step))
 all_goals first | exact h _ _ hx'.keeps | skip
noncomputable def Kp (d:Addr) (h h':Heap):Prop:=∀ b o,b ≠ d -> h.get? b = some o -> h'.get? b = some o
inductive UpdAt (prog:Program) (w:World) (A:Around) (d:Addr) (D:Nat -> Heap -> Prop) (h0:Heap) (i:Nat):Value -> Prop
 | mk (T:Addr) (k x:Value) (c:Nat) (n:T ≠ d) (e:h0.get? T = some (tupO [k,x] c))
  (st:∀ (A':Around) (s:Shared) (Q:Unit -> Shared -> Prop) (E:Value -> Shared -> Prop),A'.units <= A.units + 5 -> D i s.heap -> Kp d h0 s.heap -> (∀ h' tk,D (i + 1) h' -> Kp d s.heap h' -> Q () { s with heap:=h',toks:=tk }) -> wpAny (model prog w) A' (dictSet d k x) Q E s):UpdAt prog w A d D h0 i (.ref T)
noncomputable abbrev updCode (d it:Addr) (i:Int) (res:Value):Code:=.builtin "dict.update.loop" ⟨[.ref d,.ref it,rawInt i,res],[]⟩
theorem upd_loop {A0:Around} {d it L:Addr} {vs:List Value} {m:Nat} {h0:Heap} {res:Value} {R:Result -> Shared -> Prop} (D:Nat -> Heap -> Prop) (hh:A.handled = none) (hu:A.in1.units <= A0.units + 5) (hL:h0.get? L = some (lstO vs m)) (hLd:L ≠ d) (hi:h0.get? it = none) (hdi:d ≠ it)
  (hDf:∀ i h h',D i h -> (∀ o,h.get? d = some o -> h'.get? d = some o) -> D i h') (hst:∀ i v,vs[i]? = some v -> UpdAt prog w A0 d D h0 i v) (hR:∀ h' tk,D vs.length h' -> Kp d h0 h' -> R (.ok (.ret res)) { s with heap:=h',toks:=tk }) (n:Nat) :
  ∀ (i:Nat) (h1:Heap) (t1:Nat),i + n = vs.length -> D i h1 -> h1.IsListIter it L i -> Kp d h0 h1 -> codeAny (model prog w) A (updCode d it (i:Int) res) R { s with heap:=h1,toks:=t1 }:=by
 have ni:∀ {b o},h0.get? b = some o -> b ≠ it:=fun e q=>by subst q; exact nomatch hi.symm.trans e
 induction n with
 | zero =>
  intro i h1 t1 hk hD hit hf
  have hk:i = vs.length:=hk
  subst hk
  refine codeAny_builtin entry_update_loop ?_
  rw [Around.under_plainId plain_update_loop _]
  show wpAny _ A.in1 (pyNext (.ref it) >>= _) _ _ _
  exact wpAny_bind (wpAny_pyNext_list_end hh hit (isListOf (hf _ _ hLd hL)) (by simp) fun h' he=>wpAny_pure (hR h' _ (hDf _ _ _ hD fun o=>he _ _ hdi) fun b o h2 e=>he _ _ (ni e) (hf _ _ h2 e)))
 | succ n ih =>
  intro i h1 t1 hk hD hit hf
  have hlt:i < vs.length:=hk ▸ Nat.lt_add_of_pos_right (Nat.succ_pos n)
  have hv:=List.getElem?_eq_getElem hlt
  have U:=hst i vs[i] hv
  generalize vs[i] = v at hv U
  obtain ⟨T,k,x,c,hTd,hT,st⟩:=U
  refine codeAny_builtin entry_update_loop ?_
  rw [Around.under_plainId plain_update_loop _]
  show wpAny _ A.in1 (pyNext (.ref it) >>= _) _ _ _
  refine wpAny_bind (wpAny_pyNext_list_item hit (isListOf (hf _ _ hLd hL)) (x:=.ref T) ((List.getElem?_toArray ..).trans hv) fun h2 hit2 hs2=>?_)
  have hf2:Kp d h0 h2:=fun b o q e=>hs2.extBut _ _ (ni e) (hf b o q e)
  have hT2:=hf2 _ _ hTd hT
  refine wpAny_bind (wpAny_holding (wpAny_bind (wpAny_tryCatch ?_)))
  show wpAny _ _ (typeOf (.ref T) >>= _) _ _ _
  refine wpAny_bind (wpAny_typeOf (T:="tuple") ⟨_,hT2,rfl⟩ ?_)
  rw [if_pos (by decide)]
  refine wpAny_bind (wpAny_seqItems hT2 rfl (wpAny_pure ?_))
  show wpAny _ _ (holding [k,x] (dictSet d k x)) _ _ _
  refine wpAny_holding (st A.in1 { s with heap:=h2,toks:=_ } _ _ hu (hDf _ _ _ hD fun o=>hs2.extBut _ _ hdi) hf2 fun h3 t3 hD3 hk3=>wpAny_pure ⟨plainId_quiet plain_update_loop _,?_⟩)
  exact ih (i + 1) h3 t3 ((Nat.succ_add i n).trans hk) hD3 (by obtain ⟨o,ho,r⟩:=hit2; exact ⟨o,hk3 _ _ hdi.symm ho,r⟩) fun b o q e=>hk3 _ _ q (hf2 _ _ q e)
theorem updFrom {d L:Addr} {vs:List Value} {m:Nat} {id:String} {res:Value} {Q:Fin -> Shared -> Prop} (hh:A.handled = none) (hL:s.heap.get? L = some (lstO vs m))
  (hQ:∀ it h' tk,(∀ b o,s.heap.get? b = some o -> h'.get? b = some o) -> s.heap.get? it = none -> h'.IsListIter it L 0 -> Q (.again (updCode d it 0 res)) { s with heap:=h',toks:=tk }) :
  wpAny (model prog w) A (Builtin.Dict.updateFrom id d (.ref L) [] res) Q E s:=by
 unfold Builtin.Dict.updateFrom
 refine wpAny_bind (wpAny_typeOf (T:="list") ⟨_,hL,rfl⟩ ?_)
 rw [if_pos (by decide)]
 refine wpAny_bind (keys_none_list hL hh fun h1 tk1 hk1=>?_)
 rw [if_pos (show (none:Option Value).isNone = true from rfl)]
 refine wpAny_bind (wpAny_rule (wpAny_bind (wpAny_pyIter_list (s:={ s with heap:=h1,toks:=tk1 }) (isListOf (hk1 _ _ hL)) (wpAny_pure ?_))))
 refine hQ _ _ _ (fun b o e=>Heap.get?_push_of_some _ (hk1 _ _ e)) ?_ ⟨_,Heap.get?_push_size _ rfl,rfl,rfl⟩
 exact not_some fun ⟨o,e⟩=>Nat.lt_irrefl _ (Heap.lt_size (hk1 _ _ e))
end
end
section
noncomputable def pr2 (p:PV):Option (PV × PV):=match p with | .tup l=>(match l with | [a,b]=>some (a,b) | _=>none) | _=>none
noncomputable def fPairsS:List PV -> (List (Nm × PV) -> Prop) -> Prop
 | [],Q=>Q []
 | p :: l,Q=>oq (pr2 p) fun ab=>oq (pvS ab.1) fun k=>fPairsS l fun r=>Q ((k,ab.2) :: r)
noncomputable def isInts:List PV -> (List Int -> Prop) -> Prop
 | [],Q=>Q []
 | p :: l,Q=>oq (pvI p) fun i=>isInts l fun r=>Q (i :: r)
noncomputable def fPairsT:List PV -> (List (List Int) -> Prop) -> Prop
 | [],Q=>Q []
 | p :: l,Q=>oq (pr2 p) fun ab=>oq (pvU ab.1) fun t=>isInts t fun x=>fPairsT l fun r=>Q (x :: r)
section
variable {P:PW} {Φ:Fz}
inductive Pr (P:PW) (Φ:Fz) (a b:PV):Value -> Prop | mk (T:Addr) (u w:Value) (c:Nat) (f:Φ.fz T = some (tupO [u,w] c)) (x:VR P Φ a u) (y:VR P Φ b w):Pr P Φ a b (.ref T)
theorem pr2.el {p:PV} {ab:PV × PV} {v:Value} (h:pr2 p = some ab) (x:VR P Φ p v):Pr P Φ ab.1 ab.2 v:=by
 unfold pr2 at h
 split at h
 ·split at h
  ·cases h
   obtain ⟨T,ws,c,f,u1,_,x,u2,_,y,⟨⟩⟩:=x
   exact ⟨T,u1,u2,c,f,x,y⟩
  ·cases h
 ·cases h
inductive AtS (Φ:Fz) (kvs:List (Str × Value)) (i:Nat):Value -> Prop | mk (T:Addr) (k:Str) (x:Value) (c:Nat) (tk:Tok) (f:Φ.fz T = some (tupO [.str k tk,x] c)) (e:kvs[i]? = some (k,x)):AtS Φ kvs i (.ref T)
structure PairsS (P:PW) (Φ:Fz) (q:List (Nm × PV)) (kvs:List (Str × Value)) (vs:List Value):Prop where
 v:VRd P Φ q kvs
 n:kvs.length = vs.length
 at_:∀ i v,vs[i]? = some v -> AtS Φ kvs i v
theorem fPairsS.el {l:List PV} {K:List (Nm × PV) -> Prop} {vs:List Value} {C:Prop} (h:fPairsS l K) (x:VRs P Φ l vs) (k:∀ q kvs,K q -> PairsS P Φ q kvs vs -> C):C:=by
 induction l generalizing vs K with
 | nil=>cases x; exact k [] [] h ⟨⟨⟩,rfl,fun i v h=>nomatch h⟩
 | cons p l ih =>
  obtain ⟨v,r,x1,x2⟩:=x
  refine oq.el h fun ab e h=>oq.el h fun s es h=>ih h x2 fun q kvs h y=>?_
  obtain ⟨T,u,w,c,f,g1,g2⟩:=pr2.el e x1
  obtain ⟨a,b⟩:=ab
  have es:pvS a = some s:=es
  cases a with
  | str s' =>
   cases es
   obtain ⟨tk⟩:=g1
   refine k _ ((toS s,w) :: kvs) h ⟨⟨w,kvs,g2,y.v⟩,congrArg (fun q=>q + 1) y.n,fun i v hi=>?_⟩
   cases i with
   | zero=>cases hi; exact ⟨T,toS s,w,c,tk,f,rfl⟩
   | succ i=>obtain ⟨T,k,x,c,tk,f,e⟩:=y.at_ i v hi; exact ⟨T,k,x,c,tk,f,e⟩
  | _=>cases es
theorem isInts.el {l:List PV} {K:List Int -> Prop} {vs:List Value} {C:Prop} (h:isInts l K) (x:VRs P Φ l vs) (k:∀ q,K q -> ItemsAre P.ik q vs -> C):C:=by
 induction l generalizing vs K with
 | nil=>cases x; exact k [] h .nil
 | cons p l ih =>
  obtain ⟨v,r,x1,x2⟩:=x
  refine pvI.el (C:=fun v=>(∀ q,K q -> ItemsAre P.ik q (v :: r) -> C) -> C) h x1 (fun i t h k=>ih h x2 fun q h y=>k _ h (.cons (ikeyIs i t) y)) k
inductive AtT (P:PW) (Φ:Fz) (q:List (List Int)) (i:Nat):Value -> Prop
 | mk (T:Addr) (k:List Int) (a:Addr) (x:Value) (c:Nat) (us:List Value) (m:Nat) (f:Φ.fz T = some (tupO [.ref a,x] c)) (e:q[i]? = some k) (g:Φ.fz a = some (tupO us m)) (y:ItemsAre P.ik k us):AtT P Φ q i (.ref T)
structure PairsT (P:PW) (Φ:Fz) (q:List (List Int)) (vs:List Value):Prop where
 n:q.length = vs.length
 at_:∀ i v,vs[i]? = some v -> AtT P Φ q i v
theorem fPairsT.el {l:List PV} {K:List (List Int) -> Prop} {vs:List Value} {C:Prop} (h:fPairsT l K) (x:VRs P Φ l vs) (k:∀ q,K q -> PairsT P Φ q vs -> C):C:=by
 induction l generalizing vs K with
 | nil=>cases x; exact k [] h ⟨rfl,fun i v h=>nomatch h⟩
 | cons p l ih =>
  obtain ⟨v,r,x1,x2⟩:=x
  refine oq.el h fun ab e h=>oq.el h fun t et h=>?_
  obtain ⟨T,u,w,c,f,g1,g2⟩:=pr2.el e x1
  obtain ⟨a,b⟩:=ab
  have et:pvU a = some t:=et
  cases a with
  | tup t' =>
   cases et
   obtain ⟨a,us,m,fa,ga⟩:=g1
   refine isInts.el h ga fun x h ix=>ih h x2 fun q h y=>k _ h ⟨congrArg (fun q=>q + 1) y.n,fun i v hi=>?_⟩
   cases i with
   | zero=>cases hi; exact ⟨T,x,a,w,c,us,m,f,rfl,fa,ix⟩
   | succ i=>obtain ⟨T,k,a,x,c,us,m,f,e,g,y⟩:=y.at_ i v hi; exact ⟨T,k,a,x,c,us,m,f,e,g,y⟩
  | _=>cases et
end
end
section
variable {cx:Cx}
theorem ne_none {h:Heap} {a b:Addr} {o:Obj} (x:h.get? b = none) (y:h.get? a = some o):a ≠ b:=fun q=>by subst q; exact nomatch x.symm.trans y
theorem dict_of_list {prog:Program} {w:World} {A:Around} {E:Value -> Shared -> Prop} {s:Shared} {L:Addr} {vs:List Value} {m:Nat} {Q:Value -> Shared -> Prop} (D:Nat -> Heap -> Prop) (hh:A.handled = none) (hL:s.heap.get? L = some (lstO vs m))
  (hD0:D 0 (s.heap.push { cls:=.type "dict",data:=.dict #[] })) (hDf:∀ i h h',D i h -> (∀ o,h.get? s.heap.objs.size = some o -> h'.get? s.heap.objs.size = some o) -> D i h')
  (hst:∀ i v,vs[i]? = some v -> UpdAt prog w A s.heap.objs.size D (s.heap.push { cls:=.type "dict",data:=.dict #[] }) i v)
  (hQ:∀ h' tk,D vs.length h' -> (∀ b o,s.heap.get? b = some o -> h'.get? b = some o) -> Q (.ref s.heap.objs.size) { s with heap:=h',toks:=tk }):wpAny (model prog w) A (call (.type "dict") [.ref L]) Q E s:=by
 refine callType_codes (Q₁:=fun obj s₁=>obj = .ref s.heap.objs.size /\ s₁ = { s with heap:=s.heap.push { cls:=.type "dict",data:=.dict #[] } }) F.kt_called_dict (F.kt_typeCall_dict_1 _) F.entry_dict_init (kt_code_dict_new _ ⟨rfl,rfl⟩) ?_
 rintro obj s₁ ⟨rfl,rfl⟩
 have hT:Shared.TypeIs { s with heap:=s.heap.push { cls:=.type "dict",data:=.dict #[] } } (.ref s.heap.objs.size) "dict":=⟨_,Heap.get?_push_size _ rfl,rfl⟩
 refine ⟨hT,F.args_dict_init_2 _ _,?_⟩
 unfold Builtin.«dict.__init__»
 refine wpAny_bind ?_
 unfold Builtin.Dict.selfAndRest
 refine wpAny_bind (wpAny_notOrdered_dict hT ?_)
 show wpAny _ _ (pure (s.heap.objs.size,[Value.ref L])) _ _ _
 refine wpAny_pure (updFrom (A:=A.in1.in1) hh (Heap.get?_push_of_some _ hL) fun it h1 tk hk hi hit=>⟨plainId_quiet plain_update_loop _,?_⟩)
 have hd:=hk _ _ (Heap.get?_push_size (o:={ cls:=.type "dict",data:=.dict #[] }) s.heap rfl)
 refine upd_loop (A:=A.in1) (A0:=A) (s:=s) (R:=wants _ E) D hh (Nat.add_le_add_left (show 2 <= 5 by decide) A.units) (Heap.get?_push_of_some _ hL) (Nat.ne_of_lt (Heap.lt_size hL)) hi (ne_none hi (Heap.get?_push_size _ rfl)) hDf hst (fun h' tk' hD hf=>⟨rfl,hQ h' tk' hD fun b o e=>hf _ _ (Nat.ne_of_lt (Heap.lt_size e)) (Heap.get?_push_of_some _ e)⟩) vs.length 0 h1 _ (Nat.zero_add _) (hDf _ _ _ hD0 fun o=>hk _ _) hit fun b o zq=>hk b o
theorem update_list {prog:Program} {w:World} {A:Around} {E:Value -> Shared -> Prop} {s:Shared} {d L:Addr} {vs:List Value} {m:Nat} {Q:Value -> Shared -> Prop} (D:Nat -> Heap -> Prop) (hh:A.handled = none) (hL:s.heap.get? L = some (lstO vs m)) (hLd:L ≠ d) (hT:s.TypeIs (.ref d) "dict")
  (hD0:D 0 s.heap) (hDf:∀ i h h',D i h -> (∀ o,h.get? d = some o -> h'.get? d = some o) -> D i h') (hst:∀ i v,vs[i]? = some v -> UpdAt prog w A d D s.heap i v)
  (hQ:∀ h' tk,D vs.length h' -> Kp d s.heap h' -> Q .none { s with heap:=h',toks:=tk }):wpAny (model prog w) A (call (.builtin "dict.update") [.ref d,.ref L]) Q E s:=by
 refine wpAny_call (codeAny_call_builtin F.slot_dict_update.plain F.entry_dict_update (F.slot_dict_update.check _ _ _ _ _ _ _ _ hT (F.args_dict_update_2 _ _) ?_))
 unfold Builtin.«dict.update»
 refine wpAny_bind ?_
 unfold Builtin.Dict.selfAndRest
 refine wpAny_bind (wpAny_notOrdered_dict hT ?_)
 show wpAny _ _ (pure (d,[Value.ref L])) _ _ _
 refine wpAny_pure (updFrom hh hL fun it h1 tk hk hi hit=>⟨plainId_quiet plain_update_loop _,?_⟩)
 obtain ⟨od,hod,_⟩:=hT
 exact upd_loop (A:=A) (A0:=A) (s:=s) (R:=wants Q E) D hh (Nat.add_le_add_left (show 1 <= 5 by decide) A.units) hL hLd hi (ne_none hi hod) hDf hst hQ vs.length 0 h1 _ (Nat.zero_add _) (hDf _ _ _ hD0 fun o=>hk _ _) hit fun b o zq=>hk b o
end
section
variable {cx:Cx}
theorem DictOf.stay {P:PW} {h h':Heap} {d:Addr} {l:List (Str × Value)} (x:h.DictOf P.sk d l) (k:∀ o,h.get? d = some o -> h'.get? d = some o):h'.DictOf P.sk d l:=by obtain ⟨o,es,ep,ho,r⟩:=x; exact ⟨o,es,ep,k _ ho,r⟩
theorem fz_ne {Φ:Fz} {a b:Addr} {o:Obj} (x:Φ.fz b = none) (y:Φ.fz a = some o):a ≠ b:=fun q=>by subst q; exact nomatch x.symm.trans y
theorem updS {P:PW} {Φ:Fz} {A:Around} {d:Addr} {h0:Heap} {kvs mvs:List (Str × Value)} {i:Nat} {v:Value} (x:AtS Φ mvs i v) (hf:∀ a o,Φ.fz a = some o -> h0.get? a = some o) (hd:Φ.fz d = none) (hl:kvs.length + mvs.length <= sizeLine) :
  UpdAt P.prog P.w A d (fun i h=>h.DictOf P.sk d (merged kvs (mvs.take i))) h0 i v:=by
 obtain ⟨T,k,x,c,tk,f,e⟩:=x
 refine ⟨T,_,x,c,fz_ne hd f,hf _ _ f,fun A' s Q E zq hD zq hQ=>?_⟩
 refine wpAny_dictSet_pairs (k:=k) (knd:=P.sk) (by simp [strKind,Value.isStrOf]) hD (fun h2 hd2 hs2=>hQ h2 _ ?_ fun b o hb e=>(hs2.2 b hb).trans e) (Nat.le_trans (merged_length_le _ _) (Nat.le_trans (Nat.add_le_add_left (List.length_take_le' ..) _) hl))
 show h2.DictOf P.sk d (merged kvs (mvs.take (i + 1)))
 rw [List.take_add_one,e,show merged kvs (mvs.take i ++ (some (k,x)).toList) = stored (merged kvs (mvs.take i)) k x from List.foldl_append]
 exact hd2
theorem fit2 {a b:Nat} (x:decide (a <= 900) = true) (y:decide (b <= 900) = true):a + b <= sizeLine:=by
 rw [sizeLine_eq]; exact Nat.le_trans (Nat.add_le_add (of_decide_eq_true x) (of_decide_eq_true y)) (by decide)
noncomputable def fDictLS (p:PV) (Q:CV -> Prop):Prop:=match p with
 | .lst l=>fPairsS l fun q=>bq (decide (q.length <= 900)) (Q (.d (mergeP [] q)))
 | _=>False
theorem p_dictLS:PrimH (fun v=>call (fnV true "dict") [v]) fDictLS vO:=fun cx R fr ow τ hv v p O S x e=>.mk fun Q zq zq h k=>by
 have g:=S.held x e
 cases p with
 | lst l =>
  obtain ⟨b,vs,n,f1,r1⟩:=g
  refine fPairsS.el h r1 fun q kvs h y=>bq.el h fun hl h=>?_
  have N:=St.isNew (τ:=τ) O S get_size
  refine dict_of_list (fun i h=>h.DictOf R.P.sk τ.h.objs.size (merged [] (kvs.take i))) O.room.hd f1 (Heap.DictOf.new τ.h) (fun i h h'=>DictOf.stay) (fun i v hi=>updS (y.at_ i v hi) (fun a o e=>Heap.get?_push_of_some _ (S.core.frz a o e)) N.f ?_) fun h2 tk2 hD hk=>?_
  ·exact fit2 (a:=0) (by decide) (by rw [y.v.length]; exact hl)
  ·rw [<- y.n,List.take_length] at hD
   obtain ⟨ob,ho,dO⟩:=DctO.of hD
   exact k _ ⟨τ.G,τ.Φ,{ τ.s with heap:=h2,toks:=tk2 }⟩ _ h .heap (S.keepAll hk) ⟨_,ob,ho,.d _ ob _ dO (VRd.merge (acc:=[]) ⟨⟩ y.v),N⟩
 | _=>exact h.elim
noncomputable def putDt (a:HV) (fr:Fr) (G:Gs) (l:List (Nm × PV)) (Q:Fr -> Gs -> Prop):Prop:=match a with
 | .sl i=>Q (fr.set i (.od l)) G
 | .rg k=>Q fr (G.set k (.dict l))
 | .v _=>False
theorem pvD.at {p:PV} {l:List (Nm × PV)} (h:pvD p = some l):p = .dct l:=by cases p with | dct=>cases h; rfl | _=>cases h
theorem slPV.od {x:Option LV} {l:List (Nm × PV)} (h:slPV x = some (.dct l)):x = some (.od l):=by
 cases x with | none=>cases h | some y=>cases y with | od=>cases h; rfl | _=>cases h
theorem rgPV.dict {x:Option RA} {l:List (Nm × PV)} (h:rgPV x = some (.dct l)):x = some (.dict l):=by
 cases x with | none=>cases h | some y=>cases y with | dict=>cases h; rfl | _=>cases h
section
variable {R:Rn} {fr:Fr} {ow:List (List Addr)} {τ:Tau}
theorem St.putDt (O:R.Ok cx) (S:St R fr ow τ) {a:HV} {r:Addr} {l l':List (Nm × PV)} {Q:Fr -> Gs -> Prop} {C:Prop} {s':Shared} (hput:putDt a fr τ.G l' Q) (v:Held R.P τ.Φ ow a (.ref r)) (hres:a.res fr τ.G = some (.dct l))
  {kvs:List (Str × Value)} (hl:s'.heap.DictOf R.P.sk r kvs) (hv:VRd R.P τ.Φ l' kvs) (k:∀ b o,b ≠ r -> τ.h.get? b = some o -> s'.heap.get? b = some o) (j:∀ fr' G',Q fr' G' -> St R fr' ow ⟨G',τ.Φ,s'⟩ -> C):C:=by
 cases a with
 | v p=>exact hput.elim
 | sl i =>
  obtain ⟨_,ha⟩:=v
  obtain ⟨ob,ho,dO⟩:=DctO.of hl
  exact j _ _ hput (S.turnOwn O (slPV.od hres) ha k ⟨_,ho⟩ fun v' x=>LO.turn x ho ⟨kvs,dO,hv⟩)
 | rg i =>
  obtain ⟨c,hc⟩:=v
  obtain ⟨e1,m,vs,e3,e4⟩:=S.core.regs.at hc (rgPV.dict hres)
  exact j _ _ hput (S.turnReg O hc (fun b o' hb e=>k b o' (fun q=>hb (q.trans e1.symm)) e) ⟨e1,m,kvs,hv,e1 ▸ hl⟩)
theorem St.heldOffD (S:St R fr ow τ) {a:HV} {r:Addr} {l':List (Nm × PV)} {Q:Fr -> Gs -> Prop} (hput:Mine.Internal.putDt a fr τ.G l' Q) (v:Held R.P τ.Φ ow a (.ref r)):τ.Φ.fz r = none:=by
 cases a with
 | v p=>exact hput.elim
 | sl i=>obtain ⟨_,ha⟩:=v; exact (S.off r (List.mem_append_right _ (List.mem_flatten.mpr ⟨[r],List.mem_of_getElem? ha,.head _⟩))).f
 | rg j=>obtain ⟨c,hc⟩:=v; exact S.core.rfr _ (.a (mem_ras (List.mem_of_getElem? hc)))
end
noncomputable def fUpd (l:List (Nm × PV)) (p:PV) (Q:List (Nm × PV) -> Prop):Prop:=match p with
 | .lst q=>fPairsS q fun r=>bq (decide (l.length <= 900)) (bq (decide (r.length <= 900)) (Q (mergeP l r)))
 | _=>False
noncomputable def dUpd (d:DH) (l:DL):DS:=fun o fr G Q=>dM "dict" d l o fr G fun r G=>oq (r.1.res fr G) fun p=>oq (pvD p) fun l=>ls1 r.2 fun y=>fUpd l y fun l2=>putDt r.1 fr G l2 (Q .nx)
theorem X.update {e e1:Expr} {apos pos pos2:Pos} {d:DH} {l:DL} (hsw:∀ env,swapsWith (.Call (.Attribute e (Str.ofString "update") apos) [e1] [] pos) none pos2.line env = pure false)
  (he:okCall e (Str.ofString "update") [e1] apos pos) (hs:∀ env,starEach [e1] env = [(false,eval e1 env)]) (x:SH cx e d) (y:SL cx [e1] l):SX cx (.Expr (.Call (.Attribute e (Str.ofString "update") apos) [e1] [] pos) pos2) (dUpd d l) :=
 fun R fr ow τ O S=>.mk fun Q Q' E' h j=>wpAny_Expr_any (cmeth F.slot_dict_update F.plainAttrs_dict F.type_dict_update (by decide) O S he hs (fun zq=>rfl) x y h fun a ls r vs τ1 h t1 S1 v1 vv=>oq.el h fun p hp h=>oq.el h fun l1 hl h=>ls1.el h vv fun y1 g vv=>by
  obtain ⟨u,w1⟩:=vv
  have hl:=pvD.at hl
  subst hl
  obtain ⟨_,ob,kvs,f1,sm,dO,g1⟩:=S1.held v1 hp
  cases y1 with
  | lst ql =>
   obtain ⟨La,us,m,fL,gL⟩:=w1
   refine fPairsS.el g gL fun q mvs g y=>bq.el g fun z1 g=>bq.el g fun z2 g=>?_
   have hoff:=S1.heldOffD g v1
   refine update_list (fun i h=>h.DictOf R.P.sk r (merged kvs (mvs.take i))) O.room.hd (S1.core.frz _ _ fL) (fz_ne hoff fL) (dO.at f1).typeIs (dO.at f1) (fun i h h'=>DictOf.stay) (fun i v hi=>updS (y.at_ i v hi) S1.core.frz hoff ?_) fun h2 tk2 hD hk=>?_
   ·exact fit2 (by rw [g1.length]; exact z1) (by rw [y.v.length]; exact z2)
   ·rw [<- y.n,List.take_length] at hD
    exact S1.putDt O (s':={ τ1.s with heap:=h2,toks:=tk2 }) g v1 hp hD (VRd.merge g1 y.v) hk fun fr' G' q S2=>j _ fr' ow ⟨G',τ1.Φ,{ τ1.s with heap:=h2,toks:=tk2 }⟩ _ q (t1.trans .heap) S2 .nx
  | _=>exact g.elim) (nointer O) (hsw _)
end
section
variable {cx:Cx}
noncomputable def putKey (l:List (List Int)) (k:List Int):List (List Int):=cond (l.any fun x=>x == k) l (l ++ [k])
noncomputable def keysOf (q:List (List Int)):List (List Int):=q.foldl putKey []
noncomputable def fDictLT:F1:=fun p Q=>match p with
 | .lst l=>fPairsT l fun q=>bq (decide (q.length <= 900)) (Q (.tdc (keysOf q)))
 | _=>False
theorem keysOf_len {q acc:List (List Int)}:(q.foldl putKey acc).length <= acc.length + q.length:=by
 induction q generalizing acc with
 | nil=>exact Nat.le_refl _
 | cons k q ih =>
  refine Nat.le_trans (ih (acc:=putKey acc k)) ?_
  unfold putKey
  cases acc.any fun x=>x == k with
  | true=>exact Nat.add_le_add_left (Nat.le_succ _) _
  | false=>exact Nat.le_of_eq (by rw [cond_false,List.length_append,Nat.add_assoc]; exact congrArg (acc.length + ·) (Nat.add_comm 1 _))
theorem atKey_any {xs:List (List Int × Addr × Value)} {k:List Int}:(atKey xs k).isSome = (xs.map (fun q=>q.1)).any fun x=>x == k:=by
 unfold atKey
 induction xs with
 | nil=>rfl
 | cons x xs ih =>
  rw [List.map_cons,List.any_cons,<- ih,List.find?_cons]
  refine Decidable.byCases (fun hx:x.1 = k=>?_) fun hx=>?_
  ·rw [decide_eq_true hx,beq_iff_eq.mpr hx]; rfl
  ·rw [decide_eq_false hx,beq_eq_false_iff_ne.mpr hx]; rfl
theorem storedH_keys {xs:List (List Int × Addr × Value)} {k:List Int} {a:Addr} {v:Value}:(storedH xs k a v).map (fun q=>q.1) = putKey (xs.map (fun q=>q.1)) k:=by
 unfold storedH putKey
 rw [atKey_any]
 cases (xs.map (fun q=>q.1)).any fun x=>x == k with
 | true=>exact keys_map_putAt xs k v
 | false=>exact List.map_append
section
variable {P:PW} {Φ:Fz} {h:Heap} {o:Obj} {xs:List (List Int × Addr × Value)}
inductive TAt (P:PW) (Φ:Fz) (d:Addr) (l:List (List Int)) (h:Heap):Prop | mk (ob:Obj) (xs:List (List Int × Addr × Value)) (e:h.get? d = some ob) (t:TctO P Φ.fz ob xs) (q:xs.map (fun q=>q.1) = l):TAt P Φ d l h
theorem key_stored {C:List Int -> Addr -> Prop} {k:List Int} {a:Addr} {v:Value} (x:∀ x ∈ xs,C x.1 x.2.1) (y:C k a):∀ x ∈ storedH xs k a v,C x.1 x.2.1:=by
 unfold storedH
 split
 ·intro z hz
  obtain ⟨z',hz',rfl⟩:=List.mem_map.mp hz
  unfold putAt
  split <;> exact x z' hz'
 ·intro z hz
  exact (List.mem_append.mp hz).elim (x z) fun hz=>List.mem_singleton.mp hz ▸ y
theorem updT {A:Around} {d:Addr} {h0:Heap} {q:List (List Int)} {i:Nat} {v:Value} (x:AtT P Φ q i v) (hf:∀ a o,Φ.fz a = some o -> h0.get? a = some o) (hd:Φ.fz d = none) (hl:decide (q.length <= 900) = true) (hu:A.units + 5 < cLine) :
  UpdAt P.prog P.w A d (fun i h=>TAt P Φ d ((q.take i).foldl putKey []) h) h0 i v:=by
 obtain ⟨T,kk,ta,x,c,us,mm,fT,e,fa,ia⟩:=x
 refine ⟨T,_,x,c,fz_ne hd fT,hf _ _ fT,fun A' s Q E hU hD hK hQ=>?_⟩
 obtain ⟨ob,xs,ho,tO,hkeys⟩:=hD
 have hfz:∀ a o,Φ.fz a = some o -> s.heap.get? a = some o:=fun a o e=>hK _ _ (fz_ne hd e) (hf _ _ e)
 refine wpAny_dictSet_heap (knd:=tupleKind P.ik) (k:=kk) (Nat.lt_of_le_of_lt hU hu) (tupKey_of (hfz _ _ fa) ia) (tO.at hfz ho) (fun h2 hd2 hs2=>hQ h2 _ ?_ fun b o hb e=>(hs2.2 b hb).trans e) ?_
 ·obtain ⟨ob2,es2,ep2,ho2,hx2,hd3,he2,_,hn2⟩:=hd2
  refine ⟨ob2,storedH xs kk ta x,ho2,⟨hx2,⟨es2,ep2,hd3,he2⟩,key_stored (C:=fun k a=>∃ vs n,Φ.fz a = some (tupO vs n) /\ ItemsAre P.ik k vs) tO.k ⟨us,mm,fa,ia⟩,hn2⟩,?_⟩
  rw [storedH_keys,hkeys,List.take_add_one,e,List.foldl_append]; rfl
 ·have e1:xs.length = ((q.take i).foldl putKey []).length:=by rw [<- hkeys,List.length_map]
  rw [e1,sizeLine_eq]
  exact Nat.le_trans keysOf_len (Nat.le_trans (Nat.add_le_add_left (List.length_take_le' ..) _) (Nat.le_trans (Nat.add_le_add_left (of_decide_eq_true hl) _) (by decide)))
end
theorem Room.units5 {n:Nat} {A:Around} (r:Room n A):A.units + 5 < cLine:=Nat.lt_of_le_of_lt (Nat.add_le_add_left (Nat.le_trans (show 5 <= 60 by decide) (Nat.le_add_left _ _)) _) (show A.units + (12 * n + 60) < cLine from Nat.add_assoc _ _ _ ▸ r.u)
theorem p_dictLT:PrimH (fun v=>call (fnV true "dict") [v]) fDictLT vE:=fun cx R fr ow τ hv v p O S x e=>.mk fun Q zq zq h k=>by
 have g:=S.held x e
 cases p with
 | lst l =>
  obtain ⟨b,vs,n,f1,r1⟩:=g
  refine fPairsT.el h r1 fun q h y=>bq.el h fun hl h=>?_
  have N:=St.isNew (τ:=τ) O S get_size
  refine dict_of_list (fun i h=>TAt R.P τ.Φ τ.h.objs.size ((q.take i).foldl putKey []) h) O.room.hd f1 ⟨_,[],Heap.get?_push_size _ rfl,⟨⟨rfl,rfl,rfl⟩,⟨#[],0,rfl,rfl⟩,(fun zq hx=>nomatch hx),List.nodup_nil⟩,rfl⟩ (fun i h h' x k=>by obtain ⟨ob,xs,ho,r,q⟩:=x; exact ⟨ob,xs,k _ ho,r,q⟩)
   (fun i v hi=>updT (y.at_ i v hi) (fun a o e=>Heap.get?_push_of_some _ (S.core.frz a o e)) N.f hl O.room.units5) fun h2 tk2 hD hk=>?_
  rw [<- y.n,List.take_length] at hD
  obtain ⟨ob,xs,ho,tO,hkeys⟩:=hD
  have l2:Fz.le τ.Φ (Fz.put τ.Φ τ.h.objs.size ob):=Fz.le_put N.f
  exact k _ ⟨τ.G,Fz.put τ.Φ τ.h.objs.size ob,{ τ.s with heap:=h2,toks:=tk2 }⟩ _ h ⟨⟨_,_⟩,l2⟩ (St.freeze (τ:=⟨τ.G,τ.Φ,{ τ.s with heap:=h2,toks:=tk2 }⟩) (S.keepAll hk) ho N) ⟨_,ob,xs,Fz.put_self,N.sm,tO.mono l2.f,hkeys⟩
 | _=>exact h.elim
theorem has_heap {P:PW} {A:Around} {E:Value -> Shared -> Prop} {s:Shared} {knd:HeapKind P.prog P.w (List Int)} {d a:Addr} {k:List Int} {xs:List (List Int × Addr × Value)} {Q:Bool -> Shared -> Prop} (hu:knd.room A.in1) (hkey:knd.is s.heap k a) (hd:(d == sysModules) = false) (hm:s.heap.DictOfH knd d xs)
  (h:Q (atKey xs k).isSome { s with toks:=s.toks + knd.draws k }):wpAny P.M A (contains (.ref d) (.ref a)) Q E s:=by
 unfold contains
 try with_reducible refine wpAny_holding ?_
 refine wpAny_bind (wpAny_specialOf hm.typeIs slot_dict_contains.lookup ?_)
 rw [if_neg (by decide)]
 refine wpAny_bind (wpAny_callSpecialUnlessNone?_slot (name:=Str.ofString "__contains__") hm.typeIs slot_dict_contains (wpAny_call_entry slot_dict_contains hm.typeIs entry_dict_contains ?_ (args_dict_contains _ _)))
 show wpAny _ _ (dictGet d (.ref a) >>= _) _ _ s
 refine wpAny_bind (wpAny_dictGet_heap hu hkey hm ?_)
 cases hf:atKey xs k with
 | some p=>rw [hf] at h; exact wpAny_pure ⟨_,rfl,wpAny_truthy_bool h⟩
 | none =>
  rw [hf] at h
  show wpAny _ _ (Builtin.Dict.pendingKey? d (.ref a) >>= _) _ _ _
  exact wpAny_bind (wpAny_pendingKey_other hd (wpAny_pure ⟨_,rfl,wpAny_truthy_bool h⟩))
noncomputable def fNotInT:F2:=fun a b Q=>match a with
 | .tup t=>match b with
  | .tdc l=>isInts t fun k=>Q (.bool !(l.any fun x=>x == k))
  | _=>False
 | _=>False
theorem p_notInT:Prim2 (compareOp .NotIn) fNotInT:=fun cx R fr ow τ va vb a b O S x y=>.mk fun Q Q' E' h k=>by
 cases a with
 | tup t =>
  cases b with
  | tdc l =>
   obtain ⟨ta,us,m,fa,ga⟩:=x
   obtain ⟨d,ob,xs,fd,sm,tO,hkeys⟩:=y
   refine isInts.el h ga fun ks h ix=>?_
   show wpAny _ _ (contains (.ref d) (.ref ta) >>= fun b=>pure (Value.bool (!b))) _ _ _
   refine wpAny_bind (has_heap (knd:=tupleKind R.P.ik) (k:=ks) (Nat.lt_of_le_of_lt (Nat.add_le_add_left (show 1 <= 5 by decide) R.A.units) O.room.units5) (tupKey_of (S.core.frz _ _ fa) ix) sm (tO.at S.core.frz (S.core.frz _ _ fd)) (wpAny_pure (k _ ⟨τ.G,τ.Φ,_⟩ _ h .heap S.tok ?_)))
   show Value.bool _ = Value.bool _
   rw [atKey_any,hkeys]
  | _=>exact h.elim
 | _=>exact h.elim
end
section
variable {cx:Cx}
noncomputable def dRegI:DE:=fun zq zq G Q=>Q (.reg G.length) (G ++ [.idict []])
theorem E.regI {pos:Pos}:SE cx (.Dict [] [] pos) dRegI:=fun R fr ow τ O S=>.mk fun Q zq zq h k=>by
 rw [eval_Dict_empty]
 refine wpAny_bind (wpAny_standAt (wpAny_bind (wpAny_alloc (wpAny_pure ?_))))
 have N:=St.isNew (τ:=τ) O S get_size
 refine k (.reg τ.G.length) ⟨τ.G ++ [RA.idict []],Fz.reg τ.Φ ⟨τ.h.objs.size,τ.h.objs.size⟩,{ τ.s with heap:=τ.h.push { cls:=.type "dict",data:=.dict #[] } }⟩ _ h ⟨⟨_,_⟩,Fz.le_reg⟩
  (St.addReg (g:=.idict []) (c:=⟨τ.h.objs.size,τ.h.objs.size⟩) (τ:=⟨τ.G,τ.Φ,{ τ.s with heap:=τ.h.push { cls:=.type "dict",data:=.dict #[] } }⟩) (S.push O _ _) N N (show RegX _ _ _ _ _ from ⟨rfl,N.sm,[],⟨⟩,Heap.DictOf.new _⟩)) (show IsR _ _ _ from ⟨⟨τ.h.objs.size,τ.h.objs.size⟩,?_⟩)
 rw [S.core.regs.length]; exact List.getElem?_concat_length
section
variable {P:PW} {Φ:Fz}
theorem VRi.length {l:List (Int × PV)} {kvs:List (Int × Value)} (x:VRi P Φ l kvs):kvs.length = l.length:=by
 induction l generalizing kvs with
 | nil=>cases x; rfl
 | cons e l ih=>obtain ⟨v,r,_,y⟩:=x; exact congrArg (fun q=>q + 1) (ih y)
theorem VRi.snoc {k:Int} {p:PV} {v:Value} (y:VR P Φ p v) {l:List (Int × PV)} {kvs:List (Int × Value)} (x:VRi P Φ l kvs):VRi P Φ (l ++ [(k,p)]) (kvs ++ [(k,v)]):=by
 induction l generalizing kvs with
 | nil=>cases x; exact ⟨v,[],y,⟨⟩⟩
 | cons e l ih=>obtain ⟨u,r,g,q⟩:=x; exact ⟨u,_,g,ih q⟩
end
theorem stored_new {kvs:List (Int × Value)} {k:Int} {v:Value} (h:valueAt kvs k = none):stored kvs k v = kvs ++ [(k,v)]:=by
 unfold stored
 rw [if_neg]
 intro ha
 obtain ⟨kv,hkv,hk⟩:=List.any_eq_true.mp ha
 unfold valueAt at h
 exact List.find?_eq_none.mp (Option.map_eq_none_iff.mp h) kv hkv hk
noncomputable def rgX:Option RA -> Option (List (Int × PV)) | some (.idict l)=>some l | _=>none
theorem rgX.at {x:Option RA} {l:List (Int × PV)} (h:rgX x = some l):x = some (.idict l):=by
 cases x with | none=>cases h | some lv=>cases lv with | idict l=>cases h; rfl | _=>cases h
noncomputable def sdIn (m:List (Int × PV)) (k:Int) (c:PV) (i:Nat) (G:Gs) (Q:PV -> Gs -> Prop):Prop:=match fd m k with | some e=>Q e G | none=>Q c (G.set i (.idict (m ++ [(k,c)])))
noncomputable def hvR:HV -> Option Nat | .rg i=>some i | _=>none
noncomputable def dSetdef (d:DH) (l:DL):DE:=fun o fr G Q=>dM "dict" d l o fr G fun r G=>oq (hvR r.1) fun i=>oq (rgX G[i]?) fun m=>ls2 r.2 fun b c=>oq (pvI b) fun k=>bq (decide (m.length <= 900)) (sdIn m k c i G Q)
theorem E.setdef {e e1 e2:Expr} {apos pos:Pos} {d:DH} {l:DL} (he:okCall e (Str.ofString "setdefault") [e1,e2] apos pos) (hs:∀ env,starEach [e1,e2] env = (false,eval e1 env) :: starEach [e2] env) (hp:∀ env,(backTo pos (starEach [e2] env)).any (fun q=>q.1) = false)
  (x:SH cx e d) (y:SL cx [e1,e2] l):SE cx (.Call (.Attribute e (Str.ofString "setdefault") apos) [e1,e2] [] pos) (dSetdef d l) :=
 fun R fr ow τ O S=>.mk fun Q Q' E' h j=>cmeth F.slot_dict_setdefault F.plainAttrs_dict F.type_dict_setdefault (by decide) O S he hs hp x y h fun a ls r vs τ1 h t1 S1 v1 vv=>oq.el h fun i hi h=>oq.el h fun m hm h=>ls2.el h vv fun b c g vv=>by
  obtain ⟨u,w,w1,w2⟩:=vv
  cases a with
  | rg i' =>
   cases hi
   obtain ⟨rc,hrc⟩:=v1
   obtain ⟨e1,sm,kvs,g1,dO⟩:=S1.core.regs.at hrc (rgX.at hm)
   rw [e1] at dO sm
   refine pvI.el (C:=fun u=>wpAny R.M R.A (PySem.call (.builtin "dict.setdefault") [.ref rc.addr,u,w]) Q' E' τ1.s) g w1 fun k t g=>bq.el g fun hl g=>?_
   unfold sdIn at g
   have hval:=VRi.value (s:=k) g1
   generalize fd m k = z at g hval
   refine call_meetsIn F.slot_dict_setdefault dO.typeIs F.entry_dict_setdefault (F.args_dict_setdefault_3 _ _ _) (kt_meets_setdefault R.P.ik rc.addr (ikeyIs k t) sm w) ⟨kvs,dO,by rw [g1.length,sizeLine_eq]; exact Nat.le_trans (of_decide_eq_true hl) (by decide),fun v hv=>?_,fun hv h2 hd2 hs2=>?_⟩
   ·rw [hv] at hval
    obtain ⟨en,_,q⟩:=hval
    exact j _ τ1.tk _ g (t1.trans .tok) S1.tok q
   ·rw [hv] at hval
    cases hval
    rw [stored_new hv] at hd2
    exact j _ ⟨_,τ1.Φ,{ τ1.s with heap:=h2,toks:=_ }⟩ _ g (t1.trans .heap) (S1.turnReg O (s':={ τ1.s with heap:=h2,toks:=_ }) hrc (fun b o' hb e=>(hs2.2 b (fun q=>hb (q.trans e1.symm))).trans e) ⟨e1,e1 ▸ sm,_,g1.snoc w2,e1 ▸ hd2⟩) w2
  | _=>cases hi
end
section
open PySem PySem.W PySem.Spec PySem.Calls PyProof.Rows
section
variable {prog:Program} {w:World} {A:Around} {E:Value -> Shared -> Prop} {s:Shared}
theorem natlt {i:Nat}:¬ ((i:Int) < 0):=Int.not_lt.mpr (Int.natCast_nonneg i)
noncomputable def keyQ (it d:Addr) (i n ep:Nat) (s:Shared) (Q:Option Value -> Shared -> Prop):Option DictEntry -> Prop
 | some e=>∀ h',h'.IsKeyIter it d (i + 1) n ep -> Heap.SameBut it s.heap h' -> Q (some e.key) { s with heap:=h' }
 | none=>∀ h',Heap.ExtBut it s.heap h' -> Q none { s with heap:=h' }
theorem rawkey_next {it d:Addr} {i ep:Nat} {od:Obj} {es:Array DictEntry} {x:Option DictEntry} {Q:Option Value -> Shared -> Prop} (hh:A.handled = none) (hit:s.heap.IsKeyIter it d i es.size ep) (hod:s.heap.get? d = some od) (hdd:od.data = .dict es ep) (hx:es[i]? = x)
  (hQ:keyQ it d i es.size ep s Q x):wpAny (model prog w) A (pyNext (.ref it)) Q E s:=by
 obtain ⟨o,ho,hc,hd⟩:=id hit
 unfold pyNext
 refine wpAny_bind (wpAny_attempt (wpAny_callSpecial?_slot (name:=Str.ofString "__next__") hit.typeIs PySem.F.slot_dict_keyiterator_next
  (wpAny_call_entry PySem.F.slot_dict_keyiterator_next hit.typeIs PySem.F.entry_dict_keyiterator_next ?_ (PySem.F.args_dict_keyiterator_next_1 _))))
 refine wpAny_bind (wpAny_pure (wpAny_bind (wpAny_bind (wpAny_bind (wpAny_typeNameOfWhole_keyiter hit.typeIs (wpAny_pure (wpAny_bind (wpAny_fieldsOf ho hd ?_))))))))
 rw [show Builtin.Dict_items.ownsTuple "dict_keyiterator" = false by decide]
 show wpAny _ _ (if (Value.ref d == Value.none) = true then _ else _) _ _ s
 rw [if_neg (show ¬ ((Value.ref d == Value.none) = true) from Bool.false_ne_true)]
 refine wpAny_bind (wpAny_pure (wpAny_bind (wpAny_dictEntries hod hdd ?_)))
 rw [if_neg (by simp)]
 refine wpAny_bind (wpAny_pure (wpAny_bind (wpAny_dictEpoch hod hdd ?_)))
 rw [if_neg (by simp)]
 refine wpAny_pure ?_
 dsimp only
 rw [if_neg natlt,Int.toNat_natCast,hx]
 cases x with
 | some e =>
  refine wpAny_bind (wpAny_bind (wpAny_typeNameOfWhole_keyiter hit.typeIs (wpAny_pure (wpAny_bind (wpAny_isOneOf_keyiter hit.typeIs ?_)))))
  show wpAny _ _ (setField (.ref it) 1 (rawInt ((i:Int) + 1)) >>= _) _ _ s
  refine wpAny_bind (wpAny_setField ho hd (by simp) ?_)
  have hit':(s.heap.update it (Obj.mapFields (·.setIfInBounds 1 (rawInt ((i:Int) + 1))))).IsKeyIter it d (i + 1) es.size ep :=
   ⟨_,Heap.get?_update_self _ ho (Obj.isFreed_of_fields (Obj.data_mapFields hd _)),(Obj.cls_mapFields ..).trans hc,by rw [Obj.data_mapFields hd]; simp [rawInt]⟩
  refine wpAny_bind (wpAny_holding (wpAny_bind (wpAny_isOneOf_keyiter (s:={ s with heap:=s.heap.update it (Obj.mapFields (·.setIfInBounds 1 (rawInt ((i:Int) + 1)))) }) hit'.typeIs ?_)))
  show wpAny _ _ (pure e.key) _ _ _
  exact wpAny_pure (wpAny_pure ⟨_,rfl,wpAny_pure (hQ _ hit' (Heap.SameBut.update ..))⟩)
 | none =>
  refine wpAny_bind (wpAny_bind (wpAny_typeNameOfWhole_keyiter hit.typeIs (wpAny_pure ?_)))
  show wpAny _ _ (setField (.ref it) 0 .none >>= _) _ _ s
  refine wpAny_bind (wpAny_setField ho hd (by simp) ?_)
  show wpAny _ _ (newExc (.type "StopIteration") [] >>= _) _ _ _
  unfold newExc newTuple
  refine wpAny_bind (wpAny_bind (wpAny_newObj_type ?_ (by size_fits)))
  refine wpAny_bind (m:=firstArgMember _ _) (wpAny_of_eq (a:=Value.none) rfl ?_)
  refine wpAny_newObj_type ?_ (by size_fits)
  unfold raiseNew
  refine wpAny_bind (wpAny_handled ?_)
  rw [show A.in1.handled = none from hh]
  refine wpAny_bind (wpAny_pure (wpAny_throw ?_))
  refine wpAny_bind (wpAny_isInstance (T:="StopIteration") (b:=true) ⟨_,Heap.get?_push_size _ rfl,rfl⟩ isSubtype_stop ?_)
  exact wpAny_pure (hQ _ (((Heap.SameBut.update ..).extBut.push _).push _))
theorem raw_iter {d:Addr} {ep:Nat} {o:Obj} {es:Array DictEntry} {Q:Value -> Shared -> Prop} (hd:(d == sysModules) = false) (ho:s.heap.get? d = some o) (hc:o.cls = .type "dict") (hdat:o.data = .dict es ep)
  (hQ:Q (.ref s.heap.objs.size) { s with heap:=s.heap.push { cls:=.type "dict_keyiterator",data:=.fields #[.ref d,.int 0 0,.int es.size 0,.int ep 0] } }):wpAny (model prog w) A (pyIter (.ref d)) Q E s:=by
 have hT:s.TypeIs (.ref d) "dict":=⟨o,ho,hc⟩
 refine wpAny_pyIter_slot hT PySem.F.slot_dict_iter (wpAny_call_entry PySem.F.slot_dict_iter hT PySem.F.entry_dict_iter ?_ (PySem.F.args_dict_iter_1 _))
 unfold Builtin.«dict.__iter__»
 refine wpAny_bind ?_
 unfold Builtin.Dict.dictSlotNone
 refine wpAny_bind (wpAny_notOrdered_dict hT ?_)
 show wpAny _ _ (pure (Value.ref d)) _ _ s
 refine wpAny_pure ?_
 show wpAny _ _ (Builtin.Dict.showsAll d >>= _) _ _ s
 unfold Builtin.Dict.showsAll
 rw [if_neg (by rw [hd]; exact Bool.false_ne_true)]
 refine wpAny_bind (wpAny_pure (wpAny_bind (wpAny_dictEntries ho hdat (wpAny_bind (wpAny_dictEpoch ho hdat (wpAny_bind (wpAny_newObj_type (wpAny_pure ⟨_,rfl,"dict_keyiterator",_,⟨_,Heap.get?_push_size _ rfl,rfl⟩,PySem.F.slot_dict_keyiterator_next.lookup,?_⟩))))))))
 simpa [rawInt] using hQ
theorem raw_src {d:Addr} {ep:Nat} {o:Obj} {es:Array DictEntry} (hsm:(d == sysModules) = false) (hc:o.cls = .type "dict") (hdat:o.data = .dict es ep):KdlSrc prog w "dict" d d es.size (fun i v=>∃ e,es[i]? = some e /\ e.key = v) (fun h=>h.get? d = some o) where
 type:=fun zq hm=>⟨o,hm,hc⟩
 there:=fun zq hm=>⟨Heap.lt_size hm,Heap.lt_size hm⟩
 keep:=fun zq zq hm hk=>hk d (.inl rfl) o hm
 notList:=by decide
 notTuple:=by decide
 hint:=fun zq zq zq zq hm hq=>kdl_hint_dict ⟨o,hm,hc⟩ hq
 iter:=fun A s hh hm=>⟨_,fun i h=>h.IsKeyIter s.heap.objs.size d i es.size ep /\ h.get? d = some o,(fun zq zq hq=>raw_iter hsm hm hc hdat hq),{
  sub:=fun b hb=>one hb ▸ .head _
  frame:=fun zq zq zq st hk=>⟨st.1.at fun o e=>hk _ (.head _) o e,hk d (.tail _ (.head _)) _ st.2⟩
  item:=fun i s' Q E hi st hQ=>rawkey_next (x:=some es[i]) hh st.1 st.2 hdat (Array.getElem?_eq_getElem hi) fun h' hit' hs' =>
   hQ _ h' s'.toks ⟨es[i],Array.getElem?_eq_getElem hi,rfl⟩ ⟨hit',hs'.extBut _ _ (Nat.ne_of_lt (Heap.lt_size hm)) st.2⟩ fun b o hb e=>hs'.extBut b o (not_one hb) e
  done:=fun s' Q E st hQ=>rawkey_next (x:=none) hh st.1 st.2 hdat (Array.getElem?_eq_none (Nat.le_refl _)) fun h' he'=>hQ h' s'.toks fun b o hb e=>he' b o (not_one hb) e
  self:=fun zq zq zq zq st hQ=>wpAny_pyIter_keyiter st.1 hQ },⟨⟨_,Heap.get?_push_size _ rfl,rfl,rfl⟩,Heap.get?_push_of_some _ hm⟩⟩
theorem sorted_src {T:String} {r d:Addr} {n:Nat} {P:Nat -> Value -> Prop} {OK:Heap -> Prop} {Q:Value -> Shared -> Prop} (K:KdlSrc prog w T r d n P OK) (hh:A.handled = none) (hok:OK s.heap) (hn:n <= sizeLine)
  (h:∀ (D:Addr) (h':Heap) (tk:Nat) (vs:List Value),(∀ b o,s.heap.get? b = some o -> h'.get? b = some o) -> h'.get? D = some (lstO vs 0) -> s.heap.get? D = none -> vs.length = n -> (∀ (j:Nat) (v:Value),vs[j]? = some v -> P j v) ->
   wpAny (model prog w) A.in1 (call (.builtin "list.sort") [.ref D]) (fun zq s'=>Q (.ref D) s') E { s with heap:=h',toks:=tk }) :
  wpAny (model prog w) A (call (.builtin "sorted") [.ref r]) Q E s:=by
 refine Calls.call_function_entry kind_sorted plain_sorted entry_sorted (args_sorted1 _) ?_
 unfold Builtin.«sorted»
 refine wpAny_bind (m:=checkCount "sorted" 1 1 _) (wpAny_pure (wpAny_bind (kdu_collect (A:=A.in1) K hh hok hn fun h' tk acc hk hacc=>?_)))
 have hl:acc.toList.length = n:=Array.length_toList.trans hacc.1
 refine wpAny_bind (wpAny_newList ?_ (by rw [hl]; exact hn))
 have hle:s.heap.get? h'.objs.size = none:=not_some fun ⟨o,q⟩=>absurd (Heap.lt_size (hk _ _ q)) (Nat.lt_irrefl _)
 have hg:=h h'.objs.size (h'.push (lstO acc.toList 0)) tk acc.toList (fun b o e=>Heap.get?_push_of_some _ (hk b o e)) (Heap.get?_push_size _ rfl) hle hl (fun j v e=>hacc.2 j v (Array.getElem?_toList.symm.trans e))
 exact wpAny_bind (wpAny_holding (wpAny_mono hg (fun zq s' x=>wpAny_pure ⟨_,rfl,x⟩) fun zq zq e=>e))
end
end
section
open PySem PySem.W PySem.Spec PySem.Calls PyProof.Rows
noncomputable def kgo {α:Type} (c:Nat -> Nat -> Bool) (t:KasT α):α:=KasT.rec (motive:=fun zq=>α) (fun a=>a) (fun i j zq ih=>ih (c i j)) t
noncomputable def kin {α:Type} (n:Nat) (t:KasT α):Bool:=KasT.rec (motive:=fun zq=>Bool) (fun zq=>true) (fun i j zq ih=>and (Nat.blt i n) (and (Nat.blt j n) (and (ih true) (ih false)))) t
theorem blt_lt {i n:Nat} (h:Nat.blt i n = true):i < n:=Nat.le_of_ble_eq_true h
theorem kgo_wp {α:Type} {cmp:Nat -> Nat -> (Bool -> Shared -> Prop) -> Shared -> Prop} {c:Nat -> Nat -> Bool} {n:Nat} {s:Shared} {G:α -> Shared -> Prop} (hc:∀ i j C,i < n -> j < n -> C (c i j) s -> cmp i j C s) (t:KasT α) (hb:kin n t = true) (h:G (kgo c t) s):t.kasWp cmp G s:=by
 induction t with
 | ret _=>exact h
 | ask i j k ih =>
  obtain ⟨h1,hb⟩:=Bool.and_eq_true_iff.mp hb
  obtain ⟨h2,hb⟩:=Bool.and_eq_true_iff.mp hb
  obtain ⟨h3,h4⟩:=Bool.and_eq_true_iff.mp hb
  exact hc i j _ (blt_lt h1) (blt_lt h2) (ih (c i j) (by cases c i j with | true=>exact h3 | false=>exact h4) h)
noncomputable abbrev d012:List Int:=[0,1,2]
noncomputable def upTo3 (ks:List Int):List Int:=d012.filter fun i=>ks.contains i
noncomputable def sortP (ks:List Int):Array Nat:=kgo (fun i j=>decide (ks.getD i 0 < ks.getD j 0)) (kas_sort ks.length)
noncomputable def ls3:Nat -> List (List Int)
 | 0=>[[]]
 | n + 1=>[] :: (ls3 n).flatMap fun l=>[0 :: l,1 :: l,2 :: l]
theorem mem_ls3 {ks:List Int} (h:ks ⊆ d012):ks ∈ ls3 ks.length:=by
 induction ks with
 | nil=>exact .head _
 | cons k ks ih =>
  refine .tail _ (List.mem_flatMap.mpr ⟨ks,ih fun x hx=>h (.tail _ hx),?_⟩)
  have hk:=h (.head _)
  cases hk with
  | head=>exact .head _
  | tail _ hk=>cases hk with
   | head=>exact .tail _ (.head _)
   | tail _ hk=>cases hk with
    | head=>exact .tail _ (.tail _ (.head _))
    | tail _ hk=>exact nomatch hk
noncomputable def okP (ks:List Int):Bool:=cond (Nat.blt ks.length 2) (upTo3 ks == ks) ((sortP ks).toList.map (fun i=>ks.getD i 0) == upTo3 ks && ((sortP ks).toList.all (fun i=>Nat.blt i ks.length) && kin ks.length (kas_sort ks.length)))
theorem okP_all:(ls3 3).all (fun ks=>!decide ks.Nodup || okP ks) = true:=by kernel_rfl
theorem ls3_le {n m:Nat} (h:n <= m) {x:List Int} (hx:x ∈ ls3 n):x ∈ ls3 m:=by
 induction m generalizing n x with
 | zero=>cases Nat.le_zero.mp h; exact hx
 | succ m ih =>
  cases n with
  | zero=>cases hx with | head=>exact .head _ | tail _ h=>exact nomatch h
  | succ n =>
   cases hx with
   | head=>exact .head _
   | tail _ hx=>obtain ⟨l,h1,h2⟩:=List.mem_flatMap.mp hx; exact .tail _ (List.mem_flatMap.mpr ⟨l,ih (Nat.le_of_succ_le_succ h) h1,h2⟩)
structure Set3 (ks:List Int):Prop where
 nd:ks.Nodup
 sub:ks ⊆ d012
theorem Set3.le {ks:List Int} (x:Set3 ks):ks.length <= 3:=x.nd.length_le_of_subset x.sub
theorem Set3.ok {ks:List Int} (x:Set3 ks):okP ks = true :=
 ((Bool.or_eq_true _ _).mp (List.all_eq_true.mp okP_all ks (ls3_le x.le (mem_ls3 x.sub)))).elim (fun h=>by rw [decide_eq_true x.nd] at h; exact nomatch h) id
inductive Ones (f:Addr -> Option Obj):List Int -> List Value -> Prop
 | nil:Ones f [] []
 | cons (a:Addr) (k:Int) (t:Tok) (n:Nat) (e:f a = some (tupO [.int k t] n)) {ks:List Int} {vs:List Value} (r:Ones f ks vs):Ones f (k :: ks) (.ref a :: vs)
section
variable {prog:Program} {w:World} {A:Around} {E:Value -> Shared -> Prop} {s:Shared} {f:Addr -> Option Obj} {ks:List Int} {vs:List Value}
theorem Ones.len (x:Ones f ks vs):ks.length = vs.length:=by induction x with | nil=>rfl | cons _ _ _ _ _ _ ih=>exact congrArg (fun q=>q + 1) ih
inductive OneAt (f:Addr -> Option Obj):Int -> Value -> Prop | mk (a:Addr) (k:Int) (t:Tok) (n:Nat) (e:f a = some (tupO [.int k t] n)):OneAt f k (.ref a)
theorem Ones.at (x:Ones f ks vs) {i:Nat} (h:i < ks.length):OneAt f (ks.getD i 0) (vs.getD i .none):=by
 induction x generalizing i with
 | nil=>exact nomatch h
 | cons a k t n e _ ih=>cases i with | zero=>exact ⟨a,k,t,n,e⟩ | succ i=>exact ih (Nat.lt_of_succ_lt_succ h)
theorem Ones.pick (x:Ones f ks vs) {out:List Nat} (h:∀ i ∈ out,i < ks.length):Ones f (out.map fun i=>ks.getD i 0) (out.map fun i=>vs.getD i .none):=by
 induction out with
 | nil=>exact .nil
 | cons i out ih =>
  have y:=x.at (h i (.head _))
  rw [List.map_cons,List.map_cons]
  generalize ks.getD i 0 = k at y
  generalize vs.getD i .none = v at y
  obtain ⟨a,k,t,n,e⟩:=y
  exact .cons a k t n e (ih fun j hj=>h j (.tail _ hj))
inductive KatX (h:Heap) (vs:List Value):Prop | mk (fs:List Value) (t:KatTups h vs fs) (l:fs.length = vs.length) (i:∀ v ∈ fs,typeOf v = pure (.type "int")):KatX h vs
theorem Ones.kat (x:Ones f ks vs) {h:Heap} (hf:∀ a o,f a = some o -> h.get? a = some o):KatX h vs:=by
 induction x with
 | nil=>exact ⟨[],trivial,rfl,fun zq h=>nomatch h⟩
 | cons a k t n e _ ih =>
  obtain ⟨fs,t1,l,i⟩:=ih
  exact ⟨.int k t :: fs,⟨⟨a,_,#[.int k t],n,rfl,hf _ _ e,rfl,rfl,rfl⟩,t1⟩,congrArg (fun q=>q + 1) l,fun v hv=>by cases hv with | head=>rfl | tail _ hv=>exact i v hv⟩
theorem tup1_lt {x y:Addr} {a b:Int} {t u:Tok} {n m:Nat} {C:Bool -> Shared -> Prop} (hx:s.heap.get? x = some (tupO [.int a t] n)) (hy:s.heap.get? y = some (tupO [.int b u] m)) (h:C (decide (a < b)) s) :
  wpAny (model prog w) A (keyLt' (tuples' true) (.ref x) (.ref y)) C (fun zq zq=>False) s:=by
 refine kat_lt (xs:=#[.int a t]) (ys:=#[.int b u]) hx rfl hy rfl (kat_cons (wpAny_eqBool_int ?_))
 refine Decidable.byCases (fun e:a = b=>?_) fun e=>?_
 ·subst e
  rw [beq_self_eq_true]
  exact kat_yes (kat_nil (by rw [decide_eq_false (Int.lt_irrefl a)] at h; exact h))
 ·rw [beq_eq_false_iff_ne.mpr e]
  exact kat_no (oneLt_int h)
end
end
section
open PySem PySem.W PySem.Spec PySem.Calls PyProof.Rows
section
variable {prog:Program} {w:World} {A:Around} {E:Value -> Shared -> Prop} {s:Shared} {f:Addr -> Option Obj} {ks:List Int} {vs:List Value}
theorem pair_snd (k:SortKind):(arrOf (SortSt.mk' k (vs.toArray.zip vs.toArray) #[] 7 none)).map (fun q=>q.2) = vs.toArray:=by
 show (vs.toArray.zip vs.toArray).map Prod.snd = _
 rw [List.zip_toArray,List.map_toArray,List.map_snd_zip (Nat.le_refl _)]
theorem sort_ones {D:Addr} {n:Nat} {Q:Value -> Shared -> Prop} (ho:s.heap.get? D = some (lstO vs n)) (x:Ones f ks vs) (y:Set3 ks) (hf:∀ a o,f a = some o -> s.heap.get? a = some o) (hD:f D = none)
  (hQ:∀ h' ws c,h'.get? D = some (lstO ws c) -> Ones f (upTo3 ks) ws -> (∀ b o,b ≠ D -> s.heap.get? b = some o -> h'.get? b = some o) -> Q .none { s with heap:=h' }) :
  wpAny (model prog w) A (call (.builtin "list.sort") [.ref D]) Q E s:=by
 have vl:vs.length <= 3:=x.len ▸ y.le
 refine wpAny_call_entry slot_list_sort ⟨_,ho,rfl⟩ entry_list_sort ?_ (args_list_sort _)
 obtain ⟨e1,ho1⟩:∃ e1,(s.heap.update D (Obj.mapSeq fun zq=>(#[]:Array Value))).get? D = some (lstO [] e1):=⟨_,get?_update_seq (c:="list") (xs:=vs.toArray) (n:=n) ho fun zq=>#[]⟩
 rw [list_sort_plain]
 refine wpAny_bind (listItems_at ho rfl (wpAny_bind (listUpdate_at ho rfl (wpAny_bind (seqEpoch_at ho1 rfl (wpAny_bind (wpAny_newTuple (wpAny_bind (wpAny_newList (wpAny_holding ?_) (Nat.zero_le _))) (by show vs.length <= _; rw [sizeLine_eq]; exact Nat.le_trans vl (by decide)))))) (by rw [List.size_toArray,sizeLine_eq]; exact Nat.le_trans vl (by decide)) (Nat.zero_le _))))
 generalize hH:((s.heap.update D (Obj.mapSeq fun zq=>(#[]:Array Value))).push (seqObj "tuple" vs.toArray 0)).push (seqObj "list" #[] 0) = H
 have up:∀ b o,(s.heap.update D (Obj.mapSeq fun zq=>(#[]:Array Value))).get? b = some o -> H.get? b = some o:=fun b o e=>hH ▸ Heap.get?_push_of_some _ (Heap.get?_push_of_some _ e)
 have hD1:H.get? D = some (lstO [] e1):=up _ _ ho1
 have hup:∀ b o,b ≠ D -> s.heap.get? b = some o -> H.get? b = some o:=fun b o hb e=>up _ _ ((Heap.get?_update_ne _ _ _ _ hb).trans e)
 have hfH:∀ a o,f a = some o -> H.get? a = some o:=fun a o e=>hup _ _ (fun q=>by subst q; exact nomatch hD.symm.trans e) (hf _ _ e)
 show wpAny (model prog w) A.in1 _ _ _ { s with heap:=H }
 dsimp only
 have fin:∀ ws:List Value,Ones f (upTo3 ks) ws -> ∀ aw,aw = ws.toArray ->
   wpAny (model prog w) A.in1 (do
    let touched:=(<- seqEpoch D) != e1
    Builtin.List.listUpdate (.ref D) fun zq=>aw
    if touched then rule "list.sort.modified"; raiseError "ValueError" "list modified during sort"
    ret .none) (fun fin s'=>∃ v,fin = .done (.ret v) /\ Q v s') E { s with heap:=H }:=by
  intro ws h1 aw e
  subst e
  have wl:ws.length <= 3:=h1.len ▸ List.length_filter_le _ _
  refine wpAny_bind (seqEpoch_at hD1 rfl (wpAny_bind (listUpdate_at hD1 rfl ?_ (Nat.zero_le _) (by rw [List.size_toArray,sizeLine_eq]; exact Nat.le_trans wl (by decide)))))
  rw [bne_self_eq_false]
  exact wpAny_pure ⟨_,rfl,hQ _ ws _ (get?_update_seq (c:="list") (xs:=#[]) hD1 _) h1 fun b o hb e=>(Heap.get?_update_ne _ _ _ _ hb).trans (hup b o hb e)⟩
 have ok:=y.ok
 unfold okP at ok
 rw [x.len] at ok
 refine Decidable.byCases (fun h2:vs.toArray.size < 2=>?_) fun h2=>?_
 ·rw [if_pos h2,if_pos h2]
  refine wpAny_bind (wpAny_pure ?_)
  rw [StateT.run_pure]
  refine wpAny_bind (wpAny_pure ?_)
  have h2:vs.length < 2:=by rw [List.size_toArray] at h2; exact h2
  rw [show Nat.blt vs.length 2 = true from Nat.ble_eq_true_of_le h2] at ok
  exact fin vs ((beq_iff_eq.mp ok).symm ▸ x) _ (pair_snd _)
 ·rw [if_neg h2,if_neg h2]
  have h2:2 <= vs.length:=Nat.not_lt.mp (by rw [List.size_toArray] at h2; exact h2)
  rw [show Nat.blt vs.length 2 = false from Bool.eq_false_iff.mpr fun q=>Nat.not_lt.mpr h2 (Nat.le_of_ble_eq_true q)] at ok
  obtain ⟨p1,ok⟩:=Bool.and_eq_true_iff.mp ok
  obtain ⟨p2,p4⟩:=Bool.and_eq_true_iff.mp ok
  have p2:∀ i ∈ (sortP ks).toList,i < ks.length:=fun i hi=>blt_lt (x.len ▸ List.all_eq_true.mp p2 i hi)
  obtain ⟨fs,hT,hl,hi⟩:=x.kat hfH
  refine wpAny_bind (kat_kind (s:={ s with heap:=H }) (T:=.type "int") hT (by rw [hl]; exact Nat.lt_of_lt_of_le (by decide) h2) (fun v hv=>Looks.of_pure (hi v hv)) (by decide) ?_)
  rw [show ((Value.type "int" != Value.type "tuple"):Bool) = true by decide]
  refine wpAny_bind (wpAny_mono (kat_run (Q:=fun st' s'=>∃ p:Array Nat,p.size = vs.length /\ arrOf st' = p.map (kas_item (vs.toArray.zip vs.toArray)) /\ failedOf st' = none /\ p = sortP ks /\ s' = { s with heap:=H })
   (G:=fun p s'=>p = sortP ks /\ s' = { s with heap:=H }) rfl h2 (Nat.lt_of_le_of_lt vl (by decide)) (fun p' st' s' a1 a2 a3 a4=>⟨p',a1,a2,a3,a4.1,a4.2⟩) ?_) ?_ fun zq zq e=>e)
  ·refine kgo_wp (n:=vs.length) (c:=fun i j=>decide (ks.getD i 0 < ks.getD j 0)) (fun i j C hi hj hC=>?_) _ p4 ⟨by unfold sortP; rw [x.len],rfl⟩
   show wpAny _ _ (keyLt' (tuples' true) (vs.getD i Value.none) (vs.getD j Value.none)) C _ _
   have a1:=x.at (x.len.symm ▸ hi)
   have a2:=x.at (x.len.symm ▸ hj)
   generalize ks.getD i 0 = k1 at a1 hC
   generalize vs.getD i Value.none = v1 at a1
   generalize ks.getD j 0 = k2 at a2 hC
   generalize vs.getD j Value.none = v2 at a2
   obtain ⟨a,k1,t,m,g1⟩:=a1
   obtain ⟨b,k2,u,m2,g2⟩:=a2
   exact tup1_lt (s:={ s with heap:=H }) (hfH _ _ g1) (hfH _ _ g2) hC
  ·rintro ⟨⟨⟩,st'⟩ s' ⟨p,hp,har,hf,rfl,rfl⟩
   dsimp only
   rw [kat_snds rfl har,hf]
   have z:=x.pick p2
   rw [beq_iff_eq.mp p1] at z
   exact fin _ z _ rfl
end
end
section
open PySem PySem.W PySem.Spec PySem.Calls PyProof.Rows
noncomputable def one1:List Int -> Option Int | [k]=>some k | _=>none
theorem one1.at {l:List Int} {k:Int} (h:one1 l = some k):l = [k]:=by
 cases l with
 | nil=>cases h
 | cons a l=>cases l with | nil=>cases h; rfl | cons=>cases h
noncomputable def oneInts:List (List Int) -> (List Int -> Prop) -> Prop
 | [],Q=>Q []
 | x :: l,Q=>oq (one1 x) fun k=>bq (d012.contains k) (oneInts l fun r=>Q (k :: r))
theorem oneInts.el {l:List (List Int)} {K:List Int -> Prop} {C:Prop} (h:oneInts l K) (k:∀ ks,K ks -> l = ks.map (fun k=>[k]) -> ks ⊆ d012 -> C):C:=by
 induction l generalizing K with
 | nil=>exact k [] h rfl fun zq h=>nomatch h
 | cons x l ih =>
  refine oq.el h fun i e h=>bq.el h fun c h=>ih h fun ks h e2 sub=>k _ h ?_ fun y hy=>?_
  ·rw [one1.at e,e2]; rfl
  ·cases hy with | head=>exact List.contains_iff_mem.mp c | tail _ hy=>exact sub hy
noncomputable def fSortT (p:PV) (Q:CV -> Prop):Prop:=match p with
 | .tdc l=>oneInts l fun ks=>Q (.l ((upTo3 ks).map fun k=>.tup [.int k]))
 | _=>False
section
variable {P:PW} {Φ:Fz} {f:Addr -> Option Obj} {ks:List Int} {vs:List Value}
inductive IntOne (k:Int):List Value -> Prop | mk (t:Tok):IntOne k [.int k t]
set_option tactic.hygienic true in
theorem one_items {k:Int} (x:ItemsAre P.ik [k] vs):IntOne k vs:=by
 cases x with
 | cons h1 h2 =>
  cases h2
  rename_i v
  cases v with
  | int j t =>
   have:j = k:=by simpa [intKind,Value.isInt] using h1
   subst this; exact ⟨t⟩
  | _=>simp [intKind,Value.isInt] at h1
theorem ones_of {xs:List (List Int × Addr × Value)} (h:xs.map (fun q=>q.1) = ks.map fun k=>[k]) (x:∀ x ∈ xs,∃ us n,f x.2.1 = some (tupO us n) /\ ItemsAre P.ik x.1 us):Ones f ks (xs.map fun x=>.ref x.2.1):=by
 induction xs generalizing ks with
 | nil=>cases ks with | nil=>exact .nil | cons=>exact nomatch h
 | cons y xs ih =>
  cases ks with
  | nil=>exact nomatch h
  | cons k ks =>
   obtain ⟨us,n,e,i⟩:=x y (.head _)
   rw [show y.1 = [k] from (List.cons.inj h).1] at i
   obtain ⟨t⟩:=one_items i
   exact .cons _ k t n e (ih (List.cons.inj h).2 fun z hz=>x z (.tail _ hz))
theorem Ones.vrs (x:Ones Φ.fz ks vs):VRs P Φ (ks.map fun k=>.tup [.int k]) vs:=by
 induction x with
 | nil=>exact ⟨⟩
 | cons a k t n e _ ih=>exact ⟨_,_,⟨a,_,n,e,_,_,⟨t⟩,⟨⟩⟩,ih⟩
theorem nodup_one (h:(ks.map fun k=>[k]).Nodup):ks.Nodup:=by
 rw [List.nodup_iff_pairwise_ne,List.pairwise_map] at h
 rw [List.nodup_iff_pairwise_ne]
 exact h.imp fun h e=>h (by rw [e])
end
theorem p_sortT:PrimH (fun v=>call (fnV false "sorted") [v]) fSortT vO:=fun cx R fr ow τ hv v p O S x e=>.mk fun Q Q' E' h k=>by
 have g:=S.held x e
 cases p with
 | tdc l =>
  obtain ⟨dd,ob,xs,fd,sm,tO,hkeys⟩:=g
  refine oneInts.el h fun ks g2 hl sub=>?_
  subst hl
  obtain ⟨es,ep,hdt,hes⟩:=tO.e
  have y:Set3 ks:=⟨nodup_one (hkeys ▸ tO.nd),sub⟩
  have x1:=ones_of hkeys tO.k
  have hsz:es.size = xs.length:=by rw [<- Array.length_toList,hes,List.length_map]
  have hxl:xs.length = ks.length:=(List.length_map (f:=fun x:List Int × Addr × Value=>Value.ref x.2.1)).symm.trans x1.len.symm
  refine sorted_src (raw_src (o:=ob) sm tO.x.1 hdt) O.room.hd (S.core.frz _ _ fd) (by rw [hsz,hxl,sizeLine_eq]; exact Nat.le_trans y.le (by decide)) fun D h2 tk2 vs hk2 hD hDn hvl hP=>?_
  have hvs:vs = xs.map fun x=>.ref x.2.1:=by
   refine List.ext_getElem? fun i=>?_
   cases q:vs[i]? with
   | none=>exact (List.getElem?_eq_none (by rw [List.length_map,<- hsz,<- hvl]; exact List.getElem?_eq_none_iff.mp q)).symm
   | some v =>
    obtain ⟨en,h1,h2⟩:=hP i v q
    rw [<- Array.getElem?_toList,hes,List.getElem?_map] at h1
    obtain ⟨z,hz,rfl⟩:=Option.map_eq_some_iff.mp h1
    rw [List.getElem?_map,hz]
    exact congrArg some h2.symm
  subst hvs
  have S2:St R fr ow ⟨τ.G,τ.Φ,{ τ.s with heap:=h2,toks:=tk2 }⟩:=S.keepAll hk2
  have fD:τ.Φ.fz D = none:=not_some fun ⟨o,q⟩=>nomatch hDn.symm.trans (S.core.frz _ _ q)
  refine sort_ones (s:={ τ.s with heap:=h2,toks:=tk2 }) hD x1 y S2.core.frz fD fun h4 ws c hD4 z hk4=>?_
  exact k _ ⟨τ.G,τ.Φ,{ τ.s with heap:=h4,toks:=tk2 }⟩ _ g2 .heap (S.keepAll (s':={ τ.s with heap:=h4,toks:=tk2 }) fun b ob' e=>hk4 b ob' (fun q=>by subst q; exact nomatch hDn.symm.trans e) (hk2 _ _ e)) ⟨D,_,hD4,.l _ _ _ z.vrs,St.isNew (τ:=τ) O S hDn⟩
 | _=>exact h.elim
end
section
open PySem PySem.W PySem.Spec PySem.Calls PyProof.Rows
inductive K3:Int -> Prop
 | a:K3 0
 | b:K3 1
 | c:K3 2
theorem K3.of {k:Int} (h:k ∈ d012):K3 k:=by
 cases h with
 | head=>exact .a
 | tail _ h=>cases h with
  | head=>exact .b
  | tail _ h=>cases h with
   | head=>exact .c
   | tail _ h=>exact nomatch h
structure E3 where
 a:Option Tok
 b:Option Tok
 c:Option Tok
noncomputable def es1 (k:Int):Option Tok -> List (Int × Value) | none=>[] | some t=>[(k,.int k t)]
noncomputable def ps1 (n:Nat):Option Tok -> List Nat | none=>[] | some _=>[n]
noncomputable def E3.es (e:E3):List (Int × Value):=es1 0 e.a ++ (es1 1 e.b ++ es1 2 e.c)
noncomputable def E3.places (e:E3):List Nat:=ps1 0 e.a ++ (ps1 1 e.b ++ ps1 2 e.c)
noncomputable def E3.tab (e:E3) (led:Bool):SetTable:=⟨7,e.places.toArray,#[],0,led,0,true⟩
noncomputable def E3.obj (e:E3) (ep:Nat) (led:Bool):Obj:={ cls:=.type "set",dict:=none,data:=.set e.es.toArray ep (e.tab led),slots:=#[] }
noncomputable def E3.put (k:Int) (t:Tok) (e:E3):E3:=cond (k == 0) ⟨e.a.or (some t),e.b,e.c⟩ (cond (k == 1) ⟨e.a,e.b.or (some t),e.c⟩ ⟨e.a,e.b,e.c.or (some t)⟩)
noncomputable abbrev E3.nil:E3:=⟨none,none,none⟩
structure E3.like (e:E3) (l:List Int):Prop where
 a:e.a.isSome = l.contains 0
 b:e.b.isSome = l.contains 1
 c:e.c.isSome = l.contains 2
theorem contains_snoc {l:List Int} {k x:Int}:(l ++ [k]).contains x = (l.contains x || x == k):=by rw [List.contains_eq_any_beq,List.any_append,List.contains_eq_any_beq,List.any_cons,List.any_nil,Bool.or_false]
theorem or_some {x:Option Tok} {t:Tok}:(x.or (some t)).isSome = true:=by cases x <;> rfl
theorem E3.like_put {e:E3} {l:List Int} {k:Int} {t:Tok} (h:e.like l) (hk:K3 k):(e.put k t).like (l ++ [k]):=by
 obtain ⟨h0,h1,h2⟩:=h
 refine ⟨?_,?_,?_⟩ <;> rw [contains_snoc] <;> cases hk <;> first | exact or_some.trans (Bool.or_true _).symm | exact h0.trans (Bool.or_false _).symm | exact h1.trans (Bool.or_false _).symm | exact h2.trans (Bool.or_false _).symm
noncomputable def E3.at (e:E3) (i:Nat):Nat:=match i with | 0=>0 | i + 1=>e.places.getD i 0 + 1
structure E3.Ok (e:E3):Prop where
 fits:∀ led,(e.tab led).fits e.es.toArray.size = true
 full:∀ led,(e.tab led).tooFull = false
 small:Nat.ble e.es.length 3 = true
 len:e.places.length = e.es.length
 below:(List.range (e.es.length + 1)).all (fun i=>SetTable.below e.places.toArray (e.at i) == i) = true
theorem E3.ok (e:E3):e.Ok:=by
 obtain ⟨a,b,c⟩:=e
 cases a <;> cases b <;> cases c <;> exact ⟨fun zq=>rfl,fun zq=>rfl,rfl,rfl,by kernel_rfl⟩
theorem E3.small {e:E3}:e.es.length <= 3:=Nat.le_of_ble_eq_true e.ok.small
noncomputable def pk (k:Int) (x:Bool) (l:List Int):List Int:=match x with | true=>k :: l | false=>l
theorem upTo3_eq (l:List Int):upTo3 l = pk 0 (l.contains 0) (pk 1 (l.contains 1) (pk 2 (l.contains 2) [])):=rfl
theorem E3.like_keys {e:E3} {l:List Int} (h:e.like l):e.es.map (fun q=>q.1) = upTo3 l:=by
 rw [upTo3_eq,<- h.a,<- h.b,<- h.c]
 obtain ⟨a,b,c⟩:=e
 cases a <;> cases b <;> cases c <;> rfl
inductive E3El:Int × Value -> Prop | mk (k:Int) (t:Tok) (h:K3 k):E3El (k,.int k t)
theorem es1_mem {k:Int} {o:Option Tok} {x:Int × Value} (hk:K3 k) (h:x ∈ es1 k o):E3El x:=by
 cases o with
 | none=>exact nomatch h
 | some t=>cases List.mem_singleton.mp h; exact ⟨k,t,hk⟩
theorem E3.mem {e:E3} {x:Int × Value} (h:x ∈ e.es):E3El x :=
 (List.mem_append.mp h).elim (es1_mem .a) fun h=>(List.mem_append.mp h).elim (es1_mem .b) (es1_mem .c)
section
variable {prog:Program} {w:World} {A:Around} {E:Value -> Shared -> Prop} {s:Shared} {a:Addr} {e:E3} {ep:Nat} {led:Bool}
theorem hash_small {k:Int} (hk:K3 k):(intKind prog w).hash k = k:=by cases hk <;> rfl
theorem E3.elems:ElemsOf (intKind prog w) e.es.toArray.toList:=by
 intro x hx
 obtain ⟨k,t,hk⟩:=E3.mem (List.mem_toArray.mp (Array.mem_toList_iff.mp hx))
 exact ⟨⟨k,intKind_is _ _ _ _,(hash_small hk).symm⟩,rfl⟩
noncomputable def StepOk (e:E3) (led:Bool) (k:Int) (t:Tok):Option Nat -> Prop
 | some _=>e.put k t = e
 | none=>layNew (e.tab led) e.es.toArray k (.int k t) = ((e.put k t).es.toArray,(e.put k t).tab led,false,false)
theorem E3.step {k:Int} {t:Tok} (hk:K3 k):StepOk e led k t (e.es.findIdx? (fun x=>(intKind prog w).is k x.2)):=by
 obtain ⟨a,b,c⟩:=e
 cases hk with
 | a=>cases a with
  | some _=>cases b <;> cases c <;> exact rfl
  | none=>cases b <;> cases c <;> (show layNew _ _ _ _ = _; kernel_rfl)
 | b=>cases b with
  | some _=>cases a <;> cases c <;> exact rfl
  | none=>cases a <;> cases c <;> (show layNew _ _ _ _ = _; kernel_rfl)
 | c=>cases c with
  | some _=>cases a <;> cases b <;> exact rfl
  | none=>cases a <;> cases b <;> (show layNew _ _ _ _ = _; kernel_rfl)
theorem set_add {k:Int} {t:Tok} {Q:Bool -> Shared -> Prop} (ho:s.heap.get? a = some (e.obj ep led)) (hk:K3 k)
  (h:∀ (b:Bool) (h':Heap) (ep':Nat),Heap.SameBut a s.heap h' -> h'.get? a = some ((e.put k t).obj ep' led) -> Q b { s with heap:=h',toks:=s.toks + 1 }) :
  wpAny (model prog w) A (setAdd a (.int k t)) Q E s:=by
 have hf:=e.ok.fits led
 unfold setAdd
 refine wpAny_holding (wpAny_bind ((intKind prog w).pyHash (k:=k) (intKind_is _ _ _ _) ?_))
 rw [hash_small hk]
 unfold setAddHashed setAddHashedIn
 refine wpAny_holding (wpAny_bind (wpAny_setState_of (s:={ s with toks:=s.toks + 1 }) ho rfl hf ?_))
 dsimp only
 rw [byScan_of (knd:=intKind prog w) rfl (by rw [List.size_toArray]; exact Nat.lt_of_le_of_lt E3.small (show 3 < scanBound by unfold scanBound; decide)) E3.elems]
 rw [if_pos rfl]
 unfold setAddByScan
 refine wpAny_bind (wpAny_bind (wpAny_rule ?_))
 have hsc:∀ {Q:ScanMet -> Shared -> Prop},Q (match e.es.toArray.toList.findIdx? (fun x=>(intKind prog w).is k x.2) with | some j=>.found (0 + j) | none=>.absent) { s with toks:=s.toks + 1 } -> wpAny (model prog w) A (setScan a (.int k t) k true e.es.toArray) Q E { s with toks:=s.toks + 1 }:=fun {Q} hq=>by
  have:=wpAny_setScan_of (prog:=prog) (w:=w) (knd:=intKind prog w) (A:=A) (E:=E) (Q:=Q) (s:={ s with toks:=s.toks + 1 }) (a:=a) (x:=.int k t) (k:=k) (adding:=true) (intKind_is _ _ _ _) ho rfl hf E3.elems hq
  rw [hash_small hk] at this
  exact this
 refine wpAny_bind (hsc ?_)
 have st:=E3.step (prog:=prog) (w:=w) (e:=e) (led:=led) (t:=t) hk
 rw [List.toList_toArray]
 revert st
 cases e.es.findIdx? (fun x=>(intKind prog w).is k x.2) with
 | some j =>
  intro he
  exact wpAny_pure (wpAny_pure (h false s.heap ep (Heap.SameBut.refl a s.heap) (by rw [show e.put k t = e from he]; exact ho)))
 | none =>
  intro hl
  dsimp only
  rw [show layNew (e.tab led) e.es.toArray k (.int k t) = _ from hl]
  dsimp only
  refine wpAny_bind (wpAny_pure ?_)
  show wpAny _ _ (do let byValue <- hashByValue 8 (.int k t); _) _ _ _
  rw [hashByValue_scannable 8 rfl]
  refine wpAny_bind (wpAny_pure ?_)
  dsimp only [plainKind]
  rw [if_pos rfl]
  refine wpAny_bind (wpAny_storeSet_of (s:={ s with toks:=s.toks + 1 }) ho rfl ?_ (by rw [List.size_toArray,sizeLine_eq]; exact Nat.le_trans E3.small (by decide)))
  rw [(e.put k t).ok.full]
  refine wpAny_pure (wpAny_pure (h true _ (ep + 1) (Heap.SameBut.update s.heap a (Obj.putSet _ _)) ?_))
  have hg:=Heap.get?_update_self (Obj.putSet (e.put k t).es.toArray ((e.put k t).tab led)) ho (by rw [putSet_of _ _ rfl]; rfl)
  rw [putSet_of _ _ rfl] at hg
  exact hg
end
end
section
open PySem PySem.W PySem.Spec PySem.Calls PyProof.Rows
section
variable {prog:Program} {w:World} {A:Around} {E:Value -> Shared -> Prop} {s:Shared} {led:Bool}
theorem callType_via {T newId initId:String} {args:List Value} {Q Q₁:Value -> Shared -> Prop} (ft:TypeCalled T newId initId) (hct:checkTypeCall T ⟨args,[]⟩ = pure ())
  (hnew:codeAny (model prog w) A.in1 (.call (.builtin newId) ⟨.type T :: args,[]⟩) (wants Q₁ E) s)
  (hnext:∀ obj s₁,Q₁ obj s₁ -> s₁.TypeIs obj T /\ codeAny (model prog w) A.in1 (.call (.builtin initId) ⟨obj :: args,[]⟩) (wants (fun r s₂=>r = .none /\ Q obj s₂) E) s₁) :
  wpAny (model prog w) A (call (.type T) args) Q E s:=by
 obtain ⟨c,tl,hmro⟩:=ft.mro
 have hmade:=ft.made
 have hsub:=ft.sub
 refine wpAny_call (codeAny_of_tree ?_)
 show wpAny _ _ (callAny (.type T) _) _ _ _
 refine wpAny_pure ⟨Code.quiet_builtin _ (by decide +kernel),codeAny_builtin F.entry_type_call ?_⟩
 rw [Around.under_plain (weight_type_call_type T args []) rfl]
 have h1:=ft.notType
 have h2:=ft.canCreate
 repeat (any_goals (first | assumption | wp_step))
 refine codeAny_mono hnew fun r s₁ hr=>?_
 cases r with
 | error e=>exact hr
 | ok fl =>
  cases fl with
  | ret obj =>
   obtain ⟨hT,hsi⟩:=hnext _ _ hr
   have hli:=ft.init.lookup
   have hbi:=ft.init.bind obj
   repeat (any_goals (first | assumption | wp_step))
   refine codeAny_mono hsi fun r₂ s₂ hr₂=>?_
   cases r₂ with
   | error e=>exact hr₂
   | ok fl₂ =>
    cases fl₂ with
    | ret r =>
     obtain ⟨rfl,hq⟩:=hr₂
     repeat (any_goals (first | assumption | wp_step))
    | _=>exact hr₂.elim
  | _=>exact hr.elim
theorem set_new1 (a:Value) {Q₁:Value -> Shared -> Prop}
  (h:Q₁ (.ref s.heap.objs.size) { s with heap:=s.heap.push (E3.nil.obj 0 (!w.params.followText "set-order")) }) :
  codeAny (model prog w) A (.call (.builtin "set.__new__") ⟨[.type "set",a],[]⟩) (wants Q₁ E) s:=by
 refine codeAny_of_tree ?_
 show wpAny _ A.in1 (do checkBuiltinCall "set.__new__" ⟨[.type "set",a],[]⟩; again (.builtin "set.__new__" ⟨[.type "set",a],[]⟩)) _ _ s
 refine wpAny_bind (wpAny_of_eq (PySem.F.newCall_set_1 a) (wpAny_pure ⟨plainId_quiet PySem.F.plain_set_new _,codeAny_builtin PySem.F.entry_set_new ?_⟩))
 rw [Around.under_plainId PySem.F.plain_set_new _]
 unfold Builtin.«set.__new__» Builtin.Frozenset.newClass
 have hsub:=sub_set_self
 obtain ⟨hp,g,d,tk,os⟩:=s
 dsimp only
 wp_walk
 refine wpAny_askSetting (wpAny_pure ?_)
 dsimp only
 simp only [newObj]
 refine wpAny_bind (wpAny_alloc (wpAny_pure ?_))
 exact wpAny_pure h
inductive IntAt (ns:List Int) (i:Nat):Value -> Prop | mk (k:Int) (t:Tok) (e:ns[i]? = some k) (h:K3 k):IntAt ns i (.int k t)
inductive SetAt3 (h:Heap) (S:Addr) (led:Bool) (l:List Int):Prop | mk (e:E3) (ep:Nat) (o:h.get? S = some (e.obj ep led)) (k:e.like l):SetAt3 h S led l
theorem SetAt3.to {h h':Heap} {S:Addr} {l:List Int} (x:SetAt3 h S led l) (k:∀ o,h.get? S = some o -> h'.get? S = some o):SetAt3 h' S led l:=by obtain ⟨e,ep,o,q⟩:=x; exact ⟨e,ep,k _ o,q⟩
theorem set_loop {S it L:Addr} {vs:List Value} {m:Nat} {h0:Heap} {ns:List Int} {R:Result -> Shared -> Prop} (hh:A.handled = none) (hL:h0.get? L = some (lstO vs m)) (hLS:L ≠ S) (hi:h0.get? it = none) (hSi:S ≠ it) (hv:∀ i v,vs[i]? = some v -> IntAt ns i v)
  (hn:ns.length = vs.length) (hR:∀ h' tk,SetAt3 h' S led ns -> Kp S h0 h' -> R (.ok (.ret .none)) { s with heap:=h',toks:=tk }) (n:Nat) :
  ∀ (i:Nat) (h1:Heap) (t1:Nat),i + n = vs.length -> SetAt3 h1 S led (ns.take i) -> h1.IsListIter it L i -> Kp S h0 h1 -> codeAny (model prog w) A (.builtin "set.update.loop" ⟨[.ref S,.ref it],[]⟩) R { s with heap:=h1,toks:=t1 }:=by
 have ni:∀ {b o},h0.get? b = some o -> b ≠ it:=fun e=>ne_none hi e
 induction n with
 | zero =>
  intro i h1 t1 hk hS hit hf
  have hk:i = vs.length:=hk
  subst hk
  refine codeAny_builtin PyProof.Rows.F.entry_set_update_loop ?_
  rw [Around.under_plainId PyProof.Rows.F.plain_set_update_loop _]
  show wpAny _ A.in1 (pyNext (.ref it) >>= _) _ _ _
  refine wpAny_bind (wpAny_pyNext_list_end hh hit (isListOf (hf _ _ hLS hL)) (by simp) fun h' he=>?_)
  show wpAny _ A.in1 (ret Value.none) _ _ _
  rw [<- hn,List.take_length] at hS
  exact wpAny_pure (hR h' _ (hS.to fun o=>he _ _ hSi) fun b o h2 e=>he _ _ (ni e) (hf _ _ h2 e))
 | succ n ih =>
  intro i h1 t1 hk hS hit hf
  have hlt:i < vs.length:=hk ▸ Nat.lt_add_of_pos_right (Nat.succ_pos n)
  have hvi:=List.getElem?_eq_getElem hlt
  have U:=hv i vs[i] hvi
  generalize vs[i] = v at hvi U
  obtain ⟨k,t,hx,k3⟩:=U
  refine codeAny_builtin PyProof.Rows.F.entry_set_update_loop ?_
  rw [Around.under_plainId PyProof.Rows.F.plain_set_update_loop _]
  show wpAny _ A.in1 (pyNext (.ref it) >>= _) _ _ _
  refine wpAny_bind (wpAny_pyNext_list_item hit (isListOf (hf _ _ hLS hL)) (x:=.int k t) ((List.getElem?_toArray ..).trans hvi) fun h2 hit2 hs2=>?_)
  have hf2:Kp S h0 h2:=fun b o q e=>hs2.extBut _ _ (ni e) (hf b o q e)
  obtain ⟨e,ep,ho,hl⟩:=hS.to (h':=h2) fun o=>hs2.extBut _ _ hSi
  show wpAny _ A.in1 (holding [Value.int k t] (setAdd S (.int k t)) >>= _) _ _ _
  refine wpAny_bind (wpAny_holding (set_add (s:={ s with heap:=h2,toks:=_ }) ho k3 fun b h3 ep' hsb ho2=>wpAny_pure ⟨plainId_quiet PyProof.Rows.F.plain_set_update_loop _,?_⟩))
  refine ih (i + 1) h3 _ ((Nat.succ_add i n).trans hk) ⟨_,_,ho2,?_⟩ (by obtain ⟨o,ho,r⟩:=hit2; exact ⟨o,(hsb.2 _ hSi.symm).trans ho,r⟩) fun b o q e=>(hsb.2 _ q).trans (hf2 _ _ q e)
  rw [List.take_add_one,hx]
  exact E3.like_put hl k3
end
end
section
open PySem PySem.W PySem.Spec PySem.Calls PyProof.Rows
section
variable {prog:Program} {w:World} {A:Around} {E:Value -> Shared -> Prop} {s:Shared} {led:Bool}
theorem call_set_ints {L:Addr} {vs:List Value} {m:Nat} {ns:List Int} {Q:Value -> Shared -> Prop} (hh:A.handled = none) (hL:s.heap.get? L = some (lstO vs m)) (hv:∀ i v,vs[i]? = some v -> IntAt ns i v) (hn:ns.length = vs.length)
  (h:∀ h' tk,SetAt3 h' s.heap.objs.size (!w.params.followText "set-order") ns -> (∀ b o,s.heap.get? b = some o -> h'.get? b = some o) -> Q (.ref s.heap.objs.size) { s with heap:=h',toks:=tk }) :
  wpAny (model prog w) A (call (.type "set") [.ref L]) Q E s:=by
 refine callType_via (Q₁:=fun obj s₁=>obj = .ref s.heap.objs.size /\ s₁ = { s with heap:=s.heap.push (E3.nil.obj 0 (!w.params.followText "set-order")) }) PySem.F.called_set (PySem.F.typeCall_set_1 _) (set_new1 _ ⟨rfl,rfl⟩) ?_
 rintro obj s₁ ⟨rfl,rfl⟩
 generalize (!w.params.followText "set-order") = led at h ⊢
 have hS:(s.heap.push (E3.nil.obj 0 led)).get? s.heap.objs.size = some (E3.nil.obj 0 led):=Heap.get?_push_size _ rfl
 have hT:Shared.TypeIs { s with heap:=s.heap.push (E3.nil.obj 0 led) } (.ref s.heap.objs.size) "set":=⟨_,hS,rfl⟩
 refine ⟨hT,codeAny_call_builtin PySem.F.called_set.init.plain PySem.F.entry_set_init (check_set_init_1 hT ?_)⟩
 have hL1:(s.heap.push (E3.nil.obj 0 led)).get? L = some (lstO vs m):=Heap.get?_push_of_some _ hL
 have hl1:=isListOf hL1
 have hL1':(s.heap.push (E3.nil.obj 0 led)).get? L = some { cls:=.type "list",dict:=none,data:=.seq vs.toArray m,slots:=#[] }:=hL1
 have hsls:=PySem.F.sub_list_set
 have hslf:=PySem.F.sub_list_frozenset
 have hne:(Value.type "list" == Value.type "dict") = false:=by decide
 unfold Builtin.«set.__init__» noKeywords Builtin.Frozenset.updateFrom
 generalize hPI:pyIter = PI
 wp_walk
 subst hPI
 refine wpAny_pyIter_list hl1 (wpAny_bind (wpAny_runValue ?_))
 generalize hH:s.heap.push (E3.nil.obj 0 led) = H at hS hL1
 have hup:∀ b o,H.get? b = some o -> (H.push { cls:=.type "list_iterator",data:=.fields #[.ref L,.int 0 0] }).get? b = some o:=fun b o e=>Heap.get?_push_of_some _ e
 refine set_loop (prog:=prog) (w:=w) (A:=A.in1.in1) (s:=s) (L:=L) (vs:=vs) (m:=m) (h0:=H) (it:=H.objs.size) (led:=led) (ns:=ns) hh hL1 (Nat.ne_of_lt (Heap.lt_size hL)) get_size (Nat.ne_of_lt (Heap.lt_size hS)) hv hn (fun h' tk hS' hk=>?_) vs.length 0 _ s.toks (Nat.zero_add _) ⟨_,0,hup _ _ hS,⟨rfl,rfl,rfl⟩⟩ ⟨_,Heap.get?_push_size _ rfl,rfl,rfl⟩ fun b o zq=>hup b o
 show wpAny _ _ _ _ _ _
 refine wpAny_pure ?_
 show wpAny _ _ (ret Value.none) _ _ _
 exact wpAny_pure ⟨rfl,h h' tk hS' fun b o e=>hk b o (Nat.ne_of_lt (Heap.lt_size e)) (hH ▸ Heap.get?_push_of_some _ e)⟩
end
end
section
open PySem PySem.W PySem.Spec PySem.Calls PyProof.Rows
theorem slot_set_iterator_next:PySem.Slot "set_iterator" "__next__" "set_iterator.__next__" :=
 .of (owner:="set_iterator") (n:="__next__") (by rw [typeLookup_type,builtinLookup_eq_fast]; kernel_rfl) (by decide +kernel) (by decide +kernel) (by decide +kernel)
  (by first | exact .inl (by decide +kernel) | exact .inr (by decide +kernel)) (by rw [isSubtype_type]; kernel_rfl)
theorem entry_set_iterator_next:entryFor table "set_iterator.__next__" = some Builtin.«set_iterator.__next__»:=entryFor_of_tree (by kernel_rfl)
theorem owner_set_iterator:Manifest.owners.lookup (String.ofList ['r','o','t','a','r','e','t','i','_','t','e','s'].reverse) = some Manifest.sig_set_iterator:=by kernel_rfl
theorem args_set_iterator_next (a:Value):argsOk "set_iterator.__next__" ⟨[a],[]⟩:=by
 unfold argsOk; rw [signature?_of (id:="set_iterator.__next__") (n:=['_','_','t','x','e','n','_','_']) (o:=['r','o','t','a','r','e','t','i','_','t','e','s']) (by kernel_rfl) owner_set_iterator]; kernel_rfl
theorem entry_set_iter:entryFor table "set.__iter__" = some Builtin.«frozenset.__iter__» :=
 entryFor_alias (id':="frozenset.__iter__") (by kernel_rfl) rfl (by decide +kernel) (by kernel_rfl)
theorem slot_set_iterator_iter:PySem.Slot "set_iterator" "__iter__" "set_iterator.__iter__" :=
 .of (owner:="set_iterator") (n:="__iter__") (by rw [typeLookup_type,builtinLookup_eq_fast]; kernel_rfl) (by decide +kernel) (by decide +kernel) (by decide +kernel)
  (by first | exact .inl (by decide +kernel) | exact .inr (by decide +kernel)) (by rw [isSubtype_type]; kernel_rfl)
theorem args_set_iterator_iter (a:Value):argsOk "set_iterator.__iter__" ⟨[a],[]⟩:=by
 unfold argsOk; rw [signature?_of (id:="set_iterator.__iter__") (n:=['_','_','r','e','t','i','_','_']) (o:=['r','o','t','a','r','e','t','i','_','t','e','s']) (by kernel_rfl) owner_set_iterator]; kernel_rfl
theorem entry_set_iterator_iter:entryFor table "set_iterator.__iter__" = some Builtin.«dict_keyiterator.__iter__» :=
 entryFor_alias (id':="dict_keyiterator.__iter__") (by kernel_rfl) rfl (by decide +kernel) (by kernel_rfl)
theorem erase_perm {α:Type} {l:List α} {i:Nat} (h:i < l.length):(l[i] :: l.eraseIdx i).Perm l:=by
 induction l generalizing i with
 | nil=>exact nomatch h
 | cons x l ih=>cases i with
  | zero=>exact .refl _
  | succ i=>exact (List.Perm.swap _ _ _).trans ((ih (Nat.lt_of_succ_lt_succ h)).cons x)
theorem pick_perm {α:Type} (next:Nat -> Nat) {fuel k:Nat} {left:List α} {out:Array α} (h:left.length = fuel):(pickOrder.go next fuel k left out).toList.Perm (out.toList ++ left):=by
 induction fuel generalizing k left out with
 | zero=>rw [List.length_eq_zero_iff] at h; subst h; rw [List.append_nil]; exact .refl _
 | succ fuel ih =>
  have hlt:next k % left.length < left.length:=Nat.mod_lt _ (h ▸ Nat.succ_pos _)
  unfold pickOrder.go
  rw [List.getElem?_eq_getElem hlt]
  refine (ih (k:=k + 1) (by rw [List.length_eraseIdx_of_lt hlt,h]; rfl)).trans ?_
  rw [Array.toList_push,List.append_assoc]
  exact List.Perm.append_left _ (erase_perm hlt)
noncomputable def walkL (w:World) (a:Addr) (ep:Nat) (e:E3):List (Int × Value):=cond (w.params.followText "set-order") (pickOrder (w.params.setOrder a ep) e.es.toArray).toList e.es
theorem walk_perm {w:World} {a:Addr} {ep:Nat} {e:E3}:(walkL w a ep e).Perm e.es:=by
 unfold walkL
 cases w.params.followText "set-order" with
 | true=>exact pick_perm (w.params.setOrder a ep) (k:=0) (left:=e.es) (out:=#[]) rfl
 | false=>exact .refl _
noncomputable def slotAt (w:World) (e:E3) (i:Nat):Nat:=cond (w.params.followText "set-order") 0 (e.at i)
section
variable {prog:Program} {w:World} {A:Around} {E:Value -> Shared -> Prop} {s:Shared} {a it:Addr} {e:E3} {ep:Nat} {led:Bool}
theorem ff:¬ (false = true):=Bool.false_ne_true
theorem set_next (hw:led = !w.params.followText "set-order") (ho:s.heap.get? a = some (e.obj ep led)) {i:Nat} (hi:i <= e.es.length) {Q:Option (Value × Nat) -> Shared -> Prop}
  (h:Q (((walkL w a ep e)[i]?).map fun x=>(x.2,slotAt w e (i + 1))) s):wpAny (model prog w) A (setNext a (slotAt w e i) i ep) Q E s:=by
 have hf:=e.ok.fits led
 unfold setNext
 refine wpAny_bind (wpAny_setState_of ho rfl hf ?_)
 dsimp only
 unfold setsByText
 refine wpAny_bind (wpAny_bind (wpAny_askSetting (wpAny_pure ?_)))
 show wpAny _ _ (if w.params.followText "set-order" = true then _ else _) _ _ _
 unfold walkL slotAt at h
 unfold slotAt
 cases hT:w.params.followText "set-order" with
 | true =>
  rw [hT] at h
  rw [if_pos rfl]
  show wpAny _ _ (if (ep != ep) = true then _ else _) _ _ _
  rw [if_neg (by rw [bne_self_eq_false]; exact ff)]
  refine wpAny_bind ?_
  unfold setWalk
  refine wpAny_bind (wpAny_setState_of ho rfl hf ?_)
  dsimp only
  unfold setsByText
  refine wpAny_bind (wpAny_bind (wpAny_askSetting (wpAny_pure ?_)))
  show wpAny _ _ (if w.params.followText "set-order" = true then _ else _) _ _ _
  rw [hT,if_pos rfl]
  refine wpAny_bind (wpAny_askSetting (wpAny_pure (wpAny_pure ?_)))
  rw [cond_true,Array.getElem?_toList] at h
  exact h
 | false =>
  rw [hT] at h
  rw [if_neg ff]
  have hled:led = true:=hw.trans (congrArg not hT)
  subst hled
  refine wpAny_bind (wpAny_pure (wpAny_bind (wpAny_pure (wpAny_pure ?_))))
  have hb:SetTable.below (e.tab true).place (cond false 0 (e.at i)) = i:=beq_iff_eq.mp (List.all_eq_true.mp e.ok.below i (List.mem_range.mpr (Nat.lt_succ_of_le hi)))
  rw [hb,List.getElem?_toArray,show (e.tab true).place[i]? = e.places[i]? from List.getElem?_toArray ..]
  rw [cond_false] at h
  have h:Q (e.es[i]?.map fun x=>(x.2,e.places.getD i 0 + 1)) s:=h
  rw [List.getD_eq_getElem?_getD] at h
  have hl:=e.ok.len
  cases q:e.es[i]? with
  | none=>rw [q] at h; exact h
  | some x =>
   have hlt:i < e.places.length:=by rw [hl]; exact (List.getElem?_eq_some_iff.mp q).1
   rw [q,List.getElem?_eq_getElem hlt] at h
   rw [List.getElem?_eq_getElem hlt]
   exact h
end
end
section
open PySem PySem.W PySem.Spec PySem.Calls PyProof.Rows
noncomputable def setItO (w:World) (a:Addr) (ep:Nat) (e:E3) (i:Nat):Obj:={ cls:=.type "set_iterator",data:=.fields #[.int (slotAt w e i) 0,.int i 0,.ref a,.int e.es.length 0,.int ep 0] }
section
variable {prog:Program} {w:World} {A:Around} {E:Value -> Shared -> Prop} {s:Shared} {a it:Addr} {e:E3} {ep:Nat} {led:Bool}
noncomputable def setQ (w:World) (a it:Addr) (ep:Nat) (e:E3) (i:Nat) (s:Shared) (Q:Option Value -> Shared -> Prop):Option (Int × Value) -> Prop
 | some x=>∀ h',h'.get? it = some (setItO w a ep e (i + 1)) -> Heap.SameBut it s.heap h' -> Q (some x.2) { s with heap:=h' }
 | none=>∀ h',Heap.ExtBut it s.heap h' -> Q none { s with heap:=h' }
theorem setit_next {i:Nat} {x:Option (Int × Value)} {Q:Option Value -> Shared -> Prop} (hh:A.handled = none) (hw:led = !w.params.followText "set-order") (hit:s.heap.get? it = some (setItO w a ep e i)) (ho:s.heap.get? a = some (e.obj ep led)) (hi:i <= e.es.length)
  (hx:(walkL w a ep e)[i]? = x) (hQ:setQ w a it ep e i s Q x):wpAny (model prog w) A (pyNext (.ref it)) Q E s:=by
 have hT:s.TypeIs (.ref it) "set_iterator":=⟨_,hit,rfl⟩
 unfold pyNext
 refine wpAny_bind (wpAny_attempt (wpAny_callSpecial?_slot (name:=Str.ofString "__next__") hT slot_set_iterator_next
  (wpAny_call_entry slot_set_iterator_next hT entry_set_iterator_next ?_ (args_set_iterator_next _))))
 unfold Builtin.«set_iterator.__next__»
 refine wpAny_bind (wpAny_pure (wpAny_bind (wpAny_fieldsOf hit rfl ?_)))
 dsimp only
 unfold setEntries
 refine wpAny_bind (wpAny_bind (wpAny_setState_of ho rfl (e.ok.fits led) (wpAny_pure ?_)))
 rw [if_neg (by simp)]
 refine wpAny_bind ?_
 simp only [Int.toNat_natCast]
 refine set_next hw ho hi ?_
 rw [hx]
 cases x with
 | some x =>
  refine wpAny_bind (wpAny_setField hit rfl (by simp) ?_)
  have h1:(s.heap.update it (Obj.mapFields (·.setIfInBounds 0 (rawInt (slotAt w e (i + 1)))))).get? it = some { cls:=.type "set_iterator",data:=.fields #[.int (slotAt w e (i + 1)) 0,.int i 0,.ref a,.int e.es.length 0,.int ep 0] }:=by
   rw [Heap.get?_update_self _ hit (by rfl)]; rfl
  refine wpAny_bind (wpAny_setField (s:={ s with heap:=s.heap.update it (Obj.mapFields (·.setIfInBounds 0 (rawInt (slotAt w e (i + 1))))) }) h1 rfl (by simp) ?_)
  have h2:((s.heap.update it (Obj.mapFields (·.setIfInBounds 0 (rawInt (slotAt w e (i + 1)))))).update it (Obj.mapFields (·.setIfInBounds 1 (rawInt ((i:Int) + 1))))).get? it = some (setItO w a ep e (i + 1)):=by
   rw [Heap.get?_update_self _ h1 (by rfl)]; rfl
  exact wpAny_pure ⟨_,rfl,wpAny_pure (hQ _ h2 ((Heap.SameBut.update ..).trans (Heap.SameBut.update ..)))⟩
 | none =>
  refine wpAny_bind (wpAny_setField hit rfl (by simp) (wpAny_bind ?_))
  unfold newExc newTuple
  refine wpAny_bind (wpAny_newObj_type ?_ (by size_fits))
  refine wpAny_bind (m:=firstArgMember _ _) (wpAny_of_eq (a:=Value.none) rfl ?_)
  refine wpAny_newObj_type ?_ (by size_fits)
  unfold raiseNew
  refine wpAny_bind (wpAny_handled ?_)
  rw [show A.in1.handled = none from hh]
  refine wpAny_bind (wpAny_pure (wpAny_throw ?_))
  refine wpAny_bind (wpAny_isInstance (T:="StopIteration") (b:=true) ⟨_,Heap.get?_push_size _ rfl,rfl⟩ isSubtype_stop ?_)
  exact wpAny_pure (hQ _ (((Heap.SameBut.update ..).extBut.push _).push _))
theorem set_iter {Q:Value -> Shared -> Prop} (hw:led = !w.params.followText "set-order") (ho:s.heap.get? a = some (e.obj ep led))
  (hQ:Q (.ref s.heap.objs.size) { s with heap:=s.heap.push (setItO w a ep e 0) }):wpAny (model prog w) A (pyIter (.ref a)) Q E s:=by
 have hT:s.TypeIs (.ref a) "set":=⟨_,ho,rfl⟩
 have hf:=e.ok.fits led
 refine wpAny_pyIter_slot hT PySem.F.slot_set_iter (wpAny_call_entry PySem.F.slot_set_iter hT entry_set_iter ?_ (PySem.F.args_set_iter_1 _))
 unfold Builtin.«frozenset.__iter__» Builtin.Frozenset.slot0 slotArgs
 simp only [List.isEmpty_nil,Bool.not_true,Bool.false_eq_true,↓reduceIte,bind_assoc,List.length_nil,bne_self_eq_false]
 unfold Builtin.Frozenset.addrOf Builtin.Frozenset.sizeOf setEntries
 refine wpAny_bind (wpAny_pure (wpAny_bind (wpAny_pure (wpAny_bind (wpAny_bind (wpAny_bind (wpAny_setState_of ho rfl hf (wpAny_pure (wpAny_pure ?_)))))))))
 unfold setDrawn setsByText
 refine wpAny_bind (wpAny_bind (wpAny_setState_of ho rfl hf ?_))
 dsimp only
 refine wpAny_bind (wpAny_bind (wpAny_askSetting (wpAny_pure (wpAny_pure ?_))))
 show wpAny _ _ (if (!w.params.followText "set-order" && false) = true then _ else _) _ _ _
 rw [if_neg (by rw [Bool.and_false]; exact ff)]
 refine wpAny_bind (wpAny_pure ?_)
 unfold setEpoch
 refine wpAny_bind (wpAny_bind (wpAny_setState_of ho rfl hf (wpAny_pure ?_)))
 unfold newFields
 refine wpAny_bind (wpAny_newObj_type (wpAny_pure ⟨_,rfl,"set_iterator",_,⟨_,Heap.get?_push_size _ rfl,rfl⟩,slot_set_iterator_next.lookup,?_⟩))
 have hs:slotAt w e 0 = 0:=by unfold slotAt; cases w.params.followText "set-order" <;> rfl
 unfold setItO at hQ
 rw [hs] at hQ
 exact hQ
theorem setit_self {i:Nat} {Q:Value -> Shared -> Prop} (hit:s.heap.get? it = some (setItO w a ep e i)) (hQ:Q (.ref it) s):wpAny (model prog w) A (pyIter (.ref it)) Q E s:=by
 have hT:s.TypeIs (.ref it) "set_iterator":=⟨_,hit,rfl⟩
 refine wpAny_pyIter_slot hT slot_set_iterator_iter (wpAny_call_entry slot_set_iterator_iter hT entry_set_iterator_iter ?_ (args_set_iterator_iter _))
 show wpAny _ _ (ret (.ref it)) _ _ s
 exact wpAny_pure ⟨_,rfl,"set_iterator",_,hT,slot_set_iterator_next.lookup,hQ⟩
theorem hint_set {r:Addr} {Q:Bool -> Shared -> Prop} (hT:s.TypeIs (.ref r) "set") (h:Q false s):wpAny (model prog w) A (Builtin.List.listLengthHint (.ref r)) Q E s:=by
 unfold Builtin.List.listLengthHint
 refine wpAny_bind (wpAny_specialOf hT PySem.F.slot_set_len.lookup ?_)
 generalize hid:("set.__len__":String) = id0
 wp_delta
 rw [show splitId id0 = some ("set","__len__") from by subst hid; decide +kernel]
 subst hid
 refine wpAny_bind (wpAny_isInstance (T:="set") (b:=true) hT (by rw [isSubtype_type]; kernel_rfl) ?_)
 refine wpAny_ite_split (fun hab=>absurd hab (by decide)) (fun zq=>?_)
 refine wpAny_ite_split (fun zq=>?_) (fun hab=>absurd (by decide +kernel) hab)
 exact wpAny_bind (wpAny_typeOf hT (wpAny_pure h))
theorem set_src (hw:led = !w.params.followText "set-order"):KdlSrc prog w "set" a a e.es.length (fun i v=>∃ x,(walkL w a ep e)[i]? = some x /\ v = x.2) (fun h=>h.get? a = some (e.obj ep led)) where
 type:=fun zq hm=>⟨_,hm,rfl⟩
 there:=fun zq hm=>⟨Heap.lt_size hm,Heap.lt_size hm⟩
 keep:=fun zq zq hm hk=>hk a (.inl rfl) _ hm
 notList:=by decide
 notTuple:=by decide
 hint:=fun zq zq zq zq hm hq=>hint_set ⟨_,hm,rfl⟩ hq
 iter:=fun A s hh hm=>⟨_,fun i h=>h.get? s.heap.objs.size = some (setItO w a ep e i) /\ h.get? a = some (e.obj ep led),(fun zq zq hq=>set_iter hw hm hq),{
  sub:=fun b hb=>one hb ▸ .head _
  frame:=fun zq zq zq st hk=>⟨hk _ (.head _) _ st.1,hk a (.tail _ (.head _)) _ st.2⟩
  item:=fun i s' Q E hi st hQ =>
   have hx:=List.getElem?_eq_getElem (l:=walkL w a ep e) (i:=i) (walk_perm.length_eq ▸ hi)
   setit_next hh hw st.1 st.2 (Nat.le_of_lt hi) hx fun h' hit' hs'=>hQ _ h' s'.toks ⟨_,hx,rfl⟩ ⟨hit',hs'.extBut _ _ (Nat.ne_of_lt (Heap.lt_size hm)) st.2⟩ fun b o hb e=>hs'.extBut b o (not_one hb) e
  done:=fun s' Q E st hQ=>setit_next hh hw st.1 st.2 (Nat.le_refl _) (List.getElem?_eq_none (Nat.le_of_eq walk_perm.length_eq)) fun h' he'=>hQ h' s'.toks fun b o hb e=>he' b o (not_one hb) e
  self:=fun zq zq zq zq st hQ=>setit_self st.1 hQ },⟨Heap.get?_push_size _ rfl,Heap.get?_push_of_some _ hm⟩⟩
end
end
section
open PySem PySem.W PySem.Spec PySem.Calls PyProof.Rows
variable {cx:Cx}
noncomputable def litInts:List PV -> (List Int -> Prop) -> Prop
 | [],Q=>Q []
 | p :: l,Q=>oq (pvI p) fun k=>bq (d012.contains k) (litInts l fun r=>Q (k :: r))
structure Lit (ks:List Int) (vs:List Value):Prop where
 sub:ks ⊆ d012
 len:ks.length = vs.length
 at_:∀ i v,vs[i]? = some v -> IntAt ks i v
theorem litInts.el {P:PW} {Φ:Fz} {l:List PV} {K:List Int -> Prop} {vs:List Value} {C:Prop} (h:litInts l K) (x:VRs P Φ l vs) (k:∀ ks,K ks -> Lit ks vs -> C):C:=by
 induction l generalizing vs K with
 | nil=>cases x; exact k [] h ⟨(fun zq h=>nomatch h),rfl,fun i v h=>nomatch h⟩
 | cons p l ih =>
  obtain ⟨v,r,x1,x2⟩:=x
  refine pvI.el (C:=fun v=>(∀ q,K q -> Lit q (v :: r) -> C) -> C) h x1 (fun j t h k=>bq.el h fun hj h=>ih h x2 fun q h y=>k _ h ⟨fun z hz=>?_,congrArg (fun q=>q + 1) y.len,fun i v hi=>?_⟩) k
  ·cases hz with | head=>exact List.contains_iff_mem.mp hj | tail _ hz=>exact y.sub hz
  ·cases i with
   | zero=>cases hi; exact ⟨j,t,rfl,K3.of (List.contains_iff_mem.mp hj)⟩
   | succ i=>obtain ⟨k,t,e,q⟩:=y.at_ i v hi; exact ⟨k,t,e,q⟩
noncomputable def fSortS (p:PV) (Q:CV -> Prop):Prop:=match p with
 | .lst l=>litInts l fun ks=>Q (.l ((upTo3 ks).map .int))
 | _=>False
theorem sorted_unique {l m:List Int} (p:l.Perm m) (h1:l.Pairwise (· <= ·)) (h2:m.Pairwise (· <= ·)):l = m:=by
 induction l generalizing m with
 | nil=>exact p.nil_eq
 | cons x l ih =>
  cases m with
  | nil=>exact nomatch p.symm.nil_eq
  | cons y m =>
   rw [List.pairwise_cons] at h1 h2
   have hx:x = y:=(List.mem_cons.mp (p.mem_iff.mp (.head _))).elim id fun m1=>(List.mem_cons.mp (p.symm.mem_iff.mp (.head _))).elim Eq.symm fun m2=>Int.le_antisymm (h1.1 _ m2) (h2.1 _ m1)
   subst hx
   rw [ih ((List.perm_cons x).mp p) h1.2 h2.2]
theorem upTo3_sorted (l:List Int):(upTo3 l).Pairwise (· <= ·):=by
 unfold upTo3
 exact List.Pairwise.sublist List.filter_sublist (by decide)
theorem es_ints {l:List (Int × Value)} (h:∀ x ∈ l,E3El x):IntsAre (l.map (fun q=>q.2)) (l.map (fun q=>q.1)):=by
 induction l with
 | nil=>exact .nil
 | cons x l ih=>obtain ⟨k,t,_⟩:=h x (.head _); exact .cons k t (ih fun y hy=>h y (.tail _ hy))
theorem ints_vrs {P:PW} {Φ:Fz} {vs:List Value} {ns:List Int} (h:IntsAre vs ns):VRs P Φ (ns.map .int) vs:=by
 induction h with
 | nil=>exact ⟨⟩
 | cons n t h ih=>exact ⟨_,_,⟨t⟩,ih⟩
theorem O.sortedS {np pos np2 pos2:Pos} {e:Expr} {d:DH} {x y:Str} (hm:x ∈ cx.gl) (hx:okName x = true) (hg:∀ P K,cx.kp P K -> gv K x = some (.builtin "sorted")) (hm2:y ∈ cx.gl) (hx2:okName y = true) (hg2:∀ P K,cx.kp P K -> gv K y = some (fnV true "set"))
  (he2:∀ env,starEach [.Call (.Name y np2) [e] [] pos2] env = [(false,eval (.Call (.Name y np2) [e] [] pos2) env)]) (he:∀ env,starEach [e] env = [(false,eval e env)])
  (z:SH cx e d):SO cx (.Call (.Name x np) [.Call (.Name y np2) [e] [] pos2] [] pos) (dH1 fSortS d) :=
 fun R fr ow τ O S=>.mk fun Q Q' E' h k=>PyProof.Rows.Call_ (evalGlobal O S hm hx (hg _ _ O.kk) (PyProof.Rows.callWith_builtin1 (PyProof.Rows.args_cons (call1 O S hm2 hx2 hg2 he (z R fr ow τ O S) h fun a τ1 v h t1 S1 v1=>oq.el h fun p hp h=>by
  have g:=S1.held v1 hp
  cases p with
  | lst l =>
   obtain ⟨b,vs,n,f1,r1⟩:=g
   refine litInts.el h r1 fun ks h y=>?_
   refine call_set_ints (s:=τ1.s) O.room.hd f1 y.at_ y.len fun h2 tk2 hS hk2=>PyProof.Rows.args_nil ?_
   obtain ⟨es,ep,ho,hlike⟩:=hS
   have S2:St R fr ow ⟨τ1.G,τ1.Φ,{ τ1.s with heap:=h2,toks:=tk2 }⟩:=S1.keepAll hk2
   refine sorted_src (s:={ τ1.s with heap:=h2,toks:=tk2 }) (set_src (ep:=ep) rfl) O.room.hd ho (by rw [sizeLine_eq]; exact Nat.le_trans E3.small (by decide)) fun D h4 tk4 us hk4 hD hDn hul hP=>?_
   obtain ⟨W,hP,wp⟩:∃ W:List (Int × Value),(∀ (j:Nat) (v:Value),us[j]? = some v -> ∃ x:Int × Value,W[j]? = some x /\ v = x.2) /\ W.Perm es.es:=⟨_,hP,walk_perm⟩
   have hlen:=wp.length_eq
   have hus:us = W.map (fun q=>q.2):=by
    refine List.ext_getElem? fun i=>?_
    cases q:us[i]? with
    | none=>exact (List.getElem?_eq_none (by rw [List.length_map,hlen,<- hul]; exact List.getElem?_eq_none_iff.mp q)).symm
    | some u=>obtain ⟨x,hx,e⟩:=hP i _ q; rw [List.getElem?_map,hx]; exact congrArg some e
   subst hus
   have hI:=es_ints fun x hx=>E3.mem (wp.mem_iff.mp hx)
   refine wpAny_call_entry slot_list_sort ⟨_,hD,rfl⟩ entry_list_sort (list_sort_tree (n:=0) hD hI (by rw [hul]; exact Nat.lt_of_le_of_lt E3.small (by decide)) fun out ns' hIo hp hs=>⟨.none,rfl,?_⟩) (args_list_sort _)
   have hns:ns' = upTo3 ks:=sorted_unique (hp.trans (E3.like_keys hlike ▸ wp.map _)) hs (upTo3_sorted ks)
   subst hns
   obtain ⟨c,hDo⟩:=sortedHeap_at (vs:=W.map (fun q=>q.2)) (out:=out) hD
   have S3:St R fr ow ⟨τ1.G,τ1.Φ,{ τ1.s with heap:=sortedHeap h4 D (W.map (fun q=>q.2)) out,toks:=tk4 }⟩:=S2.keepAll (s':={ τ1.s with heap:=sortedHeap h4 D (W.map (fun q=>q.2)) out,toks:=tk4 }) fun b ob e=>by
    have e4:=hk4 _ _ e
    exact (sortedHeap_old (ne_none hDn e) (Heap.lt_size e4)).trans e4
   exact k _ ⟨τ1.G,τ1.Φ,{ τ1.s with heap:=sortedHeap h4 D (W.map (fun q=>q.2)) out,toks:=tk4 }⟩ _ h (t1.trans .heap) S3 ⟨D,_,hDo,.l _ out.toList c (ints_vrs hIo),St.isNew (τ:=⟨τ1.G,τ1.Φ,{ τ1.s with heap:=h2,toks:=tk2 }⟩) O S2 hDn⟩
  | _=>exact h.elim) (he2 _)) (he2 _)))
end
section
variable {cx:Cx}
structure NewOk (K:Frag) (C fI:Addr):Prop where
 mks:makesIn K C = true
 find:findIn K (.ref C) "__init__" = some (some (.ref fI))
 ty:typeIn K (.ref fI) = some (.type "function")
 fn:isFnK K fI = true
noncomputable def isNo (p:PV) (K:Prop):Prop:=match p with | .none=>K | _=>False
theorem isNo.el {P:PW} {Φ:Fz} {p:PV} {K C:Prop} {v:Value} (h:isNo p K) (x:VR P Φ p v) (k:K -> v = .none -> C):C:=by
 cases p with | none=>exact k h x | _=>exact h.elim
noncomputable def dNew (C fI:Addr) (d:DL):DE:=fun o fr G Q=>d o fr G fun l G=>o.i fI (.reg G.length :: l) (G ++ [.inst C []]) fun r G'=>isNo r (Q (.reg G.length) G')
theorem Room.create {n:Nat} {A:Around} {c:Code} (r:Room (n + 1) A) (hw:c.weight <= 1) (hu:c.cUnits <= 4):Room n (A.under c) :=
 ⟨r.hd,Nat.lt_of_le_of_lt (Nat.add_le_add_right (room_le (Nat.le_trans hw (by decide))) 2) r.d,Nat.lt_of_le_of_lt (Nat.add_le_add_right (room_le (Nat.le_trans hu (by decide))) 60) r.u⟩
theorem dictOf_empty {P:PW} {h:Heap} {d:Addr} (e:h.get? d = some emptyDict):h.DictOf P.sk d [] :=
 ⟨_,_,_,e,⟨rfl,rfl,rfl⟩,rfl,(fun x hx=>nomatch hx),.nil,List.nodup_nil⟩
theorem callWith_K {P:PW} {K:Frag} {A:Around} {E:Value -> Shared -> Prop} {s:Shared} {env:Env} {pos:Pos} {e:Expr} {rest:List Expr} {C:Addr} {Q:Value -> Shared -> Prop} (hC:makesIn K C = true)
  (h:wpAny P.M A (spliced (backTo pos (starEach (e :: rest) env))) (fun vs s₁=>K.In s₁.heap /\ wpAny P.M A (call (.ref C) vs) Q E s₁) E s)
  (he:starEach (e :: rest) env = (false,eval e env) :: starEach rest env) (hplain:(backTo pos (starEach rest env)).any (fun q=>q.1) = false) :
  wpAny P.M A (callWith pos (.ref C) [] (backTo pos (starEach (e :: rest) env)) []) Q E s:=by
 rw [he] at h ⊢
 have hst:((backTo pos ((false,eval e env) :: starEach rest env)).any (fun x=>x.fst) || ([]:List (Option Str × Sem Value)).any fun x=>x.fst.isNone) = false:=by
  show ((false || (backTo pos (starEach rest env)).any (fun q=>q.1)) || false) = false
  rw [hplain]; rfl
 unfold callWith
 refine wpAny_bind (wpAny_holding (Calls.evalArgs_plain (wpAny_mono h (fun vs s₁ h₁=>?_) fun zq zq x=>x)))
 have M:=makes_of (M:=P.M) h₁.1 hC
 obtain ⟨oc,od,cd,sl,hob,_⟩:=M.obj
 refine wpAny_bind (wpAny_standAt (wpAny_bind ?_))
 unfold keeperOf
 refine wpAny_bind (wpAny_load hob ?_)
 dsimp only
 refine wpAny_bind (M.call A _ _ _ (fun zq zq q=>q) ?_)
 rw [if_pos (by rfl)]
 refine wpAny_pure ?_
 rw [hst]
 show wpAny _ _ (call (.ref C) vs [] >>= fun r=>do holding [r] point; pure r) _ _ _
 exact wpAny_bind (wpAny_mono h₁.2 (fun r s' hr=>wpAny_bind (wpAny_holding (wpAny_point (wpAny_pure hr)))) fun zq zq x=>x)
theorem E.new {x:Str} {np pos:Pos} {e:Expr} {es:List Expr} {C fI:Addr} {d:DL} (hm:x ∈ cx.gl) (hx:okName x = true) (hg:∀ P K,cx.kp P K -> gv K x = some (.ref C) /\ NewOk K C fI)
  (he:∀ env,starEach (e :: es) env = (false,eval e env) :: starEach es env) (hp:∀ env,(backTo pos (starEach es env)).any (fun q=>q.1) = false) (y:SL cx (e :: es) d):SE cx (.Call (.Name x np) (e :: es) [] pos) (dNew C fI d) :=
 fun R fr ow τ O S=>.mk fun Q Q' E' h k=>by
  obtain ⟨hg,N⟩:=hg _ _ O.kk
  refine PyProof.Rows.Call_ (evalGlobal O S hm hx hg (callWith_K N.mks ((y R fr ow τ pos O S).use h fun l τ1 vs h t1 S1 v1=>?_) (he _) (hp _)))
  obtain ⟨m,en,hc⟩:=O.con' _ _ _ _ h
  have hr:Room (m + 1) R.A:=en ▸ O.room
  have Y:=S1.kin O
  refine ⟨Y,wpAny_call (make_core (makes_of Y N.mks) (looks_findIn Y N.find) (fun self=>bind_fn Y self N.ty) (.inl rfl) ?_)⟩
  have none1:τ1.h.get? τ1.h.objs.size = Option.none:=get_size
  have none2:τ1.h.get? (τ1.h.objs.size + 1) = Option.none:=not_some fun ⟨o,q⟩=>absurd (Heap.lt_size q) (Nat.not_lt.mpr (Nat.le_succ _))
  have hd1:((τ1.h.push emptyDict).push (instObj C τ1.h.objs.size)).get? τ1.h.objs.size = some emptyDict:=Heap.get?_push_of_some _ (Heap.get?_push_size _ rfl)
  have hx1:((τ1.h.push emptyDict).push (instObj C τ1.h.objs.size)).get? (τ1.h.objs.size + 1) = some (instObj C τ1.h.objs.size):=by
   have:=Heap.get?_push_size (τ1.h.push emptyDict) (o:=instObj C τ1.h.objs.size) rfl
   rwa [Heap.size_push] at this
  have Nd:=St.isNew (τ:=τ1) O S1 none1
  have S3:=St.addReg (c:=⟨τ1.h.objs.size + 1,τ1.h.objs.size⟩) (g:=.inst C []) (τ:=⟨τ1.G,τ1.Φ,{ τ1.s with heap:=(τ1.h.push emptyDict).push (instObj C τ1.h.objs.size) }⟩) (S1.keepAll fun b o e=>Heap.get?_push_of_some _ (Heap.get?_push_of_some _ e)) (St.isNew (τ:=τ1) O S1 none2) Nd
   (show RegI _ _ _ _ _ _ from ⟨hx1,Nat.succ_ne_self _,Nd.sm,[],⟨⟩,dictOf_empty hd1⟩)
  have hk:(Fz.reg τ1.Φ ⟨τ1.h.objs.size + 1,τ1.h.objs.size⟩).rs[τ1.G.length]? = some ⟨τ1.h.objs.size + 1,τ1.h.objs.size⟩:=by rw [S1.core.regs.length]; exact List.getElem?_concat_length
  refine codeAny_mono (hc fI _ _ _ h _ { τ1.s with heap:=(τ1.h.push emptyDict).push (instObj C τ1.h.objs.size) } (.ref (τ1.h.objs.size + 1) :: vs) _ (S3.pre O) ⟨_,vs,⟨_,hk⟩,VRs.mono Fz.le_reg _ _ v1⟩ (hr.create (Nat.le_refl 1) (show 1 <= 4 by decide))) fun r zq q=>?_
  cases r with
  | error e=>exact q.elim
  | ok fl=>cases fl with
   | ret v =>
    obtain ⟨p,G',Φ',_,q,t,c,w⟩:=q
    exact isNo.el q w fun q e=>⟨e,k (.reg τ1.G.length) ⟨G',Φ',_⟩ _ q (t1.trans ⟨Sm.trans ⟨_,_⟩ t,Fz.le_trans Fz.le_reg c.mono⟩) (S3.call O c) ⟨_,get_le c.mono hk⟩⟩
   | _=>exact q.elim
end
section
noncomputable def locals (xs:List Str):Vars:=xs.map fun x=>(x,.local)
structure SupStatic (P:PW) (K:Frag) (f:Addr) (fd:FuncData) (ps:List Str) (body:List Stmt) (gl:List Str) (cc D C f2:Addr):Prop where
 lk:∃ c d sl,K.lookup f = some ⟨c,d,.func fd,sl⟩
 body:fd.body = .stmts body
 clo:fd.closure = [(Str.ofString "__class__",cc)]
 glob:fd.globals = mainGlobals
 blt:fd.builtins = builtinsNs
 code:codeIn K fd.code fd.qualname = true
 bind:∀ vals,vals.length = ps.length -> bindArgs fd ⟨vals,[]⟩ = pure (ps.zip vals)
 co:fd.scope.isCoroutine = false
 gen:fd.scope.isGenerator = false
 kind:fd.scope.kind = .function
 vok:(ps.all fun v=>fd.scope.names.lookup v == some .local) = true
 vnd:ps.Nodup
 cell:(fd.scope.names.all fun x=>x.2 != .cell) = true
 gls:(gl.all fun x=>fd.scope.names.lookup x == some .globalImplicit) = true
 ks:fd.scope.names.lookup ("super":Str) = some .globalImplicit
 kc:fd.scope.names.lookup ("__class__":Str) = some .free
 self:∃ ar x r,(fd.params.posonlyargs ++ fd.params.args).head? = some ar /\ ar.arg = x /\ ps = x :: r
 file:∃ cda c d vs sl fl tf,fd.code = .ref cda /\ K.lookup cda = some ⟨c,d,.fields vs,sl⟩ /\ vs[2]? = some (.str fl tf) /\ ((P.prog.main.file:Str) == fl) = true
 top:(P.prog.main.scope.names.lookup ("super":Str)).isSome = false
 sup:gv K "super" = some (.type "super")
 cls:∃ c d sl,K.lookup cc = some ⟨c,d,.cell (some (.ref D)),sl⟩
 dcl:∃ cd,clsIn K D = some cd
 sub:mroIn K C (.ref D) = some true
 opq:nsIn K cStatics "thirdparty.any" = some none
 find:ks_superIn K C D "__init__" = some (some (.ref f2))
 ty:typeIn K (.ref f2) = some (.type "function")
 fn:isFnK K f2 = true
section
variable {P:PW} {K:Frag} {o:Orc} {n:Nat}
theorem callWith_bm {A:Around} {E:Value -> Shared -> Prop} {s:Shared} {env:Env} {pos:Pos} {e:Expr} {rest:List Expr} {b f:Addr} {x:Value} {Q:Value -> Shared -> Prop}
  (h:wpAny P.M A (spliced (backTo pos (starEach (e :: rest) env))) (fun vs s₁=>(s₁.heap.get? b = some { cls:=.type "method",dict:=none,data:=.fields #[.ref f,x],slots:=#[] } /\ ∃ ob fd,s₁.heap.get? f = some ob /\ ob.data = .func fd) /\ wpAny P.M A (call (.ref b) vs) Q E s₁) E s)
  (he:starEach (e :: rest) env = (false,eval e env) :: starEach rest env) (hplain:(backTo pos (starEach rest env)).any (fun q=>q.1) = false) :
  wpAny P.M A (callWith pos (.ref b) [] (backTo pos (starEach (e :: rest) env)) []) Q E s:=by
 rw [he] at h ⊢
 have hst:((backTo pos ((false,eval e env) :: starEach rest env)).any (fun x=>x.fst) || ([]:List (Option Str × Sem Value)).any fun x=>x.fst.isNone) = false:=by
  show ((false || (backTo pos (starEach rest env)).any (fun q=>q.1)) || false) = false
  rw [hplain]; rfl
 unfold callWith
 refine wpAny_bind (wpAny_holding (Calls.evalArgs_plain (wpAny_mono h (fun vs s₁ h₁=>?_) fun zq zq x=>x)))
 obtain ⟨⟨hb,ob,fd,hf,hfd⟩,h₁⟩:=h₁
 refine wpAny_bind (wpAny_standAt (wpAny_bind ?_))
 unfold keeperOf
 refine wpAny_bind (wpAny_load hb ?_)
 dsimp only
 rw [if_neg (by decide)]
 refine wpAny_bind (wpAny_load hf ?_)
 rw [hfd]
 refine wpAny_pure ?_
 rw [hst]
 dsimp only
 have tail:∀ {t:Sem Value},wpAny P.M A t Q E s₁ -> wpAny P.M A (t >>= fun r=>holding [r] point >>= fun zq=>pure r) Q E s₁ :=
  fun ht=>wpAny_bind (wpAny_mono ht (fun r s₂ hr=>wpAny_bind (wpAny_holding (wpAny_point (wpAny_pure hr)))) fun zq zq x=>x)
 split
 ·exact tail h₁
 ·exact tail (by unfold callMarked; exact wpAny_keep h₁)
noncomputable def hd1 (l:List PV) (K:Nat -> Prop):Prop:=match l with | p :: _=>oq (pvR p) K | []=>False
noncomputable def supF (C f2:Addr) (np:Nat) (dl:DL) (d:DS) (o:Orc) (args:List PV) (G:Gs):WP PV:=fun Q=>bq (args.length == np) (hd1 args fun k=>oq (instOf G k) fun i=>bq (i.1 == C) (dl o (args.map LV.val) G fun l G=>o.c f2 (.reg k :: l) G fun zq G=>d o (args.map LV.val) G (kBody Q)))
theorem hd1.el {l:List PV} {K:Nat -> Prop} {C:Prop} (h:hd1 l K) (k:∀ i r,l = .reg i :: r -> K i -> C):C:=by
 cases l with
 | nil=>exact h.elim
 | cons p l=>cases p with | reg i=>exact k i l rfl h | _=>exact h.elim
theorem lookup_mem {x:Str} {v:Value} {l:List (Str × Value)} (nd:(l.map (fun q=>q.1)).Nodup) (h:(x,v) ∈ l):l.lookup x = some v:=by
 induction l with
 | nil=>exact nomatch h
 | cons e l ih =>
  obtain ⟨y,u⟩:=e
  obtain ⟨n1,n2⟩:=List.nodup_cons.mp nd
  rw [List.lookup_cons]
  cases h with
  | head=>rw [beq_self_eq_true]
  | tail _ h=>rw [beq_eq_false_iff_ne.mpr fun e:x = y=>n1 (by subst e; exact List.mem_map_of_mem (f:=Prod.fst) (a:=(x,v)) h)]; exact ih n2 h
theorem lookup_rev {x:Str} {l:List (Str × Value)} (nd:(l.map (fun q=>q.1)).Nodup):l.reverse.lookup x = l.lookup x:=by
 cases q:l.lookup x with
 | none =>
  refine lookup_none fun h=>?_
  obtain ⟨⟨y,v⟩,he,e⟩:=List.mem_map.mp h
  have e:y = x:=e
  subst e
  exact nomatch q.symm.trans (lookup_mem nd (List.mem_reverse.mp he))
 | some v=>exact lookup_mem (by rw [List.map_reverse]; exact (List.reverse_perm _).symm.nodup nd) (List.mem_reverse.mpr (mem_of_lookup q))
theorem locals_fst {ps:List Str}:(locals ps).map (fun q=>q.1) = ps:=by unfold locals; rw [List.map_map]; exact List.map_id _
theorem locals_mem {ps:List Str} {v:Str × NameKind} (h:v ∈ locals ps):v.1 ∈ ps /\ v.2 = .local:=by obtain ⟨x,hx,rfl⟩:=List.mem_map.mp h; exact ⟨hx,rfl⟩
end
end
section
section
variable {P:PW} {K:Frag} {o:Orc} {n:Nat}
theorem lookup_fn {h:Heap} (Y:K.In h) {f:Addr} (e:typeIn K (.ref f) = some (.type "function")):∃ of,h.get? f = some of /\ of.cls = .type "function":=by
 have e:(K.lookup f).map (fun q=>q.cls) = some (.type "function"):=e
 obtain ⟨of,h1,h2⟩:=Option.map_eq_some_iff.mp e
 exact ⟨of,Y _ _ h1,h2⟩
set_option tactic.hygienic true in
theorem cls_at {h:Heap} (Y:K.In h) {D:Addr} {cd:ClassData} (e:clsIn K D = some cd):∃ oD,h.get? D = some oD /\ oD.data = .cls cd:=by
 unfold clsIn at e
 split at e
 ·rename_i ho; cases e; exact ⟨_,Y _ _ ho,rfl⟩
 ·cases e
inductive SupFind (K:Frag) (C D f2:Addr):Prop | mk (cd:ClassData) (e:clsIn K C = some cd) (h:alongIn K "__init__" ((cd.mro.dropWhile (· != .ref D)).drop 1) = some (some (.ref f2))):SupFind K C D f2
theorem sup_find {C D f2:Addr} (h:ks_superIn K C D "__init__" = some (some (.ref f2))):SupFind K C D f2:=by
 unfold ks_superIn at h
 cases hcl:clsIn K C with
 | none=>rw [hcl] at h; cases h
 | some cd=>rw [hcl] at h; exact ⟨cd,hcl,h⟩
theorem super_entry {f cc D C f2:Addr} {fd:FuncData} {ps:List Str} {p0 p1 pa p2 p3:Pos} {e1:Expr} {es:List Expr} {rest:List Stmt} {gl:List Str} {dl:DL} {d:DS} {kp:PW -> Frag -> Prop}
  (st:SupStatic P K f fd ps (.Expr (.Call (.Attribute (.Call (.Name (Str.ofString "super") p0) [] [] p1) (Str.ofString "__init__") pa) (e1 :: es) [] p2) p3 :: rest) gl cc D C f2) (con:Contract P K o.c n) (con':Lower P K o.i n) (kk:kp P K)
  (hs:∀ env,swapsWith (.Call (.Attribute (.Call (.Name (Str.ofString "super") p0) [] [] p1) (Str.ofString "__init__") pa) (e1 :: es) [] p2) none p3.line env = pure false)
  (hc:∀ env,∃ pl,eval (.Call (.Attribute (.Call (.Name (Str.ofString "super") p0) [] [] p1) (Str.ofString "__init__") pa) (e1 :: es) [] p2) env = (do
   let ov <- attributeBase (.Call (.Name (Str.ofString "super") p0) [] [] p1) (Str.ofString "__init__") env (eval (.Call (.Name (Str.ofString "super") p0) [] [] p1) env)
   standAt pa.atName
   let (f,first) <- holding [ov] (getMethod ov (Str.ofString "__init__") pl)
   callWith p2 f first (backTo p2 (starEach (e1 :: es) env)) []))
  (he:∀ env,starEach (e1 :: es) env = (false,eval e1 env) :: starEach es env) (hp:∀ env,(backTo p2 (starEach es env)).any (fun q=>q.1) = false)
  (y:SL ⟨tbOf 0 (locals ps),gl,kp⟩ (e1 :: es) dl) (hb:SS ⟨tbOf 0 (locals ps),gl,kp⟩ rest d):FOK P K (n + 1) f (supF C f2 ps.length dl d o):=by
 obtain ⟨ar,x0,psr,hp1,har,hps⟩:=st.self
 obtain ⟨cda,cc1,cd1,cvs,csl,cfl,ctf,hcode,hcK,hvs,hfile⟩:=st.file
 obtain ⟨kc1,kd1,ksl1,hcls⟩:=st.cls
 obtain ⟨cdD,hdcl⟩:=st.dcl
 obtain ⟨c,dd,sl,hlk⟩:=st.lk
 obtain ⟨obf,fdf,hof5,hdf5⟩:=isFnK_data st.fn
 intro args G Q hF Φ s vs A pr hv hr
 refine bq.el hF fun hlen hF=>hd1.el hF fun k argr ea hF=>oq.el hF fun i hG hF=>bq.el hF fun hCC hW=>?_
 have hlen:=beq_iff_eq.mp hlen
 have hCC:=beq_iff_eq.mp hCC
 subst hCC
 have hG:=instOf.at hG
 have Y:K.In s.heap:=fun a o e=>pr.core.frz _ _ (pr.kb.kfz a o e)
 have hvl:vs.length = ps.length:=hv.length.trans hlen
 have hmap:(ps.zip vs).map (fun q=>q.1) = ps:=List.map_fst_zip (Nat.le_of_eq hvl.symm)
 have hloc:∀ x ∈ ps,fd.scope.names.lookup x = some .local:=fun x hx=>beq_iff_eq.mp (List.all_eq_true.mp st.vok x hx)
 refine ks_codeAny_call_defAt (fd:=fd) (binds:=ps.zip vs) (Nat.lt_of_le_of_lt (Nat.le_trans (Nat.le_add_right _ _) (Nat.le_add_right _ _)) hr.d) (Y _ _ hlk) rfl (noLimit_of Y pr.kb.nolim) (codeRec_of Y st.code) st.body (BindsTo.of_eq (st.bind vs hvl)) (fun x hx hk=>?_) (fun x hx=>hloc _ (hmap ▸ List.mem_map_of_mem (f:=Prod.fst) hx)) (fun h₁ hns hk=>?_) st.co st.gen st.kind
 ·have:=List.all_eq_true.mp st.cell x hx
  rw [hk] at this; exact absurd this (by decide)
 generalize henv:callEnv fd s.heap.objs.size f = env
 have hL:env.locals = s.heap.objs.size:=henv ▸ rfl
 have hko:∀ x,env.kindOf x = fd.scope.names.lookup x:=fun x=>henv ▸ rfl
 have hkind:env.scope.kind = .function:=henv ▸ st.kind
 have hcells:env.cells = [(Str.ofString "__class__",cc)]:=henv ▸ st.clo
 have hnd:((ps.zip vs).map (fun q=>q.1)).Nodup:=hmap.symm ▸ st.vnd
 have hms:∀ x,(ps.zip vs).reverse.lookup x = (ps.zip vs).lookup x:=fun x=>lookup_rev hnd
 generalize ht:s.toks + (ps.zip vs).length = tk
 have X:Entry P env [] s { s with heap:=h₁,toks:=tk } (fun x=>(ps.zip vs).reverse.lookup x) (fun zq=>none) ps (locals ps) gl vs :=
  {I:=⟨⟨⟨h₁,tk,rfl⟩,hL ▸ hns,hk,Nat.le_of_eq hL.symm⟩,(fun zq zq h=>nomatch h),.nil,fun zq zq h=>nomatch h⟩
   loc:=hL
   kind:=hkind
   glob:=henv ▸ st.glob
   blt:=henv ▸ st.blt
   lie:=fun v hv=>LiesAt.ofL ((hko v.1).trans ((locals_mem hv).2 ▸ hloc _ (locals_mem hv).1)) (locals_mem hv).2
   vnd:=locals_fst.symm ▸ st.vnd
   par:=by rw [locals_fst,List.take_length]
   le:=by unfold locals; rw [List.length_map]; exact Nat.le_refl _
   len:=hvl
   m:=fun x zq=>hms x
   cm:=fun x h=>nomatch (locals_mem h).2
   gls:=fun x hx=>(hko x).trans (beq_iff_eq.mp (List.all_eq_true.mp st.gls x hx))
   cnd:=.nil }
 have O:=X.ok (n:=n) (o:=o) (kp:=kp) pr hr.deeper con con' kk (A:=A.deeper env)
 have S:=X.st (n:=n) (o:=o) (A:=A.deeper env) pr hv
 have efr:args.map LV.val ++ List.replicate ((locals ps).length - ps.length) LV.unset = args.map LV.val:=by
  unfold locals; rw [List.length_map,Nat.sub_self]; exact List.append_nil _
 rw [efr] at S
 obtain ⟨pl',hcall⟩:=hc env
 have Y1:K.In h₁:=S.kin O
 obtain ⟨oD,hD1,hD2⟩:=cls_at Y1 hdcl
 have hv0:∃ rc,Φ.rs[k]? = some rc /\ vs[0]? = some (.ref rc.addr):=by
  subst ea
  obtain ⟨v,r,x,_⟩:=hv
  obtain ⟨rc,e⟩:=x
  exact ⟨rc,e,rfl⟩
 obtain ⟨rc,hrc,hv0⟩:=hv0
 obtain ⟨ob,I1,_⟩:=(S.core.regs.at hrc hG).open
 refine ks_wpAt_execs_cons (ks_wpAt_Expr_any (ks_wpAt_MethodCall (pl:=pl') ?_ hcall) (by unfold interactive; rw [hkind]; rfl) (hs env))
 refine ks_wpAt_super_base (fd:=fd) ((hko _).trans st.ks) ((hko _).trans st.kc) rfl (henv ▸ rfl) (Y1 _ _ hlk) rfl hp1 (henv ▸ hcode) (Y1 _ _ hcK) rfl hvs hfile st.top ?_
 refine ks_loadName_global hkind ((hko _).trans st.ks) (loadGlobal_K Y1 (henv ▸ st.glob) (henv ▸ st.blt) st.sup ⟨rfl,?_⟩)
 refine wpAny_loadName_free hkind ((hko _).trans st.kc) (by rw [hcells]; rfl) ⟨_,Y1 _ _ hcls,rfl⟩ ?_
 have hx0:x0 ∈ ps:=hps ▸ .head _
 refine wpAny_loadName_local (v:=.ref rc.addr) hkind (har ▸ (hko _).trans (hloc _ hx0)) (hL ▸ hns) ?_ ?_
 ·rw [har,hms]
  have:=lookup_zip (vars:=locals ps) (vals:=vs) (i:=0) (x:=x0) (k:=.local) (locals_fst.symm ▸ st.vnd) (by rw [hps]; rfl)
  rw [locals_fst,hvl,List.take_length] at this
  exact this.trans hv0
 refine ks_wpAny_isType_cls hD1 hD2 ⟨rfl,?_⟩
 refine ks_wpAny_call_super hD1 hD2 I1.at_ I1.cls (fun c e=>?_) (looks_mroIn Y1 st.sub) (fun h2 hso kk2=>?_)
 ·have:=I1.no
  unfold notCls at this
  rw [e] at this
  exact Bool.noConfusion this
 have S2:=St.keepAll (s':={ s with heap:=h2,toks:=tk }) S kk2
 have Y2:=S2.kin O
 obtain ⟨of,hof,hofc⟩:=lookup_fn Y2 st.ty
 obtain ⟨ob2,I2,_⟩:=(S2.core.regs.at hrc hG).open
 obtain ⟨cdC,hcl,hfind⟩:=sup_find st.find
 focus
  refine ks_wpAny_getMethod_super (h:=h2) hso (looks_opaque Y2 st.opq) (l₀:=cdC.mro) (fun A Q E s k q=>wpAny_bind ((looks_clsIn Y2 hcl) A _ E s k (wpAny_pure q))) rfl Y2 hfind hof hofc (ks_ne Y2 I2 hcl) (by decide) ?_
  have hbm:(h2.push { cls:=.type "method",data:=.fields #[.ref f2,.ref rc.addr] }).get? h2.objs.size = some { cls:=.type "method",dict:=none,data:=.fields #[.ref f2,.ref rc.addr],slots:=#[] }:=Heap.get?_push_size _ rfl
  have Nb:=S2.isNew O (get_size (h:=h2))
  have S4:=St.addStill (st:=[(h2.objs.size,{ cls:=.type "method",dict:=none,data:=.fields #[.ref f2,.ref rc.addr],slots:=#[] })]) (S2.keepAll (s':={ s with heap:=h2.push { cls:=.type "method",data:=.fields #[.ref f2,.ref rc.addr] },toks:=tk + 1 }) fun b o e=>Heap.get?_push_of_some _ e)
   (List.nodup_cons.mpr ⟨(fun h=>nomatch h),.nil⟩) (fun a ha=>one ha ▸ Nb) (fun p hp=>by cases List.mem_singleton.mp hp; exact hbm)
  refine callWith_bm (f:=f2) (x:=.ref rc.addr) ?_ (he _) (hp _)
  refine (y _ _ _ _ p2 (O.add _) S4).use hW fun l τ5 us hF t5 S5 v5=>?_
  have S6:St (entryR P K n o s Φ env [] (locals ps) (A.deeper env)) (args.map LV.val) _ τ5:=St.restill (τ:=τ5) (s':=τ5.s) O S5 fun zq zq zq h=>h
  have hb5:=S5.still _ (.head _)
  refine ⟨⟨hb5,obf,fdf,S6.kin O _ _ hof5,hdf5⟩,wpAny_call (ks_codeAny_call_bound hb5 (codeAny_mono (con f2 _ _ _ hF _ _ (.ref rc.addr :: us) _ (S6.pre O) ⟨_,us,⟨rc,get_le t5.le hrc⟩,v5⟩ hr.deeper) fun r zq q=>?_))⟩
  cases r with
  | error e=>exact q.elim
  | ok fl=>cases fl with
   | ret v =>
    obtain ⟨p,G7,Φ7,_,hF,t7,c7,w7⟩:=q
    have S7:=S6.call (G':=G7) (Φ':=Φ7) O c7
    exact wpAt_of_wpAny (body_end (R:=entryR P K n o s Φ env [] (locals ps) (A.deeper env)) (τ:=⟨G7,Φ7,_⟩) hb O S7 hF rfl rfl (Sm.trans (s:=s) ⟨_,tk + 1⟩ (Sm.trans t5.sm t7)) fun v s' q=>q)
   | _=>exact q.elim
end
end
section
variable {cx:Cx}
theorem E.addR {l:Expr} {es:List Expr} {p pos:Pos} {d:DE} {dl:DL} (x:SE cx l d) (y:SL cx es dl):SE cx (.BinOp l .Add (.List es p) pos) (dFr (dAddL (dOf d) (dOf (dFr (dLst dl))))):=E.fr (O.add (SE.held x) (SE.held (E.fr (O.lst y))))
theorem E.addL {r:Expr} {es:List Expr} {p pos:Pos} {d:DE} {dl:DL} (y:SL cx es dl) (x:SE cx r d):SE cx (.BinOp (.List es p) .Add r pos) (dFr (dAddL (dOf (dFr (dLst dl))) (dOf d))):=E.fr (O.add (SE.held (E.fr (O.lst y))) (SE.held x))
theorem E.cNotInT {l r:Expr} {pos:Pos} {dl dr:DE} (hm:behindInMarks .NotIn r = false) (x:SE cx l dl) (y:SE cx r dr):SE cx (.Compare l [.NotIn] [r] pos) (dBin fNotInT dl dr):=E.cmp hm p_notInT x y
theorem B.cNotInT {l r:Expr} {pos:Pos} {dl dr:DE} (hm:behindInMarks .NotIn r = false) (x:SE cx l dl) (y:SE cx r dr):SB cx (.Compare l [.NotIn] [r] pos) (dB (dBin fNotInT dl dr)):=B.cmp hm p_notInT x y
noncomputable def isStrs:List PV -> (List Str -> Prop) -> Prop
 | [],Q=>Q []
 | p :: l,Q=>oq (pvS p) fun s=>isStrs l fun r=>Q (toS s :: r)
theorem isStrs.el {P:PW} {Φ:Fz} {l:List PV} {K:List Str -> Prop} {vs:List Value} {C:Prop} (h:isStrs l K) (x:VRs P Φ l vs) (k:∀ q,K q -> ItemsAre P.sk q vs -> C):C:=by
 induction l generalizing vs K with
 | nil=>cases x; exact k [] h .nil
 | cons p l ih =>
  obtain ⟨v,r,x,y⟩:=x
  refine pvS.el (C:=fun v=>(∀ q,K q -> ItemsAre P.sk q (v :: r) -> C) -> C) h x (fun i t h k=>ih h y fun q h y=>k _ h (.cons (keyIs i t) y)) k
noncomputable def fInE:F2:=fun a b Q=>oq (pvU a) fun t=>oq (pvD b) fun l=>bq l.isEmpty (isStrs t fun zq=>Q (.bool false))
section
variable {P:PW} {h:Heap} {a:Addr}
theorem tupKeyS {vs:List Value} {n:Nat} {ks:List Str} (e:h.get? a = some (tupO vs n)) (i:ItemsAre P.sk ks vs):IsTupleKey P.sk h ks a:=⟨_,vs.toArray,n,e,rfl,rfl,i⟩
theorem emptyH {ob:Obj} {kvs:List (Str × Value)} (d:DctO P ob kvs) (e:kvs = []) (ho:h.get? a = some ob):h.DictOfH (tupleKind P.sk) a []:=by
 obtain ⟨hx,⟨es,ep,hd,hk,hp⟩,hn⟩:=d
 subst e
 have:es.toList = []:=by generalize es.toList = l at hp; cases hp; rfl
 exact ⟨ob,es,ep,ho,hx,hd,by rw [this]; rfl,(fun x hx=>nomatch hx),List.nodup_nil⟩
theorem VRd.none {Φ:Fz} {l:List (Nm × PV)} {kvs:List (Str × Value)} (x:VRd P Φ l kvs) (h:l.isEmpty = true):kvs = []:=by
 cases l with | nil=>cases x; rfl | cons=>cases h
end
theorem has_none {P:PW} {Kt:Type} [DecidableEq Kt] {A:Around} {E:Value -> Shared -> Prop} {s:Shared} {knd:HeapKind P.prog P.w Kt} {d a:Addr} {k:Kt} {Q:Bool -> Shared -> Prop} (hu:knd.room A.in1) (hkey:knd.is s.heap k a) (hd:(d == sysModules) = false) (hm:s.heap.DictOfH knd d [])
  (h:Q false { s with toks:=s.toks + knd.draws k }):wpAny P.M A (contains (.ref d) (.ref a)) Q E s:=by
 unfold contains
 try with_reducible refine wpAny_holding ?_
 refine wpAny_bind (wpAny_specialOf hm.typeIs slot_dict_contains.lookup ?_)
 rw [if_neg (by decide)]
 refine wpAny_bind (wpAny_callSpecialUnlessNone?_slot (name:=Str.ofString "__contains__") hm.typeIs slot_dict_contains (wpAny_call_entry slot_dict_contains hm.typeIs entry_dict_contains ?_ (args_dict_contains _ _)))
 show wpAny _ _ (dictGet d (.ref a) >>= _) _ _ s
 refine wpAny_bind (wpAny_dictGet_heap hu hkey hm ?_)
 show wpAny _ _ (Builtin.Dict.pendingKey? d (.ref a) >>= _) _ _ _
 exact wpAny_bind (wpAny_pendingKey_other hd (wpAny_pure ⟨_,rfl,wpAny_truthy_bool h⟩))
theorem p_inE:Prim2H (compareOp .In) fInE:=fun cx R fr ow τ va vb a b O S x y=>.mk fun Q Q' E' h k=>oq.el h fun t et h=>oq.el h fun l el h=>bq.el h fun hl g=>by
 cases a with
 | tup t' =>
  cases et
  have el:=pvD.at el
  subst el
  obtain ⟨ta,us,m,fa,ga⟩:=x
  obtain ⟨d,ob,kvs,hob,sm,dO,hv⟩:=y
  refine isStrs.el g ga fun ks g ix=>?_
  show wpAny _ _ (contains (.ref d) (.ref ta) >>= fun b=>pure (Value.bool b)) _ _ _
  exact wpAny_bind (has_none (knd:=tupleKind R.P.sk) (k:=ks) (Nat.lt_of_le_of_lt (Nat.add_le_add_left (show 1 <= 5 by decide) R.A.units) O.room.units5) (tupKeyS (S.core.frz _ _ fa) ix) sm (emptyH dO (hv.none hl) hob) (wpAny_pure (k _ ⟨τ.G,τ.Φ,_⟩ _ g .heap S.tok rfl)))
 | _=>cases et
theorem B.cInE {l r:Expr} {pos:Pos} {dl:DE} {dr:DH} (hm:behindInMarks .In r = false) (x:SE cx l dl) (y:SH cx r dr):SB cx (.Compare l [.In] [r] pos) (dB (dBinH fInE dl dr)):=B.cmpH hm p_inE x y
theorem St.forget {R:Rn} {fr:Fr} {ow:List (List Addr)} {τ:Tau} (S:St R fr ow τ) {i:Nat} {lv:LV} {a:Addr} {ob:Obj} (hl:fr[i]? = some lv) (ho:ow[i]? = some [a]) (hob:τ.h.get? a = some ob):St (R.st [(a,ob)]) (fr.set i .any) (ow.set i []) τ :=
 have p:(R.X.own ow).Perm (Act.own { R.X with still:=[(a,ob)] ++ R.X.still } (ow.set i [])):=(((fl_perm ho).append_left (R.X.fa ++ R.X.still.map (fun q=>q.1))).trans List.perm_middle).trans (own_perm R.X (ow.set i []) [(a,ob)]).symm
 {core:=S.core
  slots:=Slots.lv (lv':=.any) (own':=[]) Fz.le_refl (fun v zq=>LAny.mk v) S.slots hl ho
  nd:=p.nodup_iff.mp S.nd
  off:=fun b hb=>have y:=S.off b (p.mem_iff.mpr hb); ⟨y.f,y.h0,y.r⟩
  live:=S.live
  still:=fun q hq=>by
   cases hq with
   | head=>exact hob
   | tail _ hq=>exact S.still q hq }
noncomputable def isEm (x:Option LV):Bool:=match x with | some (.od l)=>l.isEmpty | _=>false
theorem isEm.at {x:Option LV} (h:isEm x = true):x = some (.od []):=by
 cases x with
 | none=>cases h
 | some v=>cases v with
  | od l=>cases l with | nil=>rfl | cons=>cases h
  | _=>cases h
noncomputable def aGone (i:Nat) (di:DE):DA:=fun o zq fr G Q=>bq (isEm fr[i]?) (di o fr G fun a G=>oq (pvU a) fun l=>isStrs l fun zq=>Q (fr.set i .any) G)
theorem A.gone {x:Str} {k:NameKind} {i:Nat} {np pos:Pos} {e:Expr} {d:DE} (hm:(x,k,i) ∈ cx.tb) (hx:okName x = true) (y:SE cx e d):SA cx (.Subscript (.Name x np) e pos) (aGone i d) :=
 fun R fr ow τ v p O S hv=>.mk fun Q Q' E' h j=>bq.el h fun hl h=>by
  have hl:=isEm.at hl
  show wpAny _ _ (holding [v] (eval (.Name x np) R.X.env) >>= fun ov=>holding [v,ov] (eval e R.X.env) >>= fun iv=>standAt pos >>= fun zq=>holding [v,ov,iv] (setItem ov iv v) >>= fun zq=>release _ []) _ _ _
  have hH:dNameH i R.o fr τ.G fun r G=>r = .sl i /\ G = τ.G:=by unfold dNameH fh; rw [hl]; exact ⟨rfl,rfl⟩
  refine wpAny_bind (wpAny_holding ((H.name hm hx R fr ow τ O S).use hH fun r τ1 ov e t1 S1 v1=>?_))
  obtain ⟨er,eG⟩:=e
  subst er
  rw [<- eG] at h
  refine wpAny_bind (wpAny_holding ((y R fr ow τ1 O S1).use h fun a τ2 iv h t2 S2 v2=>wpAny_bind (wpAny_standAt (wpAny_bind (wpAny_holding (oq.el h fun t et h=>?_))))))
  obtain ⟨c,ha⟩:=v1
  obtain ⟨v',lr⟩:=S2.slotOwn hl ha
  obtain ⟨ob,m,e3,kvs,e5,e6⟩:=(LO.at lr).2
  cases a with
  | tup t' =>
   cases et
   obtain ⟨ta,us,m',fa,ga⟩:=v2
   refine isStrs.el h ga fun ks g ix=>?_
   have hDH:=emptyH e5 (e6.none rfl) e3
   refine wpAny_setItem_heap (knd:=tupleKind R.P.sk) (k:=ks) (Nat.lt_of_le_of_lt (Nat.add_le_add_left (show 1 <= 5 by decide) R.A.units) O.room.units5) (tupKeyS (S2.core.frz _ _ fa) ix) hDH (fun h3 hd3 hs3=>?_) (Nat.zero_le _)
   exact wpAny_release (j _ (ow.set i []) ⟨τ2.G,τ2.Φ,{ τ2.s with heap:=h3,toks:=_ }⟩ g (t1.trans (t2.trans .heap)) (St.restill O (S2.forget hl ha e3) fun b o hb e=>(hs3.2 b (not_one hb)).trans e))
  | _=>cases et
end
section
variable {cx:Cx}
noncomputable def foldR (C:Gs -> Prop) (step:PV -> Fr -> Gs -> WS):List PV -> Fr -> Gs -> WS
 | [],fr,G,Q=>C G /\ Q .nx fr G
 | p :: l,fr,G,Q=>C G /\ step p fr G (kFor (foldR C step l) Q)
noncomputable def rgL:Option RA -> Option (List PV) | some (.list l)=>some l | _=>none
theorem rgL.at {x:Option RA} {l:List PV} (h:rgL x = some l):x = some (.list l):=by
 cases x with | none=>cases h | some lv=>cases lv with | list l=>cases h; rfl | _=>cases h
noncomputable def dForR (d:DE) (da:DA) (db:DS):DS:=fun o fr G Q=>d o fr G fun a G=>oq (pvR a) fun k=>oq (rgL G[k]?) fun l=>foldR (fun G=>G[k]? = some (.list l)) (dTurn o da db) l fr G Q
inductive ForJ (R:Rn) (wr:List Addr) (J:Nat -> Heap -> Prop) (l:List PV) (C:Gs -> Prop) (step:PV -> Fr -> Gs -> WS) (Q:Flo -> Fr -> Gs -> Prop) (τ1:Tau):Nat -> Shared -> Prop
 | mk (pre m:List PV) (fr:Fr) (ow:List (List Addr)) (τ:Tau) (e:l = pre ++ m) (it:Iter R wr (J pre.length) fr ow τ) (t:To τ1 τ) (h:foldR C step m fr τ.G Q):ForJ R wr J l C step Q τ1 (m.length + 1) τ.s
theorem for_core {t:Expr} {body:List Stmt} {da:DA} {db:DS} {R:Rn} {fr:Fr} {ow:List (List Addr)} {τ1:Tau} {wr:List Addr} {J:Nat -> Heap -> Prop} {l:List PV} {cs:List (PV × Value)} {I:Addr} {C:Gs -> Prop} {Q:Flo -> Fr -> Gs -> Prop} {Q':Flow -> Shared -> Prop} {E':Value -> Shared -> Prop}
  (O:R.Ok cx) (S1:St R fr ow τ1) (y:SA cx t da) (z:SS cx body db) (j:J 0 τ1.h) (src:Src R.P τ1.Φ t I wr l cs J) (nd:wr.Nodup) (new:∀ a ∈ wr,New R.X τ1.Φ ow a) (hcs:∀ fr2 ow2 τ2,To τ1 τ2 -> St R fr2 ow2 τ2 -> C τ2.G -> ∀ c ∈ cs,HR R.P τ2.h τ2.Φ c.1 c.2)
  (h:foldR C (dTurn R.o da db) l fr τ1.G Q) (k:∀ fl fr' ow' τ' v,Q fl fr' τ'.G -> To τ1 τ' -> St R fr' ow' τ' -> FloR R.P τ'.Φ fl v -> Q' v τ'.s) :
  codeAny R.M R.A (.forLoop t (.ref I) body [] R.X.env) (fun r s'=>match r with | .ok f=>Q' f s' | .error e=>cameBackBy R.M R.A R.X.env E' e s') τ1.s:=by
 refine codeAny_forLoop_any (ForJ R wr J l C (dTurn R.o da db) Q τ1) (fun n s w=>?_) (l.length + 1) ⟨[],l,fr,ow,τ1,rfl,.start S1 nd new (src.live _ _ j) j,.refl,h⟩
 obtain ⟨pre,m,fr2,ow2,τ2,el,it,t2,h⟩:=w
 have S2:=it.drop O
 cases m with
 | nil =>
  rw [List.append_nil] at el; subst el
  exact it.done O src t2.le (hcs _ _ _ t2 S2 h.1) fun τ3 e3 t3 S3=>wpAny_execs_nil (k _ _ _ τ3 _ (e3 ▸ h.2) (t2.trans t3) S3 .nx)
 | cons p m =>
  refine it.next O src t2.le (p:=p) (by rw [el]; simp) (hcs _ _ _ t2 S2 h.1) (fun v s1 q=>q) fun v τ3 e3 t3 it v3=>?_
  obtain ⟨st,e,S3,hJ⟩:=it
  have O2:=O.add st
  have h:da R.o p fr2 τ3.G (fun fr G=>db R.o fr G (kFor (foldR C (dTurn R.o da db) m) Q)):=e3 ▸ h.2
  refine (y (R.st st) fr2 ow2 τ3 v p O2 S3 v3).use h fun fr4 ow4 τ4 h t4 S4=>(z (R.st st) fr4 ow4 τ4 O2 S4).use h fun f fr5 ow5 τ5 fl h t5 S5 v5=>?_
  have it5:=Iter.keep src e S3.mine hJ S5
  have t25:=t2.trans (t3.trans (t4.trans t5))
  cases v5 with
  | nx=>exact ⟨m.length + 1,Nat.lt_succ_self _,pre ++ [p],m,fr5,ow5,τ5,by rw [el]; simp,by rw [List.length_append]; exact it5,t25,h⟩
  | rt p v x=>exact k (.rt p) fr5 ow5 τ5 _ h t25 (it5.drop O) (.rt p v x)
theorem X.forR {t e:Expr} {body:List Stmt} {pos:Pos} {d:DE} {da:DA} {db:DS} (hs:∀ env x,foldedSetIterable e env x = pure x) (ht:OkT t) (x:SE cx e d) (y:SA cx t da) (z:SS cx body db):SX cx (.For t e body [] pos) (dForR d da db) :=
 fun R fr ow τ O S=>.mk fun Q Q' E' h k=>wpAny_For ((x R fr ow τ O S).use h fun a τ0 v h t0 S0 v0=>by
  refine pvR.el (C:=fun v=>wpAny R.M R.A (pyIter v) _ E' τ0.s) h v0 fun i c hc h=>oq.el h fun l hl h=>?_
  obtain ⟨ed,vs0,n0,hv0,hl0⟩:=S0.core.regs.at hc (rgL.at hl)
  rw [ed] at hl0
  refine wpAny_pyIter_list (isListOf hl0) (for_core (τ1:=⟨τ0.G,τ0.Φ,{ τ0.s with heap:=_ }⟩) O (S0.push O _ _) y z (J:=fun i h=>h.IsListIter τ0.h.objs.size c.addr i) ⟨_,Heap.get?_push_size _ rfl,rfl,rfl⟩ (src_list (ax:=c.addr) (l:=l) ht) nd1 (S0.isNew O get_size).on (fun fr2 ow2 τ2 t2 S2 hC c' hc'=>?_) h fun fl fr' ow' τ' v q t S v1=>k fl fr' ow' τ' v q (t0.trans (To.trans .heap t)) S v1)
  cases List.mem_singleton.mp hc'
  obtain ⟨ed2,vs2,n2,hv2,hl2⟩:=S2.core.regs.at (get_le t2.le hc) hC
  exact ⟨c.addr,vs2,n2,ed ▸ hl2,hv2⟩) (hs _)
noncomputable def slL:Option LV -> Option (List PV) | some (.ol l)=>some l | _=>none
theorem slL.at {x:Option LV} {l:List PV} (h:slL x = some l):x = some (.ol l):=by
 cases x with | none=>cases h | some lv=>cases lv with | ol l=>cases h; rfl | _=>cases h
noncomputable def dIown (i:Nat):DI:=fun zq fr G Q=>oq (slL fr[i]?) fun l=>Q l G
theorem I.own {x:Str} {k:NameKind} {i:Nat} {pos:Pos} {t:Expr} (ht:OkT t) (hm:(x,k,i) ∈ cx.tb) (hx:okName x = true):SIh cx (.Name x pos) t (dIown i) :=
 fun R fr ow τ Q O S h=>oq.el h fun l hl h=>by
  have hl:=slL.at hl
  have hH:dNameH i R.o fr τ.G fun r G=>r = .sl i /\ G = τ.G:=by unfold dNameH fh; rw [hl]; exact ⟨rfl,rfl⟩
  refine (H.name hm hx R fr ow τ O S).use hH fun r τ1 v e t1 S1 v1=>?_
  obtain ⟨er,eG⟩:=e
  subst er
  have hres:(HV.sl i).res fr τ1.G = some (.lst l):=by show slPV fr[i]? = _; rw [hl]; rfl
  have hv:=S1.held v1 hres
  have v1':=v1
  obtain ⟨a,ha⟩:=v1
  obtain ⟨_,vs,m,f,g⟩:=hv
  exact wpAny_pyIter_list (isListOf f) ⟨_,⟨τ1.G,τ1.Φ,{ τ1.s with heap:=_ }⟩,l,[τ1.h.objs.size],[(.sl i,.lst l,.ref a)],_,eG.symm ▸ h,t1.trans .heap,S1.push O _ _,⟨_,Heap.get?_push_size _ rfl,rfl,rfl⟩,src_list ht,nd1,(S1.isNew O get_size).on,
   fun c hc=>by cases List.mem_singleton.mp hc; exact ⟨v1',fun zq=>hres,fun e=>nomatch e⟩⟩
end
section
noncomputable abbrev cOpener:Addr:=470
noncomputable abbrev cEval:Addr:=622
noncomputable abbrev cSigs:Addr:=793
noncomputable def strsAre:List Nm -> List Value -> Prop
 | [],vs=>vs = []
 | k :: l,vs=>∃ t r,vs = .str (toS k) t :: r /\ strsAre l r
noncomputable def dctIs (w:World):List (Nm × Nm) -> List DictEntry -> Prop
 | [],es=>es = []
 | (k,v) :: l,es=>∃ t u r,es = ⟨hashStr w (toS k),.str (toS k) t,.str (toS v) u⟩ :: r /\ dctIs w l r
section
variable {P:PW} {K:Frag} {Φ:Fz} {x:Str}
theorem strsAre.vr:∀ {l:List Nm} {vs:List Value},strsAre l vs -> VRs P Φ (l.map .str) vs
 | [],_,h=>by cases h; exact .mk
 | k :: _,_,⟨t,r,e,h⟩=>by cases e; exact .mk _ r (.mk t) h.vr
theorem GlobOk.int {i:Int} {t:Tok} (h:gv K x = some (.int i t)):GlobOk P K x (.int i):=⟨_,h,fun zq zq=>.mk t⟩
theorem GlobOk.strs {a:Addr} {l:List Nm} {vs:List Value} {n:Nat} (h:gv K x = some (.ref a)) (ho:K.lookup a = some (tupO vs n)) (hs:strsAre l vs):GlobOk P K x (.tup (l.map .str)) :=
 ⟨_,h,fun Φ k=>.mk a vs n (k _ _ ho) hs.vr⟩
theorem strKind_is {p:Program} {w:World} {s:Str} {t:Tok}:(strKind p w).is s (.str s t) = true:=by simp [strKind,Value.isStrOf]
theorem dctIs.pairs:∀ {l:List (Nm × Nm)} {es:List DictEntry},dctIs P.w l es -> ∃ kvs,Pairs P.sk es kvs /\ VRd P Φ (l.map fun e=>(e.1,.str e.2)) kvs /\ kvs.map (fun q=>q.1) = l.map (fun e=>toS e.1) /\ (∀ e ∈ es,∃ k,P.sk.is k e.key = true /\ e.hash = P.sk.hash k)
 | [],_,h=>by cases h; exact ⟨[],.nil,.mk,rfl,fun e h=>nomatch h⟩
 | (k,v) :: l,_,⟨t,u,r,e,h⟩=>by
  cases e
  obtain ⟨kvs,h1,h2,h3,h4⟩:=h.pairs
  refine ⟨(toS k,.str (toS v) u) :: kvs,.cons strKind_is rfl h1,.mk (.str (toS v) u) kvs (.mk u) h2,congrArg (toS k :: ·) h3,fun e he=>?_⟩
  cases he with
  | head=>exact ⟨toS k,strKind_is,rfl⟩
  | tail _ he=>exact h4 e he
theorem GlobOk.dict {a:Addr} {l:List (Nm × Nm)} {es:Array DictEntry} {ep:Nat} (h:gv K x = some (.ref a)) (hs:(a == sysModules) = false) (ho:K.lookup a = some { cls:=.type "dict",data:=.dict es ep }) (hd:dctIs P.w l es.toList) (nd:(l.map (fun q=>q.1)).Nodup) :
  GlobOk P K x (.dct (l.map fun e=>(e.1,.str e.2))):=by
 refine ⟨_,h,fun Φ k=>?_⟩
 obtain ⟨kvs,h1,h2,h3,h4⟩:=hd.pairs (Φ:=Φ)
 refine .mk a _ kvs (k _ _ ho) hs ⟨⟨rfl,rfl,rfl⟩,⟨es,ep,rfl,fun e he=>h4 e (Array.mem_toList_iff.mpr he),h1⟩,?_⟩ h2
 rw [h3,show l.map (fun e=>toS e.1) = (l.map (fun q=>q.1)).map toS by rw [List.map_map]; rfl]
 exact List.pairwise_map.mpr (nd.imp fun hne e=>hne (toS_inj e))
end
noncomputable def k_0:Nm:=[]
noncomputable def kx_21:Nm:=[33]
noncomputable def kx_213d:Nm:=[33,61]
noncomputable def kx_21696e:Nm:=[33,105,110]
noncomputable def kx_23:Nm:=[35]
noncomputable def kx_26:Nm:=[38]
noncomputable def kx_2626:Nm:=[38,38]
noncomputable def kx_27:Nm:=[39]
noncomputable def kx_2a:Nm:=[42]
noncomputable def kx_2b:Nm:=[43]
noncomputable def kx_2b2b:Nm:=[43,43]
noncomputable def kx_2d:Nm:=[45]
noncomputable def kx_2e:Nm:=[46]
noncomputable def kx_2f6e657874:Nm:=[47,110,101,120,116]
noncomputable def kx_3a3e:Nm:=[58,62]
noncomputable def kx_3c:Nm:=[60]
noncomputable def kx_3c3a:Nm:=[60,58]
noncomputable def kx_3c3d3e:Nm:=[60,61,62]
noncomputable def kx_3d:Nm:=[61]
noncomputable def kx_3d3e:Nm:=[61,62]
noncomputable def kx_3e:Nm:=[62]
noncomputable def kx_3e3d:Nm:=[62,61]
noncomputable def k_A:Nm:=[65]
noncomputable def kx_412e66:Nm:=[65,46,102]
noncomputable def kx_5e:Nm:=[94]
noncomputable def k___init__:Nm:=[95,95,105,110,105,116,95,95]
noncomputable def k_ahead:Nm:=[97,104,101,97,100]
noncomputable def k_all:Nm:=[97,108,108]
noncomputable def k_all_above:Nm:=[97,108,108,95,97,98,111,118,101]
noncomputable def k_all_atoms:Nm:=[97,108,108,95,97,116,111,109,115]
noncomputable def k_all_fields:Nm:=[97,108,108,95,102,105,101,108,100,115]
noncomputable def k_and:Nm:=[97,110,100]
noncomputable def k_any:Nm:=[97,110,121]
noncomputable def k_arity:Nm:=[97,114,105,116,121]
noncomputable def k_arity_of_relation:Nm:=[97,114,105,116,121,95,111,102,95,114,101,108,97,116,105,111,110]
noncomputable def k_arrow:Nm:=[97,114,114,111,119]
noncomputable def k_begun:Nm:=[98,101,103,117,110]
noncomputable def k_behind:Nm:=[98,101,104,105,110,100]
noncomputable def k_bin:Nm:=[98,105,110]
noncomputable def k_block:Nm:=[98,108,111,99,107]
noncomputable def k_both:Nm:=[98,111,116,104]
noncomputable def k_bounded:Nm:=[98,111,117,110,100,101,100]
noncomputable def k_box:Nm:=[98,111,120]
noncomputable def k_call_env:Nm:=[99,97,108,108,95,101,110,118]
noncomputable def k_call_of:Nm:=[99,97,108,108,95,111,102]
noncomputable def k_called_expr:Nm:=[99,97,108,108,101,100,95,101,120,112,114]
noncomputable def k_calls:Nm:=[99,97,108,108,115]
noncomputable def k_cells:Nm:=[99,101,108,108,115]
noncomputable def k_choose:Nm:=[99,104,111,111,115,101]
noncomputable def k_closure:Nm:=[99,108,111,115,117,114,101]
noncomputable def k_comp:Nm:=[99,111,109,112]
noncomputable def k_compared:Nm:=[99,111,109,112,97,114,101,100]
noncomputable def k_compr:Nm:=[99,111,109,112,114]
noncomputable def k_count:Nm:=[99,111,117,110,116]
noncomputable def k_decls_of:Nm:=[100,101,99,108,115,95,111,102]
noncomputable def k_direct:Nm:=[100,105,114,101,99,116]
noncomputable def k_each:Nm:=[101,97,99,104]
noncomputable def k_either:Nm:=[101,105,116,104,101,114]
noncomputable def k_entries:Nm:=[101,110,116,114,105,101,115]
noncomputable def k_eq:Nm:=[101,113]
noncomputable def k_exists:Nm:=[101,120,105,115,116,115]
noncomputable def k_expr:Nm:=[101,120,112,114]
noncomputable def k_expr_of:Nm:=[101,120,112,114,95,111,102]
noncomputable def k_f:Nm:=[102]
noncomputable def k_false:Nm:=[102,97,108,115,101]
noncomputable def k_field_kind:Nm:=[102,105,101,108,100,95,107,105,110,100]
noncomputable def k_fields:Nm:=[102,105,101,108,100,115]
noncomputable def k_form:Nm:=[102,111,114,109]
noncomputable def k_form_of_call:Nm:=[102,111,114,109,95,111,102,95,99,97,108,108]
noncomputable def k_fresh:Nm:=[102,114,101,115,104]
noncomputable def k_fun:Nm:=[102,117,110]
noncomputable def k_g:Nm:=[103]
noncomputable def k_gpq:Nm:=[103,112,113]
noncomputable def k_gt:Nm:=[103,116]
noncomputable def k_gte:Nm:=[103,116,101]
noncomputable def k_has:Nm:=[104,97,115]
noncomputable def k_has_many:Nm:=[104,97,115,95,109,97,110,121]
noncomputable def k_height:Nm:=[104,101,105,103,104,116]
noncomputable def k_iden:Nm:=[105,100,101,110]
noncomputable def k_if:Nm:=[105,102]
noncomputable def k_iff:Nm:=[105,102,102]
noncomputable def k_implies:Nm:=[105,109,112,108,105,101,115]
noncomputable def k_in:Nm:=[105,110]
noncomputable def k_instance:Nm:=[105,110,115,116,97,110,99,101]
noncomputable def k_is_marked:Nm:=[105,115,95,109,97,114,107,101,100]
noncomputable def k_is_subset:Nm:=[105,115,95,115,117,98,115,101,116]
noncomputable def k_items:Nm:=[105,116,101,109,115]
noncomputable def k_join:Nm:=[106,111,105,110]
noncomputable def k_kinds:Nm:=[107,105,110,100,115]
noncomputable def k_le:Nm:=[108,101]
noncomputable def k_led:Nm:=[108,101,100]
noncomputable def k_less:Nm:=[108,101,115,115]
noncomputable def k_let:Nm:=[108,101,116]
noncomputable def k_let_env:Nm:=[108,101,116,95,101,110,118]
noncomputable def k_lone:Nm:=[108,111,110,101]
noncomputable def k_look_above:Nm:=[108,111,111,107,95,97,98,111,118,101]
noncomputable def k_look_fields:Nm:=[108,111,111,107,95,102,105,101,108,100,115]
noncomputable def k_lt:Nm:=[108,116]
noncomputable def k_lte:Nm:=[108,116,101]
noncomputable def k_many:Nm:=[109,97,110,121]
noncomputable def k_marked:Nm:=[109,97,114,107,101,100]
noncomputable def k_measured:Nm:=[109,101,97,115,117,114,101,100]
noncomputable def k_meet:Nm:=[109,101,101,116]
noncomputable def k_minus:Nm:=[109,105,110,117,115]
noncomputable def k_name:Nm:=[110,97,109,101]
noncomputable def k_named:Nm:=[110,97,109,101,100]
noncomputable def k_nexts:Nm:=[110,101,120,116,115]
noncomputable def k_no:Nm:=[110,111]
noncomputable def k_none:Nm:=[110,111,110,101]
noncomputable def k_not:Nm:=[110,111,116]
noncomputable def k_num:Nm:=[110,117,109]
noncomputable def k_number:Nm:=[110,117,109,98,101,114]
noncomputable def k_number_of:Nm:=[110,117,109,98,101,114,95,111,102]
noncomputable def k_numbers:Nm:=[110,117,109,98,101,114,115]
noncomputable def k_of_one:Nm:=[111,102,95,111,110,101]
noncomputable def k_of_two:Nm:=[111,102,95,116,119,111]
noncomputable def k_one:Nm:=[111,110,101]
noncomputable def k_open:Nm:=[111,112,101,110]
noncomputable def k_opened:Nm:=[111,112,101,110,101,100]
noncomputable def k_or:Nm:=[111,114]
noncomputable def k_order_expr:Nm:=[111,114,100,101,114,95,101,120,112,114]
noncomputable def k_ordered:Nm:=[111,114,100,101,114,101,100]
noncomputable def k_orders:Nm:=[111,114,100,101,114,115]
noncomputable def k_orders_of:Nm:=[111,114,100,101,114,115,95,111,102]
noncomputable def k_override:Nm:=[111,118,101,114,114,105,100,101]
noncomputable def k_own_fields:Nm:=[111,119,110,95,102,105,101,108,100,115]
noncomputable def k_owners:Nm:=[111,119,110,101,114,115]
noncomputable def k_p:Nm:=[112]
noncomputable def k_parent:Nm:=[112,97,114,101,110,116]
noncomputable def k_parents_first:Nm:=[112,97,114,101,110,116,115,95,102,105,114,115,116]
noncomputable def k_peak:Nm:=[112,101,97,107]
noncomputable def k_places:Nm:=[112,108,97,99,101,115]
noncomputable def k_plus:Nm:=[112,108,117,115]
noncomputable def k_pop:Nm:=[112,111,112]
noncomputable def k_pq:Nm:=[112,113]
noncomputable def k_pred:Nm:=[112,114,101,100]
noncomputable def k_prevs:Nm:=[112,114,101,118,115]
noncomputable def k_product:Nm:=[112,114,111,100,117,99,116]
noncomputable def k_q:Nm:=[113]
noncomputable def k_quant:Nm:=[113,117,97,110,116]
noncomputable def k_quantified:Nm:=[113,117,97,110,116,105,102,105,101,100]
noncomputable def k_rel:Nm:=[114,101,108]
noncomputable def k_same:Nm:=[115,97,109,101]
noncomputable def k_same_atoms:Nm:=[115,97,109,101,95,97,116,111,109,115]
noncomputable def k_set:Nm:=[115,101,116]
noncomputable def k_set_of:Nm:=[115,101,116,95,111,102]
noncomputable def k_sig:Nm:=[115,105,103]
noncomputable def k_signatures:Nm:=[115,105,103,110,97,116,117,114,101,115]
noncomputable def k_some:Nm:=[115,111,109,101]
noncomputable def k_spend:Nm:=[115,112,101,110,100]
noncomputable def k_spent:Nm:=[115,112,101,110,116]
noncomputable def k_spot:Nm:=[115,112,111,116]
noncomputable def k_stands:Nm:=[115,116,97,110,100,115]
noncomputable def k_star:Nm:=[115,116,97,114]
noncomputable def k_steps:Nm:=[115,116,101,112,115]
noncomputable def k_sum:Nm:=[115,117,109]
noncomputable def k_supers:Nm:=[115,117,112,101,114,115]
noncomputable def k_take_order:Nm:=[116,97,107,101,95,111,114,100,101,114]
noncomputable def k_take_sig:Nm:=[116,97,107,101,95,115,105,103]
noncomputable def k_those:Nm:=[116,104,111,115,101]
noncomputable def k_times:Nm:=[116,105,109,101,115]
noncomputable def k_true:Nm:=[116,114,117,101]
noncomputable def k_truth:Nm:=[116,114,117,116,104]
noncomputable def k_truth_of:Nm:=[116,114,117,116,104,95,111,102]
noncomputable def k_tuples:Nm:=[116,117,112,108,101,115]
noncomputable def k_turn:Nm:=[116,117,114,110]
noncomputable def k_turned:Nm:=[116,117,114,110,101,100]
noncomputable def k_un:Nm:=[117,110]
noncomputable def k_union:Nm:=[117,110,105,111,110]
noncomputable def k_univ:Nm:=[117,110,105,118]
noncomputable def k_used:Nm:=[117,115,101,100]
noncomputable def k_value:Nm:=[118,97,108,117,101]
noncomputable def k_var:Nm:=[118,97,114]
noncomputable def k_wanted:Nm:=[119,97,110,116,101,100]
noncomputable def k_whole:Nm:=[119,104,111,108,101]
noncomputable def k_x:Nm:=[120]
noncomputable def k_xy:Nm:=[120,121]
noncomputable def k_y:Nm:=[121]
noncomputable def kx_7c7c:Nm:=[124,124]
noncomputable def kx_7e:Nm:=[126]
noncomputable def gTab:List (Str × Value):=[
 (Str.ofString "len",.builtin "len"),(Str.ofString "tuple",.type "tuple"),(Str.ofString "list",.type "list"),(Str.ofString "dict",.type "dict"),(Str.ofString "range",.type "range"),(Str.ofString "enumerate",.type "enumerate"),
 (Str.ofString "zip",.type "zip"),(Str.ofString "max",.builtin "max"),(Str.ofString "min",.builtin "min"),(Str.ofString "sorted",.builtin "sorted"),(Str.ofString "set",.type "set"),(Str.ofString "all",.builtin "all"),(Str.ofString "any",.builtin "any")]
noncomputable def fTab:List (Str × Addr):=[
 (Str.ofString "all_of",116),(Str.ofString "united",123),(Str.ofString "union",494),(Str.ofString "meet",499),(Str.ofString "minus",504),(Str.ofString "is_within",511),(Str.ofString "product",516),(Str.ofString "join",521),
 (Str.ofString "turned",526),(Str.ofString "closure",533),(Str.ofString "star",540),(Str.ofString "override",545),(Str.ofString "ahead",550),(Str.ofString "behind",555),(Str.ofString "univ_of",482),(Str.ofString "iden_of",487),(Str.ofString "set_of_sets",477),
 (Str.ofString "_law_draw",804),(Str.ofString "_law_set",811),(Str.ofString "_law_truth",818),(Str.ofString "_law_decl",825),(Str.ofString "_law_node",832),(Str.ofString "_law_with",839),(Str.ofString "_law_value",844),(Str.ofString "_law_goal",849),(Str.ofString "_law_instance",854)]
noncomputable def numberHeads:List Nm:=[k_num,k_count,k_plus,k_less,k_times,k_sum,k_choose]
noncomputable def truthHeads:List Nm:=[k_true,k_false,k_not,k_and,k_or,k_implies,k_iff,k_in,k_same,k_some,k_no,k_one,k_lone,k_all,k_exists,k_le,k_lt,k_eq]
noncomputable def turnedL:List Nm:=[kx_7e,kx_5e,kx_2a]
noncomputable def setSigns:List (Nm × Nm):=[(kx_2b,k_union),(kx_26,k_meet),(kx_2d,k_minus),(kx_2e,k_join),(kx_2b2b,k_override),(kx_3c3a,k_ahead),(kx_3a3e,k_behind)]
noncomputable def cTab:List (Str × PV):=[(Str.ofString "MOST_NODES",.int 20000),(Str.ofString "MOST_LEVELS",.int 100),(Str.ofString "NUMBER_HEADS",.tup (numberHeads.map .str)),(Str.ofString "TRUTH_HEADS",.tup (truthHeads.map .str)),(Str.ofString "TURNED",.tup (turnedL.map .str)),
 (Str.ofString "SET_SIGNS",.dct (setSigns.map fun e=>(e.1,.str e.2)))]
noncomputable def fldTab:List (Addr × List Nm):=[(cOpener,[k_signatures,k_kinds,k_items,k_numbers,k_calls,k_count,k_spent,k_height,k_peak]),(cEval,[k_many,k_instance]),(cSigs,[k_entries,k_stands,k_opened,k_ordered,k_own_fields])]
noncomputable def ft0:FT:=fun C m=>fldTab.any fun e=>e.1 == C && e.2.any fun s=>s == m
noncomputable def mthTab:List (Addr × List (Nm × Addr)):=[
 (cOpener,[(k___init__,225),(k_fresh,144),(k_rel,151),(k_owners,156),(k_places,166),(k_named,171),(k_arity,197),(k_arity_of_relation,202),(k_spend,232),(k_measured,239),(k_used,246),(k_form,253),(k_form_of_call,260),(k_value,267),
  (k_begun,281),(k_call_of,288),(k_call_env,293),(k_truth,300),(k_truth_of,305),(k_compared,319),(k_decls_of,324),(k_quantified,331),(k_expr,338),(k_expr_of,345),(k_wanted,371),(k_called_expr,378),(k_is_marked,399),(k_bounded,406)]),
 (cEval,[(k___init__,569),(k_opened,576),(k_set_of,581),(k_of_two,595),(k_truth,605),(k_has_many,619)]),
 (cSigs,[(k___init__,640),(k_take_sig,647),(k_look_above,654),(k_direct,661),(k_parents_first,666),(k_all_fields,673),(k_look_fields,680),(k_has,699),(k_parent,713),(k_supers,720),(k_is_subset,727),(k_all_above,755),(k_fields,776),(k_orders,790)])]
noncomputable def mt0:MT:=fun C m=>(mthTab.find? fun e=>e.1 == C).bind fun e=>(e.2.find? fun s=>s.1 == m).map (fun q=>q.2)
noncomputable def nTab:List (Str × Addr × Addr):=[(Str.ofString "Opener",cOpener,225),(Str.ofString "Evaluator",cEval,569),(Str.ofString "Signatures",cSigs,640)]
structure KOk (P:PW) (K:Frag):Prop where
 g:∀ p ∈ gTab,gv K p.1 = some p.2
 f:∀ p ∈ fTab,gv K p.1 = some (.ref p.2) /\ isFnK K p.2 = true
 c:∀ p ∈ cTab,GlobOk P K p.1 p.2
 ft:FTok K ft0
 mt:MTok K mt0
 n:∀ p ∈ nTab,gv K p.1 = some (.ref p.2.1) /\ NewOk K p.2.1 p.2.2
theorem lookup_memA {α β:Type} [BEq α] [LawfulBEq α] {f:α} {F:β}:∀ {l:List (α × β)},l.lookup f = some F -> (f,F) ∈ l
 | (g,H) :: l,e=>by
  rw [List.lookup_cons] at e
  cases q:f == g with
  | true=>rw [q] at e; cases e; exact eq_of_beq q ▸ .head _
  | false=>rw [q] at e; exact .tail _ (lookup_memA e)
noncomputable def slotOf:Tb -> Str -> Option (NameKind × Nat)
 | [],_=>none
 | (y,k,i) :: r,x=>bif x == y then some (k,i) else slotOf r x
theorem slotOf.mem {x:Str} {k:NameKind} {i:Nat}:∀ {tb:Tb},slotOf tb x = some (k,i) -> (x,k,i) ∈ tb
 | (y,k',j) :: r,e=>by
  unfold slotOf at e
  cases q:x == y with
  | true=>rw [q] at e; cases e; exact eq_of_beq q ▸ .head _
  | false=>rw [q] at e; exact .tail _ (slotOf.mem e)
noncomputable def hasG:List Str -> Str -> Bool
 | [],_=>false
 | y :: r,x=>x == y || hasG r x
theorem hasG.mem {x:Str}:∀ {l:List Str},hasG l x = true -> x ∈ l
 | y :: r,e=>by
  cases q:x == y with
  | true=>exact eq_of_beq q ▸ .head _
  | false=>exact .tail _ (hasG.mem (by unfold hasG at e; rw [q] at e; exact e))
end
section
structure FnSpec where
 f:Addr
 np:Nat
 vs:Vars
 b:List Stmt
 gl:List Str
 d:DS
 ok:SS ⟨tbOf 0 vs,gl,KOk⟩ b d
noncomputable def supArgs:List Stmt -> List Expr
 | .Expr (.Call _ as _ _) _ :: _=>as
 | _=>[]
noncomputable def hk (e:Expr):Nat:=match e with
 | .Starred _ _=>1
 | .ListComp _ _ _ _=>2
 | .SetComp _ _ _ _=>2
 | .DictComp _ _ _ _ _=>2
 | .Set _ _ _=>3
 | .Slice _ _ _ _=>4
 | .UnaryOp _ _ _=>5
 | .BoolOp _ _ _=>5
 | .IfExp _ _ _ _=>5
 | .Compare _ _ _ _=>5
 | .Tuple _ _ _=>7
 | .List _ _=>7
 | .Name _ _=>8
 | .Call _ as _ _=>cond as.isEmpty 6 0
 | _=>0
noncomputable def nk (n:Nat) (e:Expr):Bool:=!Nat.beq (hk e) n
section
variable {e t:Expr} {es ts:List Expr} {p p2:Pos} {m:Str}
theorem star_of (h:nk 1 e = true) (env:Env):starEach (e :: es) env = (false,eval e env) :: starEach es env:=by cases e <;> first | rfl | cases h
theorem asg_of (h:nk 1 t = true) (env:Env):assignEach (t :: ts) env = (false,PySem.assign t env) :: assignEach ts env:=by cases t <;> first | rfl | cases h
theorem sub_of (h:nk 4 t = true) (o j:Value):∃ l,subscripted t false o j = operate l (getItem o j):=⟨[o,j],by cases t <;> first | rfl | cases h⟩
theorem swp_of (h:nk 2 e = true) {t:Option Expr} {l:Nat} (env:Env):swapsWith e t l env = pure false:=by cases e <;> first | rfl | cases h
theorem base_of (h:nk 6 e = true) (env:Env) (w:Sem Value):attributeBase e m env w = w:=by
 cases e with
 | Call f as ks q =>
  cases as with
  | nil=>cases h
  | cons a as=>cases f <;> rfl
 | _=>rfl
noncomputable def ck (e:Expr) (es:List Expr) (p p2:Pos):Bool:=nk 6 e && (es.all (nk 1) && (Nat.blt es.length 30 && p.endLine == p2.line))
theorem back_star (h:es.all (nk 1) = true) (env:Env):(backTo p (starEach es env)).all (fun q=>!q.1) = true:=by
 induction es with
 | nil=>rfl
 | cons e es ih =>
  obtain ⟨a,b⟩:=an h
  rw [star_of a]
  exact ih b
theorem call_of (h:ck e es p p2 = true):okCall e m es p p2:=fun env=>by
 obtain ⟨a,h⟩:=an h
 obtain ⟨b,h⟩:=an h
 obtain ⟨c,d⟩:=an h
 refine ⟨base_of a env,(do return (<- importBound e env).getD true),?_⟩
 have f:methodCallForm (es.length + ([]:List Keyword).length) (backTo p2 (starEach es env)) (backToKw p2 (keywordEach [] env)) = true:=by
  unfold methodCallForm
  rw [back_star b]
  exact decide_eq_true (Nat.le_of_ble_eq_true c)
 show (do let ov <- attributeBase e m env (eval e env); standAt p.atName; methodCall e m p p2 env ov _ _ _) = _
 unfold methodCall
 rw [f]
 unfold methodCallPos
 rw [d]
 rfl
theorem swS_of (h:nk 2 e = true) {l:Nat} (env:Env):swapsWithSole [t] e l env = pure false:=swp_of h env
theorem back_one (h:nk 1 e = true) (env:Env):(backTo p (starEach [e] env)).any (fun q=>q.1) = false:=by rw [star_of h]; rfl
end
section
set_option maxHeartbeats 0
local macro_rules | `(tactic| kd_p)=>`(tactic| with_unfolding_all first | exact Eq.refl true | exact Eq.refl false | exact rfl | exact fun zq=>rfl | exact fun zq zq=>rfl | exact fun zq=>⟨rfl,rfl⟩ | exact OkT.n _ _ | exact OkT.t _ _ _ | exact fun zq=>⟨fun h=>List.cons_ne_nil _ _ h,Nat.le_of_ble_eq_true rfl⟩)
section
variable {cx:Cx} {tb tb':Tb} {gl gl':List Str} {N i j k':Nat} {x y x1 x2:Str} {k k1 k2:NameKind} {p p2 p3 p4:Pos} {kk kk2:Nat} {e e1 e2 t l r:Expr} {es ts vs elts:List Expr} {st:Stmt} {ss:List Stmt} {d d1 d2 dl dr:DE} {ds:DL} {dh:DH} {a:DA} {f:String} {db dc:DS} {dI:DI} {Ar:DAs} {dt:DB} {dg:List Dg} {do':DO} {dj:DJ} {g:Addr} {b:Bool} {T:String}
theorem qs {c:String} (m:Nm) (h:nm c = m:=by kd_p):SE cx (.Constant (.str (Str.ofString c)) kk p) (dConst (.str m)):=h ▸ E.strl
theorem qN (h:slotOf cx.tb x = some (k,i):=by kd_p) (h2:okName x = true:=by kd_p):SE cx (.Name x p) (dName i):=E.name (slotOf.mem h) h2
theorem qH (h:slotOf cx.tb x = some (k,i):=by kd_p) (h2:okName x = true:=by kd_p):SH cx (.Name x p) (dNameH i):=H.name (slotOf.mem h) h2
theorem qA (h:slotOf cx.tb x = some (k,i):=by kd_p) (h2:(k == .free) = false:=by kd_p):SA cx (.Name x p) (aName i):=A.name (slotOf.mem h) h2
theorem qC (h:slotOf cx.tb x = some (k,i):=by kd_p) (h2:(k == .free) = false:=by kd_p) (h3:decide (N <= i) = true:=by kd_p):SAc N cx (.Name x p) (aName i):=Ac.name (slotOf.mem h) h2 h3
theorem qL (y:SE cx e d) (z:SL cx es ds) (h:nk 1 e = true:=by kd_p):SL cx (e :: es) (dCons d ds):=L.cons (star_of h) y z
theorem qS (y:SH cx e dh) (z:SE cx t d) (h:nk 4 t = true:=by kd_p):SE cx (.Subscript e t p) (dSub dh d):=E.sub (sub_of h) y z
theorem qM (y:SE ⟨tb,gl,KOk⟩ e d) (z:SL ⟨tb,gl,KOk⟩ (e1 :: es) ds) (h:ck e (e1 :: es) p p2 = true:=by kd_p) (h2:nk 1 e1 = true:=by kd_p) {m:Nm} (hm:nm f = m:=by kd_p) :
  SE ⟨tb,gl,KOk⟩ (.Call (.Attribute e (Str.ofString f) p) (e1 :: es) [] p2) (dMeth mt0 d m ds):=hm ▸ E.methS (fun zq zq k=>k.mt) (call_of h) (star_of h2) y z
theorem qM0 (y:SE ⟨tb,gl,KOk⟩ e d) (h:ck e [] p p2 = true:=by kd_p) {m:Nm} (hm:nm f = m:=by kd_p):SE ⟨tb,gl,KOk⟩ (.Call (.Attribute e (Str.ofString f) p) [] [] p2) (dMeth0 mt0 d m):=hm ▸ E.meth0S (fun zq zq k=>k.mt) (call_of h) y
theorem qU (z:SL ⟨tb,gl,KOk⟩ (e1 :: es) ds) (h:hasG gl x = true:=by kd_p) (h2:okName x = true:=by kd_p) (h3:fTab.lookup x = some g:=by kd_p) (h4:nk 1 e1 = true:=by kd_p) :
  SE ⟨tb,gl,KOk⟩ (.Call (.Name x p) (e1 :: es) [] p2) (dCall g ds):=E.call (hasG.mem h) h2 (fun zq zq k=>k.f _ (lookup_memA h3)) (star_of h4) z
theorem qNw {C:Addr} (z:SL ⟨tb,gl,KOk⟩ (e1 :: es) ds) (h:hasG gl x = true:=by kd_p) (h2:okName x = true:=by kd_p) (h3:nTab.lookup x = some (C,g):=by kd_p) (h4:nk 1 e1 = true:=by kd_p)
  (h5:∀ env,(backTo p2 (starEach es env)).any (fun q=>q.1) = false:=by kd_p):SE ⟨tb,gl,KOk⟩ (.Call (.Name x p) (e1 :: es) [] p2) (dNew C g ds):=E.new (hasG.mem h) h2 (fun zq zq k=>k.n _ (lookup_memA h3)) (star_of h4) h5 z
theorem qGl {v:PV} (h3:cTab.lookup x = some v:=by kd_p) (h:hasG gl x = true:=by kd_p) (h2:okName x = true:=by kd_p):SE ⟨tb,gl,KOk⟩ (.Name x p) (dConst v):=E.glob (fun zq zq k=>k.c _ (lookup_memA h3)) (hasG.mem h) h2
theorem qT (y:SE ⟨tb,gl,KOk⟩ e d) (h:nk 6 e = true:=by kd_p) {m:Nm} (hm:nm f = m:=by kd_p):SE ⟨tb,gl,KOk⟩ (.Attribute e (Str.ofString f) p) (dAttr ft0 d m):=hm ▸ E.attrS (fun zq zq k=>k.ft) (base_of h) y
theorem qB (y:SE ⟨tb,gl,KOk⟩ e d) {m:Nm} (hm:nm f = m:=by kd_p):SA ⟨tb,gl,KOk⟩ (.Attribute e (Str.ofString f) p) (aAttr ft0 d m):=hm ▸ A.attrS (fun zq zq k=>k.ft) y
theorem qR (y:SA cx t a) (z:SAs cx ts Ar) (h:nk 1 t = true:=by kd_p):SAs cx (t :: ts) (aCons a Ar):=As.cons (asg_of h) y z
theorem qRc (y:SAc N cx t a) (z:SAcs N cx ts Ar) (h:nk 1 t = true:=by kd_p):SAcs N cx (t :: ts) (aCons a Ar):=Acs.cons (asg_of h) y z
theorem qX (y:SE cx e d) (h:slotOf cx.tb x = some (k,i):=by kd_p) (h2:(k == .free) = false:=by kd_p) (h3:nk 2 e = true:=by kd_p):SX cx (.Assign [.Name x p] e p2) (dLet i d):=X.let (slotOf.mem h) h2 (swp_of h3) y
theorem qXO (y:SO cx e do') (h:slotOf cx.tb x = some (k,i):=by kd_p) (h2:(k == .free) = false:=by kd_p) (h3:nk 2 e = true:=by kd_p):SX cx (.Assign [.Name x p] e p2) (dLetO i do'):=X.letO (slotOf.mem h) h2 (swp_of h3) y
theorem qG (y:SE cx e d) (z:SA cx t a) (h:nk 2 e = true:=by kd_p) (h2:∀ env,swappedStores [t] e env = pure none:=by kd_p) (h3:nk 1 t = true:=by kd_p):SX cx (.Assign [t] e p) (dAssign d a):=X.assign (swS_of h) h2 (asg_of h3) y z
theorem qGc (y:SE cx e d) (z:SA cx t a) (h:∀ env,swapsWithSole [t] e p.line env = pure false:=by kd_p) (h2:∀ env,swappedStores [t] e env = pure none:=by kd_p) (h3:nk 1 t = true:=by kd_p):SX cx (.Assign [t] e p) (dAssign d a):=X.assign h h2 (asg_of h3) y z
theorem qEEq (y:SE cx l dl) (z:SE cx r dr) (h:behindInMarks .Eq r = false:=by kd_p):SE cx (.Compare l [.Eq] [r] p) (dBin fEq dl dr):=E.cEq h y z
theorem qBEq (y:SE cx l dl) (z:SE cx r dr) (h:behindInMarks .Eq r = false:=by kd_p):SB cx (.Compare l [.Eq] [r] p) (dB (dBin fEq dl dr)):=B.cEq h y z
theorem qENe (y:SE cx l dl) (z:SE cx r dr) (h:behindInMarks .NotEq r = false:=by kd_p):SE cx (.Compare l [.NotEq] [r] p) (dBin fNe dl dr):=E.cNe h y z
theorem qBNe (y:SE cx l dl) (z:SE cx r dr) (h:behindInMarks .NotEq r = false:=by kd_p):SB cx (.Compare l [.NotEq] [r] p) (dB (dBin fNe dl dr)):=B.cNe h y z
theorem qELt (y:SE cx l dl) (z:SE cx r dr) (h:behindInMarks .Lt r = false:=by kd_p):SE cx (.Compare l [.Lt] [r] p) (dBin fLt dl dr):=E.cLt h y z
theorem qBLt (y:SE cx l dl) (z:SE cx r dr) (h:behindInMarks .Lt r = false:=by kd_p):SB cx (.Compare l [.Lt] [r] p) (dB (dBin fLt dl dr)):=B.cLt h y z
theorem qBLe (y:SE cx l dl) (z:SE cx r dr) (h:behindInMarks .LtE r = false:=by kd_p):SB cx (.Compare l [.LtE] [r] p) (dB (dBin fLe dl dr)):=B.cLe h y z
theorem qEGt (y:SE cx l dl) (z:SE cx r dr) (h:behindInMarks .Gt r = false:=by kd_p):SE cx (.Compare l [.Gt] [r] p) (dBin fGt dl dr):=E.cGt h y z
theorem qBGt (y:SE cx l dl) (z:SE cx r dr) (h:behindInMarks .Gt r = false:=by kd_p):SB cx (.Compare l [.Gt] [r] p) (dB (dBin fGt dl dr)):=B.cGt h y z
theorem qBGe (y:SE cx l dl) (z:SE cx r dr) (h:behindInMarks .GtE r = false:=by kd_p):SB cx (.Compare l [.GtE] [r] p) (dB (dBin fGe dl dr)):=B.cGe h y z
theorem qEIn (y:SE cx l dl) (z:SH cx r dh) (h:behindInMarks .In r = false:=by kd_p):SE cx (.Compare l [.In] [r] p) (dBinH fIn dl dh):=E.cIn h y z
theorem qBIn (y:SE cx l dl) (z:SH cx r dh) (h:behindInMarks .In r = false:=by kd_p):SB cx (.Compare l [.In] [r] p) (dB (dBinH fIn dl dh)):=B.cIn h y z
theorem qENotIn (y:SE cx l dl) (z:SH cx r dh) (h:behindInMarks .NotIn r = false:=by kd_p):SE cx (.Compare l [.NotIn] [r] p) (dBinH fNotIn dl dh):=E.cNotIn h y z
theorem qBNotIn (y:SE cx l dl) (z:SH cx r dh) (h:behindInMarks .NotIn r = false:=by kd_p):SB cx (.Compare l [.NotIn] [r] p) (dB (dBinH fNotIn dl dh)):=B.cNotIn h y z
theorem qNiT (y:SE cx l dl) (z:SE cx r dr) (h:behindInMarks .NotIn r = false:=by kd_p):SB cx (.Compare l [.NotIn] [r] p) (dB (dBin fNotInT dl dr)):=B.cNotInT h y z
theorem qInE (y:SE cx l dl) (z:SH cx r dh) (h:behindInMarks .In r = false:=by kd_p):SB cx (.Compare l [.In] [r] p) (dB (dBinH fInE dl dh)):=B.cInE h y z
theorem qV (y:SE cx e d) (h:OkT t:=by kd_p):SI cx e t (dIv d):=I.val h y
theorem qBv (y:SE cx e d) (h:∀ env whole,isTrue e env whole = (do let v <- whole; standAt e.pos; holding [v] (truthy v)):=by kd_p):SB cx e (dT d):=B.val h y
theorem qD (y:SH ⟨tb,gl,KOk⟩ e dh) (h:hasG gl x = true:=by kd_p) (h2:okName x = true:=by kd_p) (h3:gTab.lookup x = some (.builtin "len"):=by kd_p) (h4:nk 1 e = true:=by kd_p):SE ⟨tb,gl,KOk⟩ (.Call (.Name x p) [e] [] p2) (dLen dh) :=
 E.len (hasG.mem h) h2 (fun zq zq k=>k.g _ (lookup_memA h3)) (star_of h4) y
section
variable {elt it:Expr} {ifs:List Expr} {gs:List Comprehension} {sc:Scope} {cv:List Str} {m:Nat}
theorem qO (y1:SIh ⟨tb,gl,KOk⟩ it t dI) (y2:SAc N ⟨tb',gl',KOk⟩ t a) (y3:STs ⟨tb',gl',KOk⟩ ifs dt) (y4:SGs N ⟨tb',gl',KOk⟩ gs dg) (y5:SE ⟨tb',gl',KOk⟩ elt d) (h:compOk ⟨tb,gl,KOk⟩ N cv sc tb' gl' = true:=by kd_p) (h2:∀ env x,foldedSetIterable it env x = pure x:=by kd_p) (hm:cv.length = m:=by kd_p) :
  SO ⟨tb,gl,KOk⟩ (.ListComp elt (⟨t,it,ifs,0⟩ :: gs) sc p) (dComp N m d dI a dt dg):=by subst hm; exact O.comp h h2 y1 y2 y3 y4 y5
theorem qXC (y1:SIh ⟨tb,gl,KOk⟩ it t dI) (y2:SAc N ⟨tb',gl',KOk⟩ t a) (y3:STs ⟨tb',gl',KOk⟩ ifs dt) (y4:SGs N ⟨tb',gl',KOk⟩ gs dg) (y5:SE ⟨tb',gl',KOk⟩ elt d) (hm:slotOf tb x = some (k,i):=by kd_p) (hk:(k == .free) = false:=by kd_p) (h:compOk ⟨tb,gl,KOk⟩ N cv sc tb' gl' = true:=by kd_p) (h2:∀ env x,foldedSetIterable it env x = pure x:=by kd_p) (hcv:cv.length = m:=by kd_p) :
  SX ⟨tb,gl,KOk⟩ (.Assign [.Name x p3] (.ListComp elt (⟨t,it,ifs,0⟩ :: gs) sc p) p2) (dLetComp i N m d dI a dt dg):=by subst hcv; exact X.letComp (slotOf.mem hm) hk h h2 y1 y2 y3 y4 y5
theorem qGs (y1:SI cx it t dI) (y2:SAc N cx t a) (y3:STs cx ifs dt) (y4:SGs N cx gs dg) (h:∀ env x,foldedSetIterable it env x = pure x:=by kd_p):SGs N cx (⟨t,it,ifs,0⟩ :: gs) ((dI,a,dt) :: dg):=.cons _ _ _ _ (.mk _ _ _ _ _ _ h y1 y2 y3) y4
end
theorem qF (y:SI cx e t dI) (z:SA cx t a) (b:SS cx ss db) (h:∀ env x,foldedSetIterable e env x = pure x:=by kd_p):SX cx (.For t e ss [] p) (dFor dI a db):=X.for h y z b
theorem qFR (y:SE cx e d) (z:SA cx t a) (b:SS cx ss db) (h:∀ env x,foldedSetIterable e env x = pure x:=by kd_p) (h2:OkT t:=by kd_p):SX cx (.For t e ss [] p) (dForR d a db):=X.forR h h2 y z b
theorem qP (z:SAs cx ts Ar) (h:∀ env,(assignEach ts env).length = k' /\ (assignEach ts env).findIdx? (fun q=>q.1) = none:=by kd_p):SA cx (.Tuple ts kk p) (aTup k' Ar):=A.tup h z
theorem qPc (z:SAcs N cx ts Ar) (h:∀ env,(assignEach ts env).length = k' /\ (assignEach ts env).findIdx? (fun q=>q.1) = none:=by kd_p):SAc N cx (.Tuple ts kk p) (aTup k' Ar):=Ac.tup h z
theorem qTu (y:SH ⟨tb,gl,KOk⟩ e dh) (h:hasG gl x = true:=by kd_p) (h2:okName x = true:=by kd_p) (h3:gTab.lookup x = some (fnV true "tuple"):=by kd_p) (h4:nk 1 e = true:=by kd_p):SE ⟨tb,gl,KOk⟩ (.Call (.Name x p) [e] [] p2) (dH1 fTup dh):=call_H p_tuple (hasG.mem h) h2 (fun zq zq k=>k.g _ (lookup_memA h3)) (star_of h4) y
theorem qDT (y:SH ⟨tb,gl,KOk⟩ e dh) (h:hasG gl x = true:=by kd_p) (h2:okName x = true:=by kd_p) (h3:gTab.lookup x = some (fnV true "dict"):=by kd_p) (h4:nk 1 e = true:=by kd_p):SE ⟨tb,gl,KOk⟩ (.Call (.Name x p) [e] [] p2) (dH1 fDictLT dh):=call_H p_dictLT (hasG.mem h) h2 (fun zq zq k=>k.g _ (lookup_memA h3)) (star_of h4) y
theorem qAll (y:SH ⟨tb,gl,KOk⟩ e dh) (h:hasG gl x = true:=by kd_p) (h2:okName x = true:=by kd_p) (h3:gTab.lookup x = some (fnV false "all"):=by kd_p) (h4:nk 1 e = true:=by kd_p):SE ⟨tb,gl,KOk⟩ (.Call (.Name x p) [e] [] p2) (dH1 fAll dh):=call_H p_all (hasG.mem h) h2 (fun zq zq k=>k.g _ (lookup_memA h3)) (star_of h4) y
theorem qAny (y:SH ⟨tb,gl,KOk⟩ e dh) (h:hasG gl x = true:=by kd_p) (h2:okName x = true:=by kd_p) (h3:gTab.lookup x = some (fnV false "any"):=by kd_p) (h4:nk 1 e = true:=by kd_p):SE ⟨tb,gl,KOk⟩ (.Call (.Name x p) [e] [] p2) (dH1 fAny dh):=call_H p_any (hasG.mem h) h2 (fun zq zq k=>k.g _ (lookup_memA h3)) (star_of h4) y
theorem qLi (y:SH ⟨tb,gl,KOk⟩ e dh) (h:hasG gl x = true:=by kd_p) (h2:okName x = true:=by kd_p) (h3:gTab.lookup x = some (fnV true "list"):=by kd_p) (h4:nk 1 e = true:=by kd_p):SO ⟨tb,gl,KOk⟩ (.Call (.Name x p) [e] [] p2) (dH1 fList dh):=call_H p_list (hasG.mem h) h2 (fun zq zq k=>k.g _ (lookup_memA h3)) (star_of h4) y
theorem qDi (y:SH ⟨tb,gl,KOk⟩ e dh) (h:hasG gl x = true:=by kd_p) (h2:okName x = true:=by kd_p) (h3:gTab.lookup x = some (fnV true "dict"):=by kd_p) (h4:nk 1 e = true:=by kd_p):SO ⟨tb,gl,KOk⟩ (.Call (.Name x p) [e] [] p2) (dH1 fDict dh):=call_H p_dict (hasG.mem h) h2 (fun zq zq k=>k.g _ (lookup_memA h3)) (star_of h4) y
theorem qDS (y:SH ⟨tb,gl,KOk⟩ e dh) (h:hasG gl x = true:=by kd_p) (h2:okName x = true:=by kd_p) (h3:gTab.lookup x = some (fnV true "dict"):=by kd_p) (h4:nk 1 e = true:=by kd_p):SO ⟨tb,gl,KOk⟩ (.Call (.Name x p) [e] [] p2) (dH1 fDictLS dh):=call_H p_dictLS (hasG.mem h) h2 (fun zq zq k=>k.g _ (lookup_memA h3)) (star_of h4) y
theorem qSo (y:SH ⟨tb,gl,KOk⟩ e dh) (h:hasG gl x = true:=by kd_p) (h2:okName x = true:=by kd_p) (h3:gTab.lookup x = some (fnV false "sorted"):=by kd_p) (h4:nk 1 e = true:=by kd_p):SO ⟨tb,gl,KOk⟩ (.Call (.Name x p) [e] [] p2) (dH1 fSortT dh):=call_H p_sortT (hasG.mem h) h2 (fun zq zq k=>k.g _ (lookup_memA h3)) (star_of h4) y
theorem qSs (z:SH ⟨tb,gl,KOk⟩ e dh) (h:hasG gl x = true:=by kd_p) (h2:okName x = true:=by kd_p) (h3:gTab.lookup x = some (.builtin "sorted"):=by kd_p) (g1:hasG gl y = true:=by kd_p) (g2:okName y = true:=by kd_p) (g3:gTab.lookup y = some (fnV true "set"):=by kd_p)
  (he:nk 1 e = true:=by kd_p):SO ⟨tb,gl,KOk⟩ (.Call (.Name x p3) [.Call (.Name y p) [e] [] p2] [] p4) (dH1 fSortS dh) :=
 O.sortedS (hasG.mem h) h2 (fun zq zq k=>k.g _ (lookup_memA h3)) (hasG.mem g1) g2 (fun zq zq k=>k.g _ (lookup_memA g3)) (fun zq=>rfl) (star_of he) z
theorem qMin (y:SE ⟨tb,gl,KOk⟩ e1 d1) (z:SE ⟨tb,gl,KOk⟩ e2 d2) (h:hasG gl x = true:=by kd_p) (h2:okName x = true:=by kd_p) (h3:gTab.lookup x = some (.builtin "min"):=by kd_p) (h4:nk 1 e1 = true:=by kd_p) (h5:nk 1 e2 = true:=by kd_p) :
  SE ⟨tb,gl,KOk⟩ (.Call (.Name x p) [e1,e2] [] p2) (dBin fMin d1 d2):=call_b2 p_min (hasG.mem h) h2 (fun zq zq k=>k.g _ (lookup_memA h3)) (fun env=>⟨star_of h4 env,star_of h5 env⟩) y z
theorem qMax (y:SE ⟨tb,gl,KOk⟩ e1 d1) (z:SE ⟨tb,gl,KOk⟩ e2 d2) (h:hasG gl x = true:=by kd_p) (h2:okName x = true:=by kd_p) (h3:gTab.lookup x = some (.builtin "max"):=by kd_p) (h4:nk 1 e1 = true:=by kd_p) (h5:nk 1 e2 = true:=by kd_p) :
  SE ⟨tb,gl,KOk⟩ (.Call (.Name x p) [e1,e2] [] p2) (dBin fMax d1 d2):=call_b2 p_max (hasG.mem h) h2 (fun zq zq k=>k.g _ (lookup_memA h3)) (fun env=>⟨star_of h4 env,star_of h5 env⟩) y z
theorem qZ (y:SE ⟨tb,gl,KOk⟩ e1 d1) (z:SE ⟨tb,gl,KOk⟩ e2 d2) (h:hasG gl x = true:=by kd_p) (h2:okName x = true:=by kd_p) (h3:gTab.lookup x = some (.type "zip"):=by kd_p) (h4:nk 1 e1 = true:=by kd_p) (h5:nk 1 e2 = true:=by kd_p) :
  SI ⟨tb,gl,KOk⟩ (.Call (.Name x p) [e1,e2] [] p2) (.Tuple elts kk p3) (dZip d1 d2):=I.zip (hasG.mem h) h2 (fun zq zq k=>k.g _ (lookup_memA h3)) (fun env=>⟨star_of h4 env,star_of h5 env⟩) y z
theorem qEn (y:SE ⟨tb,gl,KOk⟩ e d) (h:hasG gl x = true:=by kd_p) (h2:okName x = true:=by kd_p) (h3:gTab.lookup x = some (fnV true "enumerate"):=by kd_p) (h4:nk 1 e = true:=by kd_p) :
  SI ⟨tb,gl,KOk⟩ (.Call (.Name x p) [e] [] p2) (.Tuple elts kk p3) (dEnum d):=I.enum (hasG.mem h) h2 (fun zq zq k=>k.g _ (lookup_memA h3)) (star_of h4) y
theorem qRa (y:SE ⟨tb,gl,KOk⟩ e d) (h0:OkT t:=by kd_p) (h:hasG gl x = true:=by kd_p) (h2:okName x = true:=by kd_p) (h3:gTab.lookup x = some (fnV true "range"):=by kd_p) (h4:nk 1 e = true:=by kd_p) :
  SI ⟨tb,gl,KOk⟩ (.Call (.Name x p) [e] [] p2) t (dRange d):=I.range h0 (hasG.mem h) h2 (fun zq zq k=>k.g _ (lookup_memA h3)) (star_of h4) y
theorem qIt (y:SE cx e d) (h:ck e [] p p2 = true:=by kd_p):SI cx (.Call (.Attribute e (Str.ofString "items") p) [] [] p2) (.Tuple elts kk p3) (dItems d):=I.items (call_of h) y
theorem qOw (h:OkT t:=by kd_p) (h1:slotOf cx.tb x = some (k,i):=by kd_p) (h2:okName x = true:=by kd_p):SIh cx (.Name x p) t (dIown i):=I.own h (slotOf.mem h1) h2
theorem qGo (y:SE cx e d) (h1:slotOf cx.tb x = some (k,i):=by kd_p) (h2:okName x = true:=by kd_p):SA cx (.Subscript (.Name x p) e p2) (aGone i d):=A.gone (slotOf.mem h1) h2 y
theorem qXe (y:SE cx e d) (h:nk 2 e = true:=by kd_p):SX cx (.Expr e p) (dDo d):=X.expr (swp_of h) y
theorem qSw {names:List Str} {idxs:List Nat} (y:SE cx (.Tuple vs kk2 p2) d) (hw:swapOf cx.tb ts vs = some (some names):=by kd_p) (hi:names.map (tbSlot cx.tb) = idxs:=by kd_p) :
  SX cx (.Assign [.Tuple ts kk p] (.Tuple vs kk2 p2) p3) (dTupSw idxs d):=X.tupSw hw hi (fun zq=>rfl) y
theorem qTi (y:SE cx (.Tuple vs kk2 p2) d) (z:SA cx (.Tuple ts kk p) a) (hw:swapOf cx.tb ts vs = some none:=by kd_p) :
  SX cx (.Assign [.Tuple ts kk p] (.Tuple vs kk2 p2) p3) (dAssign d a):=X.tupIn hw (fun zq=>rfl) (fun zq=>rfl) y z
theorem q2o {n1 n2:Pos} (y:SE cx e1 d1) (z:SO cx e2 do') (hm1:slotOf cx.tb x1 = some (k1,i):=by kd_p) (hm2:slotOf cx.tb x2 = some (k2,j):=by kd_p) (hk1:(k1 == .free) = false:=by kd_p) (hk2:(k2 == .free) = false:=by kd_p) (hw:swapOf cx.tb [.Name x1 n1,.Name x2 n2] [e1,e2] = some none:=by kd_p)
  (h4:nk 1 e1 = true:=by kd_p) (h5:nk 1 e2 = true:=by kd_p) :
  SX cx (.Assign [.Tuple [.Name x1 n1,.Name x2 n2] kk p] (.Tuple [e1,e2] kk2 p2) p3) (dTup2o i j d1 do'):=X.tup2o (slotOf.mem hm1) (slotOf.mem hm2) hk1 hk2 hw (fun zq=>rfl) (fun env=>⟨star_of h4 env,star_of h5 env⟩) y z
theorem qPk {ks:List (Option Expr)} {dp:DP} (x:SE cx e1 d1) (y:SE cx e2 d2) (z:SP cx ks vs dp):SP cx (some e1 :: ks) (e2 :: vs) (dpCons d1 d2 dp):=P.cons (fun zq=>rfl) (fun zq=>rfl) x y z
theorem qOd {ks:List (Option Expr)} {dp:DP} (x:SP cx ks vs dp) (h0:∀ env,kvTrees p env ks vs ≠ [] /\ (kvTrees p env ks vs).length <= 15:=by kd_p):SO cx (.Dict ks vs p) (dDisp dp):=O.disp h0 x
theorem qW {id:String} {m:Str} {f:FL} (slot:PySem.Slot "list" m id) (hty:typeOf (.builtin id) = pure (.type "method_descriptor")) (hf:Lm id f) (x:SH cx e dh) (y:SL cx [e1] ds) (he:ck e [e1] p p2 = true:=by kd_p) (hs:nk 1 e1 = true:=by kd_p) :
  SX cx (.Expr (.Call (.Attribute e m p) [e1] [] p2) p3) (dLm f dh ds):=X.lm slot hty hf (fun zq=>rfl) (call_of he) (star_of hs) x y
theorem qGe (x:SH cx e dh) (y:SL cx [e1,e2] ds) (he:ck e [e1,e2] p p2 = true:=by kd_p) (hs:nk 1 e1 = true:=by kd_p) (hp:nk 1 e2 = true:=by kd_p):SE cx (.Call (.Attribute e (Str.ofString "get") p) [e1,e2] [] p2) (dGet dh ds):=E.get (call_of he) (star_of hs) (back_one hp) x y
theorem qSd (x:SH cx e dh) (y:SL cx [e1,e2] ds) (he:ck e [e1,e2] p p2 = true:=by kd_p) (hs:nk 1 e1 = true:=by kd_p) (hp:nk 1 e2 = true:=by kd_p):SE cx (.Call (.Attribute e (Str.ofString "setdefault") p) [e1,e2] [] p2) (dSetdef dh ds):=E.setdef (call_of he) (star_of hs) (back_one hp) x y
theorem qUp (x:SH cx e dh) (y:SL cx [e1] ds) (he:ck e [e1] p p2 = true:=by kd_p) (hs:nk 1 e1 = true:=by kd_p):SX cx (.Expr (.Call (.Attribute e (Str.ofString "update") p) [e1] [] p2) p3) (dUpd dh ds):=X.update (fun zq=>rfl) (call_of he) (star_of hs) x y
theorem qSl {lo hi:Option Expr} {dl dh:DPt} (x:SE cx e d) (y:SPt cx lo dl) (z:SPt cx hi dh):SE cx (.Subscript e (.Slice lo hi Option.none p) p2) (dSlice d dl dh):=E.slice (fun zq zq=>⟨_,rfl⟩) x y z
theorem qJ (x:SE cx e d) (y:SJ cx vs dj):SJ cx (.FormattedValue e (-1) none p :: vs) (dJval d dj):=J.val (fun zq=>rfl) x y
theorem qJt (y:SJ cx vs dj) {m:Nm} (hm:nm f = m:=by kd_p):SJ cx (.Constant (.str (Str.ofString f)) kk p :: vs) (dJtext m dj):=hm ▸ J.text (fun zq=>rfl) y
theorem qFs (x:SJ cx (e1 :: e2 :: vs) dj):SE cx (.JoinedStr (e1 :: e2 :: vs) p) (dJoin dj):=E.fstr (fun zq=>rfl) x
end
noncomputable def W_all_of:FnSpec:=by
 apply FnSpec.mk 116 1 [("formulas",.local)] (bodyOf (stmtAt 16)) ["len","tuple"]
 case ok =>
 dsimp only [tbOf,Nat.reduceAdd]
 with_unfolding_all refine' S.cons ?g0 ?g1
 case g0=>with_reducible exact X.ite (qBEq (qD qH) E.int) (S.cons (X.ret (qS qH E.int)) S.nil) S.nil
 case g1=>with_reducible exact S.cons (X.ret (E.ite (qBGt (qD qH) E.int) (E.tup (qL (qs k_and) (qL (qTu qH) L.nil))) (E.tup (qL (qs k_true) L.nil)))) S.nil
noncomputable def W_united:FnSpec:=by
 apply FnSpec.mk 123 1 [("exprs",.local),("found",.local),("expr",.local)] (bodyOf (stmtAt 17)) []
 case ok =>
 dsimp only [tbOf,Nat.reduceAdd]
 with_unfolding_all refine' S.cons ?g0 ?g1
 case g0=>with_reducible exact qX (qS qH E.int)
 case g1=>with_reducible exact S.cons (qF (qV (qSl qN (Pt.some E.int) Pt.none)) qA (S.cons (qX (E.tup (qL (qs k_union) (qL qN (qL qN L.nil))))) S.nil)) (S.cons (X.ret qN) S.nil)
noncomputable def W_names_init:FnSpec:=by
 apply FnSpec.mk 137 5 [("self",.local),("signatures",.local),("kinds",.local),("items",.local),("numbers",.local),("item",.local)] (bodyOf (stmtIn 18 0)) []
 case ok =>
 dsimp only [tbOf,Nat.reduceAdd]
 with_unfolding_all refine' S.cons ?g0 ?g1
 case g0=>with_reducible exact qG qN (qB qN (m:=k_signatures))
 case g1=>with_reducible exact S.cons (qG qN (qB qN (m:=k_kinds))) (S.cons (qG qN (qB qN (m:=k_items))) (S.cons (qG qN (qB qN (m:=k_numbers))) (S.cons (qG (E.reg O.disp0) (qB qN (m:=k_calls))) (S.cons (qF (qV qN) qA (S.cons (X.ite (qBIn (qS qH E.int) (SE.held (E.tup (qL (qs k_pred) (qL (qs k_fun) L.nil))))) (S.cons (qG qN (A.sub (SE.held (qT qN (m:=k_calls))) (qS qH E.int))) S.nil) S.nil) S.nil)) (S.cons (qG E.int (qB qN (m:=k_count))) S.nil)))))
noncomputable def W_fresh:FnSpec:=by
 apply FnSpec.mk 144 2 [("self",.local),("name",.local)] (bodyOf (stmtIn 18 1)) []
 case ok =>
 dsimp only [tbOf,Nat.reduceAdd]
 with_unfolding_all refine' S.cons ?g0 ?g1
 case g0=>with_reducible exact qG (E.oAdd (qT qN (m:=k_count)) E.int) (qB qN (m:=k_count))
 case g1=>with_reducible exact S.cons (X.ret (qFs (qJ qN (qJt (qJ (qT qN (m:=k_count)) J.nil) (m:=kx_27))))) S.nil
noncomputable def W_rel:FnSpec:=by
 apply FnSpec.mk 151 2 [("self",.local),("name",.local)] (bodyOf (stmtIn 18 2)) []
 case ok =>
 dsimp only [tbOf,Nat.reduceAdd]
 with_unfolding_all refine' S.cons ?g0 ?g1
 case g0=>with_reducible exact X.ret (E.tup (qL (qs k_rel) (qL (qS (SE.held (qT qN (m:=k_numbers))) qN) L.nil)))
 case g1=>with_reducible exact S.nil
noncomputable def W_owners:FnSpec:=by
 apply FnSpec.mk 156 2 [("self",.local),("name",.cell)] (bodyOf (stmtIn 18 3)) []
 case ok =>
 dsimp only [tbOf,Nat.reduceAdd]
 with_unfolding_all refine' S.cons ?g0 ?g1
 case g0=>with_reducible exact X.ret (E.fr (qO (N:=2) (cv:=[".0","field"]) (m:=2) (tb':=[(".0",.local,2),("field",.local,3),("name",.free,1)]) (gl':=[]) (SI.toH (qV (qM0 (qT qN (m:=k_signatures)) (m:=k_fields)))) qC (T.one (qBEq (qS qH E.int) qN)) SGs.nil (qS qH E.int)))
 case g1=>with_reducible exact S.nil
noncomputable def W_places:FnSpec:=by
 apply FnSpec.mk 166 2 [("self",.local),("name",.local),("last",.local),("orders",.local)] (bodyOf (stmtIn 18 5)) ["len","NUMBER_CALLS","ORDER_CALLS"]
 case ok =>
 dsimp only [tbOf,Nat.reduceAdd]
 with_unfolding_all refine' S.cons ?g0 ?g1
 case g0=>with_reducible exact X.ite (B.or (qBv (qM (qT qN (m:=k_signatures)) (qL qN L.nil) (m:=k_has))) (B.or (qBNe (qM qN (qL qN L.nil) (m:=k_owners)) (E.fr (O.lst L.nil))) B.orN)) (S.cons (X.ret (E.neg E.int)) S.nil) S.nil
 case g1=>with_reducible exact S.cons (X.ite (qBIn qN (SE.held (qT qN (m:=k_calls)))) (S.cons (X.ret (qD (SE.held (E.fr (qO (N:=4) (cv:=[".0","decl","one"]) (m:=3) (tb':=[(".0",.local,4),("decl",.local,5),("one",.local,6)]) (gl':=[]) (SI.toH (qV (qS (SE.held (qS (SE.held (qT qN (m:=k_calls))) qN)) E.int))) qC T.nil (qGs (qV (qS qH E.int)) qC T.nil SGs.nil) qN))))) S.nil) S.nil) (S.cons (X.ite (qBIn qN (SE.held E.no)) (S.cons (X.ret E.int) S.nil) S.nil) (S.cons (qG (qM qN (qL qN L.nil) (m:=k_orders_of)) (qP (k':=2) (qR qA (qR qA As.nil)))) (S.cons (X.ret (E.ite (qBNe qN (E.fr (O.lst L.nil))) (qGe (SE.held E.no) (qL qN (qL (E.neg E.int) L.nil))) (E.neg E.int))) S.nil)))
noncomputable def W_named:FnSpec:=by
 apply FnSpec.mk 171 3 [("self",.cell),("name",.cell),("spot",.local),("owners",.local),("last",.cell),("orders",.local)] (bodyOf (stmtIn 18 6)) ["united","ORDER_NAMES","KindFault"]
 case ok =>
 dsimp only [tbOf,Nat.reduceAdd]
 with_unfolding_all refine' S.cons ?g0 ?g1
 case g0=>with_reducible exact X.ite (qBv (qM (qT qN (m:=k_signatures)) (qL qN L.nil) (m:=k_has))) (S.cons (X.ret (qM qN (qL qN L.nil) (m:=k_rel))) S.nil) S.nil
 case g1=>with_reducible exact S.cons (qX (qM qN (qL qN L.nil) (m:=k_owners))) (S.cons (X.ite (qBNe qN (E.fr (O.lst L.nil))) (S.cons (X.ret (qU (qL (E.fr (qO (N:=6) (cv:=[".0","sig"]) (m:=2) (tb':=[(".0",.local,6),("sig",.local,7),("name",.free,1),("self",.free,0)]) (gl':=[]) (SI.toH (qV qN)) qC T.nil SGs.nil (qM qN (qL (qFs (qJ qN (qJt (qJ qN J.nil) (m:=kx_2e)))) L.nil) (m:=k_rel)))) L.nil))) S.nil) S.nil) (S.cons (qG (qM qN (qL qN L.nil) (m:=k_orders_of)) (qP (k':=2) (qR qA (qR qA As.nil)))) (S.cons (X.ite (B.or (qBNotIn qN (SE.held E.no)) (B.or (qBEq qN (E.fr (O.lst L.nil))) B.orN)) (S.cons X.no S.nil) S.nil) (S.cons (X.ret (qU (qL (E.fr (qO (N:=6) (cv:=[".0","alias","sig"]) (m:=3) (tb':=[(".0",.local,6),("alias",.local,7),("sig",.local,8),("last",.free,4),("self",.free,0)]) (gl':=[]) (SI.toH (qV qN)) (qPc (k':=2) (qRc qC (qRc qC Acs.nil))) T.nil SGs.nil (qM qN (qL qN (qL qN (qL qN L.nil))) (m:=k_order_expr)))) L.nil))) S.nil))))
noncomputable def W_arity:FnSpec:=by
 apply FnSpec.mk 197 2 [("self",.local),("expr",.local),("head",.local)] (bodyOf (stmtIn 18 10)) ["len"]
 case ok =>
 dsimp only [tbOf,Nat.reduceAdd]
 with_unfolding_all refine' S.cons ?g0 ?g1
 case g0=>with_reducible exact qX (qS qH E.int)
 case g1=>with_reducible exact S.cons (X.ite (qBEq qN (qs k_rel)) (S.cons (X.ret (qM qN (qL (qS qH E.int) L.nil) (m:=k_arity_of_relation))) S.nil) S.nil) (S.cons (X.ite (qBIn qN (SE.held (E.tup (qL (qs k_tuples) (qL (qs k_none) L.nil))))) (S.cons (X.ret (qS qH E.int)) S.nil) S.nil) (S.cons (X.ite (qBIn qN (SE.held (E.tup (qL (qs k_var) (qL (qs k_univ) L.nil))))) (S.cons (X.ret E.int) S.nil) S.nil) (S.cons (X.ite (qBIn qN (SE.held (E.tup (qL (qs k_iden) (qL (qs k_turn) (qL (qs k_closure) (qL (qs k_star) L.nil))))))) (S.cons (X.ret E.int) S.nil) S.nil) (S.cons (X.ite (qBIn qN (SE.held (E.tup (qL (qs k_join) (qL (qs k_product) L.nil))))) (S.cons (X.ret (E.oSub (E.oAdd (qM qN (qL (qS qH E.int) L.nil) (m:=k_arity)) (qM qN (qL (qS qH E.int) L.nil) (m:=k_arity))) (E.ite (qBEq qN (qs k_join)) E.int E.int))) S.nil) S.nil) (S.cons (X.ite (qBEq qN (qs k_comp)) (S.cons (X.ret (qD (SE.held (qS qH E.int)))) S.nil) S.nil) (S.cons (X.ret (qM qN (qL (E.ite (qBIn qN (SE.held (E.tup (qL (qs k_ahead) (qL (qs k_either) L.nil))))) (qS qH E.int) (qS qH E.int)) L.nil) (m:=k_arity))) S.nil))))))
noncomputable def W_arity_rel:FnSpec:=by
 apply FnSpec.mk 202 2 [("self",.cell),("r",.local),("field",.local)] (bodyOf (stmtIn 18 11)) []
 case ok =>
 dsimp only [tbOf,Nat.reduceAdd]
 with_unfolding_all refine' S.cons ?g0 ?g1
 case g0=>with_reducible exact qF (qV (qM0 (qT qN (m:=k_signatures)) (m:=k_fields))) qA (S.cons (X.ite (qBEq (qS (SE.held (qT qN (m:=k_numbers))) (qFs (qJ (qS qH E.int) (qJt (qJ (qS qH E.int) J.nil) (m:=kx_2e))))) qN) (S.cons (X.ret (qS (SE.held (qM (qT qN (m:=k_kinds)) (qL (qS qH E.int) (qL (qS qH E.int) L.nil)) (m:=k_field_kind))) E.int)) S.nil) S.nil) S.nil)
 case g1=>with_reducible exact S.cons (X.ret (E.ite (qBIn qN (SE.held (E.fr (qO (N:=3) (cv:=[".0","alias","sig"]) (m:=3) (tb':=[(".0",.local,3),("alias",.local,4),("sig",.local,5),("self",.free,0)]) (gl':=[]) (SI.toH (qV (qM0 (qT qN (m:=k_signatures)) (m:=k_orders)))) (qPc (k':=2) (qRc qC (qRc qC Acs.nil))) T.nil SGs.nil (qS (SE.held (qT qN (m:=k_numbers))) (E.oAdd qN (qs kx_2f6e657874))))))) E.int E.int)) S.nil
noncomputable def W_spend:FnSpec:=by
 apply FnSpec.mk 232 3 [("self",.local),("nodes",.local),("levels",.local)] (bodyOf (stmtIn 19 1)) ["max","MOST_NODES","LimitFault","MOST_LEVELS"]
 case ok =>
 dsimp only [tbOf,Nat.reduceAdd]
 with_unfolding_all refine' S.cons ?g0 ?g1
 case g0=>with_reducible exact qG (E.oAdd (qT qN (m:=k_spent)) qN) (qB qN (m:=k_spent))
 case g1=>with_reducible exact S.cons (qG (qMax (qT qN (m:=k_peak)) (E.oAdd (qT qN (m:=k_height)) qN)) (qB qN (m:=k_peak))) (S.cons (X.ite (qBGt (qT qN (m:=k_spent)) qGl) (S.cons X.no S.nil) S.nil) (S.cons (X.ite (qBGt (E.oAdd (qT qN (m:=k_height)) qN) qGl) (S.cons X.no S.nil) S.nil) S.nil))
noncomputable def W_measured:FnSpec:=by
 apply FnSpec.mk 239 3 [("self",.local),("node",.local),("env",.local),("before",.local),("peak",.local),("found",.local),("cost",.local)] (bodyOf (stmtIn 19 2)) ["max"]
 case ok =>
 dsimp only [tbOf,Nat.reduceAdd]
 with_unfolding_all refine' S.cons ?g0 ?g1
 case g0=>with_reducible exact qTi (E.tup (qL (qT qN (m:=k_spent)) (qL (qT qN (m:=k_peak)) (qL (qT qN (m:=k_height)) L.nil)))) (qP (k':=3) (qR qA (qR qA (qR (qB qN (m:=k_peak)) As.nil))))
 case g1=>with_reducible exact S.cons (qX (qM qN (qL qN (qL qN L.nil)) (m:=k_value))) (S.cons (qX (E.tup (qL (E.oSub (qT qN (m:=k_spent)) qN) (qL (E.oSub (qT qN (m:=k_peak)) (qT qN (m:=k_height))) L.nil)))) (S.cons (qG (qMax qN (qT qN (m:=k_peak))) (qB qN (m:=k_peak))) (S.cons (X.ret (E.tup (qL qN (qL qN L.nil)))) S.nil)))
noncomputable def W_used:FnSpec:=by
 apply FnSpec.mk 246 3 [("self",.local),("name",.local),("env",.local),("nodes",.local),("levels",.local)] (bodyOf (stmtIn 19 3)) []
 case ok =>
 dsimp only [tbOf,Nat.reduceAdd]
 with_unfolding_all refine' S.cons ?g0 ?g1
 case g0=>with_reducible exact qG (qGe (SE.held (qGe qH (qL (qs k_0) (qL (E.fr O.disp0) L.nil)))) (qL qN (qL (E.tup (qL E.int (qL E.int L.nil))) L.nil))) (qP (k':=2) (qR qA (qR qA As.nil)))
 case g1=>with_reducible exact S.cons (qXe (qM qN (qL qN (qL qN L.nil)) (m:=k_spend))) (S.cons (X.ret (qS qH qN)) S.nil)
noncomputable def W_form:FnSpec:=by
 apply FnSpec.mk 253 3 [("self",.local),("node",.local),("env",.local),("op",.local),("inner",.local),("head",.local),("name",.local),("args",.local)] (bodyOf (stmtIn 19 4)) ["TURNED","SET_SIGNS","dict","NUMBER_HEADS","TRUTH_HEADS"]
 case ok =>
 dsimp only [tbOf,Nat.reduceAdd]
 with_unfolding_all refine' S.cons ?g0 ?g1
 case g0=>with_reducible exact qX (qS qH E.int)
 case g1=>with_reducible exact S.cons (X.ite (qBIn qN (SE.held (E.tup (qL (qs k_num) (qL (qs k_quant) L.nil))))) (S.cons (X.ret (E.ite (B.or (qBEq qN (qs k_num)) (B.or (qBEq (qS qH E.int) (qs k_sum)) B.orN)) (qs k_number) (qs k_truth))) S.nil) S.nil) (S.cons (X.ite (qBEq qN (qs k_un)) (S.cons (X.ret (E.ite (qBIn (qS qH E.int) (SE.held (E.tup (qL (qs kx_23) (qL (qs kx_2d) L.nil))))) (qs k_number) (E.ite (qBIn (qS qH E.int) (SE.held qGl)) (qs k_set) (qs k_truth)))) S.nil) S.nil) (S.cons (X.ite (B.or (qBEq qN (qs k_block)) (B.or (B.and (qBEq qN (qs k_bin)) (B.and (qBNotIn (qS qH E.int) (SE.held qGl)) B.andN)) B.orN)) (S.cons (X.ret (qs k_truth)) S.nil) S.nil) (S.cons (X.ite (qBEq qN (qs k_if)) (S.cons (X.ret (qM qN (qL (qS qH E.int) (qL qN L.nil)) (m:=k_form))) S.nil) S.nil) (S.cons (X.ite (qBEq qN (qs k_let)) (S.cons (qX (E.fr (qDi qH))) (S.cons (qG (qS (SE.held (E.fr (qOd (qPk (qs k_truth) (E.tup (qL (qs k_true) L.nil)) (qPk (qs k_number) (E.tup (qL (qs k_num) (qL E.int L.nil))) (qPk (qs k_set) (E.tup (qL (qs k_univ) L.nil)) P.nil)))))) (qM qN (qL (qS qH E.int) (qL qN L.nil)) (m:=k_form))) (A.sub qH (qS qH E.int))) (S.cons (X.ret (qM qN (qL (qS qH E.int) (qL qN L.nil)) (m:=k_form))) S.nil))) S.nil) (S.cons (X.ite (B.and (qBEq qN (qs k_name)) (B.and (qBIn (qS qH E.int) qH) B.andN)) (S.cons (qX (qS (SE.held (qS qH (qS qH E.int))) E.int)) (S.cons (X.ret (E.ite (qBIn qN (SE.held qGl)) (qs k_number) (E.ite (qBIn qN (SE.held qGl)) (qs k_truth) (qs k_set)))) S.nil)) S.nil) (S.cons (qG (qM qN (qL qN (qL qN L.nil)) (m:=k_call_of)) (qP (k':=2) (qR qA (qR qA As.nil)))) (S.cons (X.ret (E.ite (qBEq qN (qs k_0)) (qs k_set) (qM qN (qL qN L.nil) (m:=k_form_of_call)))) S.nil)))))))
noncomputable def W_form_of_call:FnSpec:=by
 apply FnSpec.mk 260 2 [("self",.local),("name",.local)] (bodyOf (stmtIn 19 5)) ["NUMBER_CALLS"]
 case ok =>
 dsimp only [tbOf,Nat.reduceAdd]
 with_unfolding_all refine' S.cons ?g0 ?g1
 case g0=>with_reducible exact X.ite (qBIn qN (SE.held (qT qN (m:=k_calls)))) (S.cons (X.ret (E.ite (qBEq (qS (SE.held (qS (SE.held (qT qN (m:=k_calls))) qN)) E.int) (qs k_pred)) (qs k_truth) (qs k_set))) S.nil) S.nil
 case g1=>with_reducible exact S.cons (X.ite (qBIn qN (SE.held E.no)) (S.cons (X.ret (qs k_number)) S.nil) S.nil) (S.cons (X.ret (E.ite (qBIn (qS (SE.held (qM qN (qL qN L.nil) (m:=k_orders_of))) E.int) (SE.held (E.tup (qL (qs k_lt) (qL (qs k_lte) (qL (qs k_gt) (qL (qs k_gte) L.nil))))))) (qs k_truth) (qs k_set))) S.nil)
noncomputable def W_value:FnSpec:=by
 apply FnSpec.mk 267 3 [("self",.local),("node",.local),("env",.local),("form",.local)] (bodyOf (stmtIn 19 6)) []
 case ok =>
 dsimp only [tbOf,Nat.reduceAdd]
 with_unfolding_all refine' S.cons ?g0 ?g1
 case g0=>with_reducible exact qX (qM qN (qL qN (qL qN L.nil)) (m:=k_form))
 case g1=>with_reducible exact S.cons (X.ite (qBEq qN (qs k_truth)) (S.cons (X.ret (qM qN (qL qN (qL qN L.nil)) (m:=k_truth))) S.nil) S.nil) (S.cons (X.ret (E.ite (qBEq qN (qs k_number)) (qM qN (qL qN (qL qN L.nil)) (m:=k_number)) (qM qN (qL qN (qL qN L.nil)) (m:=k_expr)))) S.nil)
noncomputable def W_begun:FnSpec:=by
 apply FnSpec.mk 281 3 [("self",.local),("node",.local),("env",.local),("name",.local),("args",.local)] (bodyOf (stmtIn 19 8)) ["len","tuple"]
 case ok =>
 dsimp only [tbOf,Nat.reduceAdd]
 with_unfolding_all refine' S.cons ?g0 ?g1
 case g0=>with_reducible exact X.ite (B.and (qBEq (qS qH E.int) (qs k_name)) (B.and (qBNotIn (qS qH E.int) qH) (B.and (qBGe (qM qN (qL (qS qH E.int) L.nil) (m:=k_places)) E.int) B.andN))) (S.cons (X.ret (E.tup (qL (qS qH E.int) (qL (E.tup L.nil) L.nil)))) S.nil) S.nil
 case g1=>with_reducible exact S.cons (X.ite (qBEq (qS qH E.int) (qs k_box)) (S.cons (qG (qM qN (qL (qS qH E.int) (qL qN L.nil)) (m:=k_begun)) (qP (k':=2) (qR qA (qR qA As.nil)))) (S.cons (X.ite (B.and (qBNe qN (qs k_0)) (B.and (qBLe (qD (SE.held (qS qH E.int))) (E.oSub (qM qN (qL qN L.nil) (m:=k_places)) (qD qH))) B.andN)) (S.cons (X.ret (E.tup (qL qN (qL (E.oAdd qN (qTu (SE.held (qS qH E.int)))) L.nil)))) S.nil) S.nil) S.nil)) S.nil) (S.cons (X.ite (B.and (qBEq (qS qH E.int) (qs k_bin)) (B.and (qBEq (qS qH E.int) (qs kx_2e)) B.andN)) (S.cons (qG (qM qN (qL (qS qH E.int) (qL qN L.nil)) (m:=k_begun)) (qP (k':=2) (qR qA (qR qA As.nil)))) (S.cons (X.ite (B.and (qBNe qN (qs k_0)) (B.and (qBLt (qD qH) (qM qN (qL qN L.nil) (m:=k_places))) B.andN)) (S.cons (X.ret (E.tup (qL qN (qL (E.oAdd (E.tup (qL (qS qH E.int) L.nil)) qN) L.nil)))) S.nil) S.nil) S.nil)) S.nil) (S.cons (X.ret (E.tup (qL (qs k_0) (qL (E.tup L.nil) L.nil)))) S.nil))
noncomputable def W_call_of:FnSpec:=by
 apply FnSpec.mk 288 3 [("self",.local),("node",.local),("env",.local),("name",.local),("args",.local)] (bodyOf (stmtIn 19 9)) ["len","KindFault"]
 case ok =>
 dsimp only [tbOf,Nat.reduceAdd]
 with_unfolding_all refine' S.cons ?g0 ?g1
 case g0=>with_reducible exact qG (qM qN (qL qN (qL qN L.nil)) (m:=k_begun)) (qP (k':=2) (qR qA (qR qA As.nil)))
 case g1=>with_reducible exact S.cons (X.ite (B.and (qBNe qN (qs k_0)) (B.and (qBLt (qD qH) (qM qN (qL qN L.nil) (m:=k_places))) B.andN)) (S.cons X.no S.nil) S.nil) (S.cons (X.ret (E.tup (qL qN (qL qN L.nil)))) S.nil)
noncomputable def W_call_env:FnSpec:=by
 apply FnSpec.mk 293 4 [("self",.local),("name",.local),("args",.local),("env",.local),("found",.local),("param",.local),("arg",.local)] (bodyOf (stmtIn 19 10)) ["zip"]
 case ok =>
 dsimp only [tbOf,Nat.reduceAdd]
 with_unfolding_all refine' S.seal3 ([false,false,false,false,true,false,false]) ?g0 ?g1 ?g2
 case g0=>with_reducible exact qXO (qOd (qPk (qs k_0) (E.reg O.disp0) P.nil))
 case g1=>with_reducible exact qF (qZ (E.fr (qO (N:=7) (cv:=[".0","decl","one"]) (m:=3) (tb':=[(".0",.local,7),("decl",.local,8),("one",.local,9)]) (gl':=[]) (SI.toH (qV (qS (SE.held (qS (SE.held (qT qN (m:=k_calls))) qN)) E.int))) qC T.nil (qGs (qV (qS qH E.int)) qC T.nil SGs.nil) qN)) qN) (qP (k':=2) (qR qA (qR qA As.nil))) (S.cons (qG (qM qN (qL qN (qL qN L.nil)) (m:=k_measured)) (qP (k':=2) (qR (A.sub qH qN) (qR (A.sub (SE.held (qS qH (qs k_0))) qN) As.nil)))) S.nil)
 case g2=>with_reducible exact X.retF qN
noncomputable def W_truth:FnSpec:=by
 apply FnSpec.mk 300 3 [("self",.local),("node",.local),("env",.local),("found",.local)] (bodyOf (stmtIn 19 11)) []
 case ok =>
 dsimp only [tbOf,Nat.reduceAdd]
 with_unfolding_all refine' S.cons ?g0 ?g1
 case g0=>with_reducible exact qG (E.oAdd (qT qN (m:=k_height)) E.int) (qB qN (m:=k_height))
 case g1=>with_reducible exact S.cons (qXe (qM qN (qL E.int (qL E.int L.nil)) (m:=k_spend))) (S.cons (qX (qM qN (qL qN (qL qN L.nil)) (m:=k_truth_of))) (S.cons (qG (E.oSub (qT qN (m:=k_height)) E.int) (qB qN (m:=k_height))) (S.cons (X.ret qN) S.nil)))
noncomputable def W_truth_of:FnSpec:=by
 apply FnSpec.mk 305 3 [("self",.cell),("node",.local),("env",.cell),("op",.local),("one",.local),("before",.local),("c",.local),("other",.local),("name",.local),("args",.local),("inner",.cell)] (bodyOf (stmtIn 19 12)) ["all_of","SET_SIGNS","TRUTH_HEADS","KindFault"]
 case ok =>
 dsimp only [tbOf,Nat.reduceAdd]
 with_unfolding_all refine' S.cons ?g0 ?g1
 case g0=>with_reducible exact qX (qS qH E.int)
 case g1=>with_reducible exact S.cons (X.ite (qBEq qN (qs k_block)) (S.cons (X.ret (qU (qL (E.fr (qO (N:=11) (cv:=[".0","one"]) (m:=2) (tb':=[(".0",.local,11),("one",.local,12),("env",.free,2),("self",.free,0)]) (gl':=[]) (SI.toH (qV (qS qH E.int))) qC T.nil SGs.nil (qM qN (qL qN (qL qN L.nil)) (m:=k_truth)))) L.nil))) S.nil) S.nil) (S.cons (X.ite (B.and (qBEq qN (qs k_un)) (B.and (qBEq (qS qH E.int) (qs kx_21)) B.andN)) (S.cons (X.ret (E.tup (qL (qs k_not) (qL (qM qN (qL (qS qH E.int) (qL qN L.nil)) (m:=k_truth)) L.nil)))) S.nil) S.nil) (S.cons (X.ite (B.and (qBEq qN (qs k_un)) (B.and (qBIn (qS qH E.int) (SE.held (E.tup (qL (qs k_some) (qL (qs k_no) (qL (qs k_lone) (qL (qs k_one) L.nil))))))) B.andN)) (S.cons (X.ret (E.tup (qL (qS qH E.int) (qL (qM qN (qL (qS qH E.int) (qL qN L.nil)) (m:=k_expr)) L.nil)))) S.nil) S.nil) (S.cons (X.ite (B.and (qBEq qN (qs k_bin)) (B.and (qBNotIn (qS qH E.int) (SE.held qGl)) B.andN)) (S.cons (X.ret (qM qN (qL qN (qL qN L.nil)) (m:=k_compared))) S.nil) S.nil) (S.cons (X.ite (qBEq qN (qs k_if)) (S.cons (qX (qT qN (m:=k_spent))) (S.cons (qX (qM qN (qL (qS qH E.int) (qL qN L.nil)) (m:=k_truth))) (S.cons (qXe (qM qN (qL (E.oSub (qT qN (m:=k_spent)) qN) (qL E.int L.nil)) (m:=k_spend))) (S.cons (qSw (idxs:=[4,7]) (E.tup (qL (qM qN (qL (qS qH E.int) (qL qN L.nil)) (m:=k_truth)) (qL (qM qN (qL (qS qH E.int) (qL qN L.nil)) (m:=k_truth)) L.nil)))) (S.cons (X.ret (E.tup (qL (qs k_and) (qL (E.tup (qL (E.tup (qL (qs k_implies) (qL qN (qL qN L.nil)))) (qL (E.tup (qL (qs k_implies) (qL (E.tup (qL (qs k_not) (qL qN L.nil))) (qL qN L.nil)))) L.nil))) L.nil)))) S.nil))))) S.nil) (S.cons (X.ite (qBEq qN (qs k_let)) (S.cons (X.ret (qM qN (qL (qS qH E.int) (qL (qM qN (qL qN (qL qN L.nil)) (m:=k_let_env)) L.nil)) (m:=k_truth))) S.nil) S.nil) (S.cons (X.ite (B.and (qBEq qN (qs k_quant)) (B.and (qBNe (qS qH E.int) (qs k_sum)) B.andN)) (S.cons (X.ret (qM qN (qL (qS qH E.int) (qL (qS qH E.int) (qL (qS qH E.int) (qL qN L.nil)))) (m:=k_quantified))) S.nil) S.nil) (S.cons (X.ite (B.and (qBEq qN (qs k_name)) (B.and (qBIn (qS qH E.int) qH) (B.and (qBIn (qS (SE.held (qS qH (qS qH E.int))) E.int) (SE.held qGl)) B.andN))) (S.cons (X.ret (qM qN (qL (qS qH E.int) (qL qN L.nil)) (m:=k_used))) S.nil) S.nil) (S.cons (qG (E.ite (qBIn qN (SE.held (E.tup (qL (qs k_name) (qL (qs k_box) (qL (qs k_bin) L.nil)))))) (qM qN (qL qN (qL qN L.nil)) (m:=k_call_of)) (E.tup (qL (qs k_0) (qL (E.tup L.nil) L.nil)))) (qP (k':=2) (qR qA (qR qA As.nil)))) (S.cons (X.ite (qBEq qN (qs k_0)) (S.cons X.no S.nil) S.nil) (S.cons (X.ite (qBIn qN (SE.held (qT qN (m:=k_calls)))) (S.cons (qX (qM qN (qL qN (qL qN (qL qN L.nil))) (m:=k_call_env))) (S.cons (X.ret (qU (qL (E.fr (qO (N:=11) (cv:=[".0","one"]) (m:=2) (tb':=[(".0",.local,11),("one",.local,12),("inner",.free,10),("self",.free,0)]) (gl':=[]) (SI.toH (qV (qS (SE.held (qS (SE.held (qT qN (m:=k_calls))) qN)) E.int))) qC T.nil SGs.nil (qM qN (qL qN (qL qN L.nil)) (m:=k_truth)))) L.nil))) S.nil)) S.nil) (S.cons (X.ret (qM qN (qL qN (qL qN (qL qN (qL (qS qH E.int) L.nil)))) (m:=k_ordered))) S.nil)))))))))))
noncomputable def W_compared:FnSpec:=by
 apply FnSpec.mk 319 3 [("self",.local),("node",.local),("env",.local),("sign",.local),("left",.local),("right",.local),("i",.local),("j",.local)] (bodyOf (stmtIn 19 14)) []
 case ok =>
 dsimp only [tbOf,Nat.reduceAdd]
 with_unfolding_all refine' S.cons ?g0 ?g1
 case g0=>with_reducible exact qG (qSl qN (Pt.some E.int) (Pt.some E.int)) (qP (k':=3) (qR qA (qR qA (qR qA As.nil))))
 case g1=>with_reducible exact S.cons (X.ite (qBIn qN (SE.held (E.tup (qL (qs kx_2626) (qL (qs kx_7c7c) L.nil))))) (S.cons (X.ret (E.tup (qL (E.ite (qBEq qN (qs kx_2626)) (qs k_and) (qs k_or)) (qL (E.tup (qL (qM qN (qL qN (qL qN L.nil)) (m:=k_truth)) (qL (qM qN (qL qN (qL qN L.nil)) (m:=k_truth)) L.nil))) L.nil)))) S.nil) S.nil) (S.cons (X.ite (qBIn qN (SE.held (E.tup (qL (qs kx_3d3e) (qL (qs kx_3c3d3e) L.nil))))) (S.cons (X.ret (E.tup (qL (E.ite (qBEq qN (qs kx_3d3e)) (qs k_implies) (qs k_iff)) (qL (qM qN (qL qN (qL qN L.nil)) (m:=k_truth)) (qL (qM qN (qL qN (qL qN L.nil)) (m:=k_truth)) L.nil))))) S.nil) S.nil) (S.cons (X.ite (qBIn qN (SE.held (E.tup (qL (qs kx_213d) (qL (qs kx_21696e) L.nil))))) (S.cons (X.ret (E.tup (qL (qs k_not) (qL (qM qN (qL (E.tup (qL (qs k_bin) (qL (qS qH E.int) (qL (qSl qN (Pt.some E.int) Pt.none) (qL qN (qL qN L.nil)))))) (qL qN L.nil)) (m:=k_compared)) L.nil)))) S.nil) S.nil) (S.cons (X.ite (B.and (qBEq qN (qs kx_3d)) (B.and (qBEq (qM qN (qL qN (qL qN L.nil)) (m:=k_form)) (qs k_set)) B.andN)) (S.cons (X.ret (E.tup (qL (qs k_same) (qL (qM qN (qL qN (qL qN L.nil)) (m:=k_expr)) (qL (qM qN (qL qN (qL qN L.nil)) (m:=k_expr)) L.nil))))) S.nil) S.nil) (S.cons (X.ite (qBEq qN (qs k_in)) (S.cons (X.ret (qM qN (qL (qM qN (qL qN (qL qN L.nil)) (m:=k_expr)) (qL qN (qL qN L.nil))) (m:=k_bounded))) S.nil) S.nil) (S.cons (qSw (idxs:=[6,7]) (E.tup (qL (qM qN (qL qN (qL qN L.nil)) (m:=k_number)) (qL (qM qN (qL qN (qL qN L.nil)) (m:=k_number)) L.nil)))) (S.cons (X.ite (qBIn qN (SE.held (E.tup (qL (qs kx_3e) (qL (qs kx_3e3d) L.nil))))) (S.cons (qSw (idxs:=[6,7]) (E.tup (qL qN (qL qN L.nil)))) S.nil) S.nil) (S.cons (X.ret (E.tup (qL (E.ite (qBEq qN (qs kx_3d)) (qs k_eq) (E.ite (qBIn qN (SE.held (E.tup (qL (qs kx_3c) (qL (qs kx_3e) L.nil))))) (qs k_lt) (qs k_le))) (qL qN (qL qN L.nil))))) S.nil)))))))
noncomputable def W_decls_of:FnSpec:=by
 apply FnSpec.mk 324 3 [("self",.cell),("decls",.local),("env",.local),("found",.local),("apart",.local),("spot",.local),("is_disj",.cell),("names",.cell),("mult",.local),("node",.local),("name",.cell),("domain",.local),("some",.local),("k",.local)] (bodyOf (stmtIn 19 15)) ["dict","KindFault","enumerate","zip","tuple"]
 case ok =>
 dsimp only [tbOf,Nat.reduceAdd]
 with_unfolding_all refine' S.seal3 ([false,false,true,true,true,false,false,false,false,false,false,false,false,false]) ?g0 ?g1 ?g2
 case g0=>with_reducible exact qSw (idxs:=[3,2,4]) (E.tup (qL (E.reg (O.lst L.nil)) (qL (E.reg (qDi qH)) (qL (E.reg (O.lst L.nil)) L.nil))))
 case g1=>with_reducible exact qF (qV qN) (qP (k':=5) (qR qA (qR qA (qR qA (qR qA (qR qA As.nil)))))) (S.cons (X.ite (qBNotIn qN (SE.held (E.tup (qL (qs k_0) (qL (qs k_one) L.nil))))) (S.cons X.no S.nil) S.nil) (S.cons (qSw (idxs:=[11,12]) (E.tup (qL (qM qN (qL qN (qL qN L.nil)) (m:=k_expr)) (qL (E.fr (qO (N:=14) (cv:=[".0","name"]) (m:=2) (tb':=[(".0",.local,14),("name",.local,15),("self",.free,0)]) (gl':=[]) (SI.toH (qV qN)) qC T.nil SGs.nil (qM qN (qL qN L.nil) (m:=k_fresh)))) L.nil)))) (S.cons (X.ite (qBNe (qM qN (qL qN L.nil) (m:=k_arity)) E.int) (S.cons X.no S.nil) S.nil) (S.cons (qF (qEn qN) (qP (k':=2) (qR qA (qR qA As.nil))) (S.cons (qW F.slot_list_append F.type_list_append lm_append qH (qL (E.tup (qL qN (qL qN L.nil))) L.nil)) (S.cons (qW F.slot_list_extend F.type_list_extend lm_extend qH (qL (E.fr (qO (N:=14) (cv:=[".0","other"]) (m:=2) (tb':=[(".0",.local,14),("other",.local,15),("is_disj",.free,6),("name",.free,10)]) (gl':=[]) (SI.toH (qV (qSl qN Pt.none (Pt.some qN)))) qC (T.one (qBv qN)) SGs.nil (E.tup (qL (qs k_not) (qL (E.tup (qL (qs k_same) (qL (E.tup (qL (qs k_var) (qL qN L.nil))) (qL (E.tup (qL (qs k_var) (qL qN L.nil))) L.nil)))) L.nil))))) L.nil)) S.nil))) (S.cons (qUp qH (qL (E.fr (qO (N:=14) (cv:=[".0","name","late"]) (m:=3) (tb':=[(".0",.local,14),("name",.local,15),("late",.local,16)]) (gl':=[]) (SI.toH (qZ qN qN)) (qPc (k':=2) (qRc qC (qRc qC Acs.nil))) T.nil SGs.nil (E.tup (qL qN (qL (E.tup (qL (qs k_var) (qL qN L.nil))) L.nil))))) L.nil)) (S.cons (qG (E.fr (qDS (SE.held (E.fr (qO (N:=14) (cv:=[".0","name","cost"]) (m:=3) (tb':=[(".0",.local,14),("name",.local,15),("cost",.local,16),("names",.free,7)]) (gl':=[]) (SI.toH (qIt (qGe qH (qL (qs k_0) (qL (E.fr O.disp0) L.nil))))) (qPc (k':=2) (qRc qC (qRc qC Acs.nil))) (T.one (qBNotIn qN qH)) SGs.nil (E.tup (qL qN (qL qN L.nil)))))))) (A.sub qH (qs k_0))) S.nil))))))
 case g2=>with_reducible exact X.ret (E.tup (qL (qTu qH) (qL qN (qL qN L.nil))))
noncomputable def W_quantified:FnSpec:=by
 apply FnSpec.mk 331 5 [("self",.local),("q",.local),("decls",.local),("body",.local),("env",.local),("told",.local),("inner",.local),("apart",.local),("formula",.local)] (bodyOf (stmtIn 19 16)) ["all_of"]
 case ok =>
 dsimp only [tbOf,Nat.reduceAdd]
 with_unfolding_all refine' S.cons ?g0 ?g1
 case g0=>with_reducible exact qG (qM qN (qL qN (qL qN L.nil)) (m:=k_decls_of)) (qP (k':=3) (qR qA (qR qA (qR qA As.nil))))
 case g1=>with_reducible exact S.cons (qX (qM qN (qL qN (qL qN L.nil)) (m:=k_truth))) (S.cons (X.ite (qBEq qN (qs k_all)) (S.cons (X.ret (E.tup (qL (qs k_all) (qL qN (qL (E.ite (qBNe qN (E.fr (O.lst L.nil))) (E.tup (qL (qs k_implies) (qL (qU (qL qN L.nil)) (qL qN L.nil)))) qN) L.nil))))) S.nil) S.nil) (S.cons (qX (qU (qL (E.addR qN (qL qN L.nil)) L.nil))) (S.cons (X.ite (qBIn qN (SE.held (E.tup (qL (qs k_some) (qL (qs k_no) L.nil))))) (S.cons (X.ret (E.ite (qBEq qN (qs k_some)) (E.tup (qL (qs k_exists) (qL qN (qL qN L.nil)))) (E.tup (qL (qs k_not) (qL (E.tup (qL (qs k_exists) (qL qN (qL qN L.nil)))) L.nil))))) S.nil) S.nil) (S.cons (X.ret (E.tup (qL qN (qL (E.tup (qL (qs k_comp) (qL qN (qL qN L.nil)))) L.nil)))) S.nil))))
noncomputable def W_expr:FnSpec:=by
 apply FnSpec.mk 338 3 [("self",.local),("node",.local),("env",.local),("found",.local)] (bodyOf (stmtIn 19 17)) []
 case ok =>
 dsimp only [tbOf,Nat.reduceAdd]
 with_unfolding_all refine' S.cons ?g0 ?g1
 case g0=>with_reducible exact qG (E.oAdd (qT qN (m:=k_height)) E.int) (qB qN (m:=k_height))
 case g1=>with_reducible exact S.cons (qXe (qM qN (qL E.int (qL E.int L.nil)) (m:=k_spend))) (S.cons (qX (qM qN (qL qN (qL qN L.nil)) (m:=k_expr_of))) (S.cons (qG (E.oSub (qT qN (m:=k_height)) E.int) (qB qN (m:=k_height))) (S.cons (X.ret qN) S.nil)))
noncomputable def W_expr_of:FnSpec:=by
 apply FnSpec.mk 345 3 [("self",.local),("node",.local),("env",.local),("op",.local),("told",.local),("inner",.local),("apart",.local),("name",.local),("args",.local),("found",.local),("one",.local)] (bodyOf (stmtIn 19 18)) ["TURNED","all_of","SET_SIGNS","KindFault"]
 case ok =>
 dsimp only [tbOf,Nat.reduceAdd]
 with_unfolding_all refine' S.cons ?g0 ?g1
 case g0=>with_reducible exact qX (qS qH E.int)
 case g1=>with_reducible exact S.cons (X.ite (qBIn qN (SE.held (E.tup (qL (qs k_univ) (qL (qs k_iden) L.nil))))) (S.cons (X.ret (E.ite (qBEq qN (qs k_univ)) (qM0 qN (m:=k_all_atoms)) (qM0 qN (m:=k_same_atoms)))) S.nil) S.nil) (S.cons (X.ite (qBEq qN (qs k_none)) (S.cons (X.ret (E.tup (qL (qs k_none) (qL E.int L.nil)))) S.nil) S.nil) (S.cons (X.ite (B.and (qBEq qN (qs k_un)) (B.and (qBIn (qS qH E.int) (SE.held qGl)) B.andN)) (S.cons (X.ret (qM qN (qL (qS qH E.int) (qL (qM qN (qL (qS qH E.int) (qL qN L.nil)) (m:=k_expr)) L.nil)) (m:=k_turned))) S.nil) S.nil) (S.cons (X.ite (qBEq qN (qs k_arrow)) (S.cons (X.ret (E.tup (qL (qs k_product) (qL (qM qN (qL (qS qH E.int) (qL qN L.nil)) (m:=k_expr)) (qL (qM qN (qL (qS qH E.int) (qL qN L.nil)) (m:=k_expr)) L.nil))))) S.nil) S.nil) (S.cons (X.ite (qBEq qN (qs k_compr)) (S.cons (qG (qM qN (qL (qS qH E.int) (qL qN L.nil)) (m:=k_decls_of)) (qP (k':=3) (qR qA (qR qA (qR qA As.nil))))) (S.cons (X.ret (E.tup (qL (qs k_comp) (qL qN (qL (qU (qL (E.addR qN (qL (qM qN (qL (qS qH E.int) (qL qN L.nil)) (m:=k_truth)) L.nil)) L.nil)) L.nil))))) S.nil)) S.nil) (S.cons (X.ite (qBEq qN (qs k_if)) (S.cons (X.ret (E.tup (qL (qs k_either) (qL (qM qN (qL (qS qH E.int) (qL qN L.nil)) (m:=k_truth)) (qL (qM qN (qL (qS qH E.int) (qL qN L.nil)) (m:=k_expr)) (qL (qM qN (qL (qS qH E.int) (qL qN L.nil)) (m:=k_expr)) L.nil)))))) S.nil) S.nil) (S.cons (X.ite (qBEq qN (qs k_let)) (S.cons (X.ret (qM qN (qL (qS qH E.int) (qL (qM qN (qL qN (qL qN L.nil)) (m:=k_let_env)) L.nil)) (m:=k_expr))) S.nil) S.nil) (S.cons (X.ite (B.and (qBEq qN (qs k_name)) (B.and (qBIn (qS qH E.int) qH) B.andN)) (S.cons (X.ret (qM qN (qL (qM qN (qL (qS qH E.int) (qL qN L.nil)) (m:=k_used)) (qL (qs k_set) (qL (qS qH E.int) L.nil))) (m:=k_wanted))) S.nil) S.nil) (S.cons (qG (E.ite (qBIn qN (SE.held (E.tup (qL (qs k_name) (qL (qs k_box) (qL (qs k_bin) L.nil)))))) (qM qN (qL qN (qL qN L.nil)) (m:=k_call_of)) (E.tup (qL (qs k_0) (qL (E.tup L.nil) L.nil)))) (qP (k':=2) (qR qA (qR qA As.nil)))) (S.cons (X.ite (qBNe qN (qs k_0)) (S.cons (X.ret (qM qN (qL qN (qL qN (qL qN (qL (qS qH E.int) L.nil)))) (m:=k_called_expr))) S.nil) S.nil) (S.cons (X.ite (qBEq qN (qs k_name)) (S.cons (X.ret (qM qN (qL (qS qH E.int) (qL (qS qH E.int) L.nil)) (m:=k_named))) S.nil) S.nil) (S.cons (X.ite (qBEq qN (qs k_box)) (S.cons (qX (qM qN (qL (qS qH E.int) (qL qN L.nil)) (m:=k_expr))) (S.cons (qF (qV (qS qH E.int)) qA (S.cons (qX (E.tup (qL (qs k_join) (qL (qM qN (qL qN (qL qN L.nil)) (m:=k_expr)) (qL qN L.nil))))) S.nil)) (S.cons (X.ret qN) S.nil))) S.nil) (S.cons (X.ite (B.or (qBNe qN (qs k_bin)) (B.or (qBNotIn (qS qH E.int) (SE.held qGl)) B.orN)) (S.cons X.no S.nil) S.nil) (S.cons (X.ret (E.tup (qL (qS (SE.held qGl) (qS qH E.int)) (qL (qM qN (qL (qS qH E.int) (qL qN L.nil)) (m:=k_expr)) (qL (qM qN (qL (qS qH E.int) (qL qN L.nil)) (m:=k_expr)) L.nil))))) S.nil)))))))))))))
noncomputable def W_wanted:FnSpec:=by
 apply FnSpec.mk 371 4 [("self",.local),("value",.local),("form",.local),("spot",.local),("is_number",.local)] (bodyOf (stmtIn 19 22)) ["NUMBER_HEADS","TRUTH_HEADS","KindFault"]
 case ok =>
 dsimp only [tbOf,Nat.reduceAdd]
 with_unfolding_all refine' S.cons ?g0 ?g1
 case g0=>with_reducible exact qX (qEIn (qS qH E.int) (SE.held qGl))
 case g1=>with_reducible exact S.cons (X.ite (B.or (qBIn (qS qH E.int) (SE.held qGl)) (B.or (qBNe qN (qEEq qN (qs k_number))) B.orN)) (S.cons X.no S.nil) S.nil) (S.cons (X.ret qN) S.nil)
noncomputable def W_called_expr:FnSpec:=by
 apply FnSpec.mk 378 5 [("self",.local),("name",.local),("args",.local),("env",.local),("spot",.local),("last",.local)] (bodyOf (stmtIn 19 23)) ["KindFault"]
 case ok =>
 dsimp only [tbOf,Nat.reduceAdd]
 with_unfolding_all refine' S.cons ?g0 ?g1
 case g0=>with_reducible exact X.ite (B.and (qBIn qN (SE.held (qT qN (m:=k_calls)))) (B.and (qBEq (qS (SE.held (qS (SE.held (qT qN (m:=k_calls))) qN)) E.int) (qs k_fun)) B.andN)) (S.cons (X.ret (qM qN (qL (qS (SE.held (qS (SE.held (qT qN (m:=k_calls))) qN)) E.int) (qL (qM qN (qL qN (qL qN (qL qN L.nil))) (m:=k_call_env)) L.nil)) (m:=k_expr))) S.nil) S.nil
 case g1=>with_reducible exact S.cons (qX (qS (SE.held (qM qN (qL qN L.nil) (m:=k_orders_of))) E.int)) (S.cons (X.ite (B.or (qBIn qN (SE.held (qT qN (m:=k_calls)))) (B.or (qBNotIn qN (SE.held (E.tup (qL (qs k_nexts) (qL (qs k_prevs) L.nil))))) B.orN)) (S.cons X.no S.nil) S.nil) (S.cons (X.ret (E.tup (qL (qs k_join) (qL (qM qN (qL (qS qH E.int) (qL qN L.nil)) (m:=k_expr)) (qL (qM qN (qL qN (qL (qEEq qN (qs k_nexts)) L.nil)) (m:=k_steps)) L.nil))))) S.nil))
noncomputable def W_is_marked:FnSpec:=by
 apply FnSpec.mk 399 2 [("self",.local),("node",.local)] (bodyOf (stmtIn 19 26)) []
 case ok =>
 dsimp only [tbOf,Nat.reduceAdd]
 with_unfolding_all refine' S.cons ?g0 ?g1
 case g0=>with_reducible exact X.ite (qBNe (qS qH E.int) (qs k_arrow)) (S.cons (X.ret E.bool) S.nil) S.nil
 case g1=>with_reducible exact S.cons (X.ret E.no) S.nil
noncomputable def W_bounded:FnSpec:=by
 apply FnSpec.mk 406 4 [("self",.local),("value",.local),("node",.local),("env",.local),("found",.local)] (bodyOf (stmtIn 19 27)) ["all_of"]
 case ok =>
 dsimp only [tbOf,Nat.reduceAdd]
 with_unfolding_all refine' S.cons ?g0 ?g1
 case g0=>with_reducible exact qX (E.fr (O.lst (qL (E.tup (qL (qs k_in) (qL qN (qL (qM qN (qL qN (qL qN L.nil)) (m:=k_expr)) L.nil)))) L.nil)))
 case g1=>with_reducible exact S.cons (X.ite (qBv (qM qN (qL qN L.nil) (m:=k_is_marked))) (S.cons (qW F.slot_list_extend F.type_list_extend lm_extend qH (qL (qM qN (qL qN (qL qN (qL qN L.nil))) (m:=k_marked)) L.nil)) S.nil) S.nil) (S.cons (X.ret (qU (qL qN L.nil))) S.nil)
noncomputable def W_set_of:FnSpec:=by
 apply FnSpec.mk 477 1 [("tuples",.local)] (bodyOf (stmtAt 21)) ["tuple","sorted","dict"]
 case ok =>
 dsimp only [tbOf,Nat.reduceAdd]
 with_unfolding_all refine' S.cons ?g0 ?g1
 case g0=>with_reducible exact X.ret (qTu (SE.held (E.fr (qSo (SE.held (qDT (SE.held (E.fr (qO (N:=1) (cv:=[".0","one"]) (m:=2) (tb':=[(".0",.local,1),("one",.local,2)]) (gl':=[]) (SI.toH (qV qN)) qC T.nil SGs.nil (E.tup (qL qN (qL E.bool L.nil))))))))))))
 case g1=>with_reducible exact S.nil
noncomputable def W_union:FnSpec:=by
 apply FnSpec.mk 494 2 [("s",.local),("t",.local)] (bodyOf (stmtAt 25)) ["set_of_sets"]
 case ok =>
 dsimp only [tbOf,Nat.reduceAdd]
 with_unfolding_all refine' S.cons ?g0 ?g1
 case g0=>with_reducible exact X.ret (qU (qL (E.oAdd qN qN) L.nil))
 case g1=>with_reducible exact S.nil
noncomputable def W_minus:FnSpec:=by
 apply FnSpec.mk 504 2 [("s",.local),("t",.local),("known",.cell)] (bodyOf (stmtAt 27)) ["dict","tuple"]
 case ok =>
 dsimp only [tbOf,Nat.reduceAdd]
 with_unfolding_all refine' S.cons ?g0 ?g1
 case g0=>with_reducible exact qX (qDT (SE.held (E.fr (qO (N:=3) (cv:=[".0","one"]) (m:=2) (tb':=[(".0",.local,3),("one",.local,4)]) (gl':=[]) (SI.toH (qV qN)) qC T.nil SGs.nil (E.tup (qL qN (qL E.bool L.nil)))))))
 case g1=>with_reducible exact S.cons (X.ret (qTu (SE.held (E.fr (qO (N:=3) (cv:=[".0","one"]) (m:=2) (tb':=[(".0",.local,3),("one",.local,4),("known",.free,2)]) (gl':=[]) (SI.toH (qV qN)) qC (T.one (qNiT qN qN)) SGs.nil qN))))) S.nil
noncomputable def W_is_within:FnSpec:=by
 apply FnSpec.mk 511 2 [("s",.local),("t",.local)] (bodyOf (stmtAt 28)) ["minus"]
 case ok =>
 dsimp only [tbOf,Nat.reduceAdd]
 with_unfolding_all refine' S.cons ?g0 ?g1
 case g0=>with_reducible exact X.ret (qEEq (qU (qL qN (qL qN L.nil))) (E.tup L.nil))
 case g1=>with_reducible exact S.nil
noncomputable def W_join:FnSpec:=by
 apply FnSpec.mk 521 2 [("s",.local),("t",.local),("begun",.cell),("late",.local)] (bodyOf (stmtAt 30)) ["set_of_sets"]
 case ok =>
 dsimp only [tbOf,Nat.reduceAdd]
 with_unfolding_all refine' S.seal3 ([true,false,true,false]) ?g0 ?g1 ?g2
 case g0=>with_reducible exact qX E.regI
 case g1=>with_reducible exact qF (qV qN) qA (S.cons (qW F.slot_list_append F.type_list_append lm_append (SE.held (qSd (SE.held qN) (qL (qS qH E.int) (qL (E.reg (O.lst L.nil)) L.nil)))) (qL (qSl qN (Pt.some E.int) Pt.none) L.nil)) S.nil)
 case g2=>with_reducible exact X.ret (qU (qL (E.fr (qO (N:=4) (cv:=[".0","one","rest"]) (m:=3) (tb':=[(".0",.local,4),("one",.local,5),("rest",.local,6),("begun",.free,2)]) (gl':=[]) (SI.toH (qV qN)) qC T.nil (qGs (qV (qGe qH (qL (qS qH (E.neg E.int)) (qL (E.fr (O.lst L.nil)) L.nil)))) qC T.nil SGs.nil) (E.oAdd (qSl qN Pt.none (Pt.some (E.neg E.int))) qN))) L.nil))
noncomputable def W_eval_init:FnSpec:=by
 apply FnSpec.mk 569 3 [("self",.local),("many",.local),("instance",.local)] (bodyOf (stmtIn 38 0)) []
 case ok =>
 dsimp only [tbOf,Nat.reduceAdd]
 with_unfolding_all refine' S.cons ?g0 ?g1
 case g0=>with_reducible exact qG qN (qB qN (m:=k_many))
 case g1=>with_reducible exact S.cons (qG qN (qB qN (m:=k_instance))) S.nil
noncomputable def W_opened:FnSpec:=by
 apply FnSpec.mk 576 3 [("self",.local),("decls",.local),("env",.local),("found",.local),("name",.local),("expr",.local),("late",.local),("atoms",.local),("one",.local),("row",.local),("inner",.local)] (bodyOf (stmtIn 38 1)) ["dict"]
 case ok =>
 dsimp only [tbOf,Nat.reduceAdd]
 with_unfolding_all refine' S.cons ?g0 ?g1
 case g0=>with_reducible exact qX (E.fr (O.lst (qL (E.tup (qL (E.tup L.nil) (qL qN L.nil))) L.nil)))
 case g1=>with_reducible exact S.cons (qF (qV qN) (qP (k':=2) (qR qA (qR qA As.nil))) (S.cons (qXO (O.lst L.nil)) (S.cons (qF (qV qN) (qP (k':=2) (qR qA (qR qA As.nil))) (S.cons (qF (qV (qM qN (qL qN (qL qN L.nil)) (m:=k_set_of))) qA (S.cons (qXO (qDi qH)) (S.cons (qG (E.tup (qL qN L.nil)) (A.sub qH qN)) (S.cons (X.frz (10) (qW F.slot_list_append F.type_list_append lm_append qH (qL (E.tup (qL (E.oAdd qN qN) (qL qN L.nil))) L.nil))) S.nil)))) S.nil)) (S.cons (X.frz (6) (qX qN)) S.nil)))) (S.cons (X.ret qN) S.nil)
noncomputable def W_ev_set_of:FnSpec:=by
 apply FnSpec.mk 581 3 [("self",.cell),("expr",.cell),("env",.local),("op",.local)] (bodyOf (stmtIn 38 2)) ["univ_of","iden_of","set_of_sets"]
 case ok =>
 dsimp only [tbOf,Nat.reduceAdd]
 with_unfolding_all refine' S.cons ?g0 ?g1
 case g0=>with_reducible exact qX (qS qH E.int)
 case g1=>with_reducible exact S.cons (X.ite (qBEq qN (qs k_rel)) (S.cons (X.ret (qS (SE.held (qT qN (m:=k_instance))) (qS qH E.int))) S.nil) S.nil) (S.cons (X.ite (qBEq qN (qs k_var)) (S.cons (X.ret (qS qH (qS qH E.int))) S.nil) S.nil) (S.cons (X.ite (qBEq qN (qs k_tuples)) (S.cons (X.ret (qS qH E.int)) S.nil) S.nil) (S.cons (X.ite (qBEq qN (qs k_none)) (S.cons (X.ret (E.tup L.nil)) S.nil) S.nil) (S.cons (X.ite (qBEq qN (qs k_univ)) (S.cons (X.ret (qU (qL (qT qN (m:=k_many)) L.nil))) S.nil) S.nil) (S.cons (X.ite (qBEq qN (qs k_iden)) (S.cons (X.ret (qU (qL (qT qN (m:=k_many)) L.nil))) S.nil) S.nil) (S.cons (X.ite (qBEq qN (qs k_either)) (S.cons (X.ret (qM qN (qL (E.ite (qBv (qM qN (qL (qS qH E.int) (qL qN L.nil)) (m:=k_truth))) (qS qH E.int) (qS qH E.int)) (qL qN L.nil)) (m:=k_set_of))) S.nil) S.nil) (S.cons (X.ite (qBEq qN (qs k_comp)) (S.cons (X.ret (qU (qL (E.fr (qO (N:=4) (cv:=[".0","atoms","one"]) (m:=3) (tb':=[(".0",.local,4),("atoms",.local,5),("one",.local,6),("expr",.free,1),("self",.free,0)]) (gl':=[]) (SI.toH (qV (qM qN (qL (qS qH E.int) (qL qN L.nil)) (m:=k_opened)))) (qPc (k':=2) (qRc qC (qRc qC Acs.nil))) (T.one (qBv (qM qN (qL (qS qH E.int) (qL qN L.nil)) (m:=k_truth)))) SGs.nil qN)) L.nil))) S.nil) S.nil) (S.cons (X.ite (qBIn qN (SE.held (E.tup (qL (qs k_turn) (qL (qs k_closure) (qL (qs k_star) L.nil)))))) (S.cons (X.ret (qM qN (qL qN (qL (qM qN (qL (qS qH E.int) (qL qN L.nil)) (m:=k_set_of)) L.nil)) (m:=k_of_one))) S.nil) S.nil) (S.cons (X.ret (qM qN (qL qN (qL (qM qN (qL (qS qH E.int) (qL qN L.nil)) (m:=k_set_of)) (qL (qM qN (qL (qS qH E.int) (qL qN L.nil)) (m:=k_set_of)) L.nil))) (m:=k_of_two))) S.nil)))))))))
noncomputable def W_of_two:FnSpec:=by
 apply FnSpec.mk 595 4 [("self",.local),("op",.local),("s",.local),("t",.local)] (bodyOf (stmtIn 38 4)) ["union","meet","minus","join","product","override","ahead","behind"]
 case ok =>
 dsimp only [tbOf,Nat.reduceAdd]
 with_unfolding_all refine' S.cons ?g0 ?g1
 case g0=>with_reducible exact X.ite (qBEq qN (qs k_union)) (S.cons (X.ret (qU (qL qN (qL qN L.nil)))) S.nil) S.nil
 case g1=>with_reducible exact S.cons (X.ite (qBEq qN (qs k_meet)) (S.cons (X.ret (qU (qL qN (qL qN L.nil)))) S.nil) S.nil) (S.cons (X.ite (qBEq qN (qs k_minus)) (S.cons (X.ret (qU (qL qN (qL qN L.nil)))) S.nil) S.nil) (S.cons (X.ite (qBEq qN (qs k_join)) (S.cons (X.ret (qU (qL qN (qL qN L.nil)))) S.nil) S.nil) (S.cons (X.ite (qBEq qN (qs k_product)) (S.cons (X.ret (qU (qL qN (qL qN L.nil)))) S.nil) S.nil) (S.cons (X.ite (qBEq qN (qs k_override)) (S.cons (X.ret (qU (qL qN (qL qN L.nil)))) S.nil) S.nil) (S.cons (X.ret (E.ite (qBEq qN (qs k_ahead)) (qU (qL qN (qL qN L.nil))) (qU (qL qN (qL qN L.nil))))) S.nil)))))
noncomputable def W_ev_truth:FnSpec:=by
 apply FnSpec.mk 605 3 [("self",.cell),("f",.cell),("env",.cell),("op",.local),("found",.local),("s",.local),("t",.local)] (bodyOf (stmtIn 38 6)) ["all","any","is_within","len"]
 case ok =>
 dsimp only [tbOf,Nat.reduceAdd]
 with_unfolding_all refine' S.cons ?g0 ?g1
 case g0=>with_reducible exact qX (qS qH E.int)
 case g1=>with_reducible exact S.cons (X.ite (qBIn qN (SE.held (E.tup (qL (qs k_true) (qL (qs k_false) L.nil))))) (S.cons (X.ret (qEEq qN (qs k_true))) S.nil) S.nil) (S.cons (X.ite (qBEq qN (qs k_not)) (S.cons (X.ret (E.not (qM qN (qL (qS qH E.int) (qL qN L.nil)) (m:=k_truth)))) S.nil) S.nil) (S.cons (X.ite (qBEq qN (qs k_and)) (S.cons (X.ret (qAll (SE.held (E.fr (qO (N:=7) (cv:=[".0","one"]) (m:=2) (tb':=[(".0",.local,7),("one",.local,8),("env",.free,2),("self",.free,0)]) (gl':=[]) (SI.toH (qV (qS qH E.int))) qC T.nil SGs.nil (qM qN (qL qN (qL qN L.nil)) (m:=k_truth))))))) S.nil) S.nil) (S.cons (X.ite (qBEq qN (qs k_or)) (S.cons (X.ret (qAny (SE.held (E.fr (qO (N:=7) (cv:=[".0","one"]) (m:=2) (tb':=[(".0",.local,7),("one",.local,8),("env",.free,2),("self",.free,0)]) (gl':=[]) (SI.toH (qV (qS qH E.int))) qC T.nil SGs.nil (qM qN (qL qN (qL qN L.nil)) (m:=k_truth))))))) S.nil) S.nil) (S.cons (X.ite (qBEq qN (qs k_implies)) (S.cons (X.ret (E.or2 (E.not (qM qN (qL (qS qH E.int) (qL qN L.nil)) (m:=k_truth))) (qM qN (qL (qS qH E.int) (qL qN L.nil)) (m:=k_truth)))) S.nil) S.nil) (S.cons (X.ite (qBEq qN (qs k_iff)) (S.cons (X.ret (qEEq (qM qN (qL (qS qH E.int) (qL qN L.nil)) (m:=k_truth)) (qM qN (qL (qS qH E.int) (qL qN L.nil)) (m:=k_truth)))) S.nil) S.nil) (S.cons (X.ite (qBIn qN (SE.held (E.tup (qL (qs k_all) (qL (qs k_exists) L.nil))))) (S.cons (qXC (N:=7) (cv:=[".0","atoms","one"]) (m:=3) (tb':=[(".0",.local,7),("atoms",.local,8),("one",.local,9),("f",.free,1),("self",.free,0)]) (gl':=[]) (SI.toH (qV (qM qN (qL (qS qH E.int) (qL qN L.nil)) (m:=k_opened)))) (qPc (k':=2) (qRc qC (qRc qC Acs.nil))) T.nil SGs.nil (qM qN (qL (qS qH E.int) (qL qN L.nil)) (m:=k_truth))) (S.cons (X.ret (E.ite (qBEq qN (qs k_all)) (qAll qH) (qAny qH))) S.nil)) S.nil) (S.cons (X.ite (qBIn qN (SE.held (E.tup (qL (qs k_le) (qL (qs k_lt) (qL (qs k_eq) L.nil)))))) (S.cons (X.ret (qM qN (qL qN (qL (qM qN (qL (qS qH E.int) (qL qN L.nil)) (m:=k_number_of)) (qL (qM qN (qL (qS qH E.int) (qL qN L.nil)) (m:=k_number_of)) L.nil))) (m:=k_compared))) S.nil) S.nil) (S.cons (X.ite (qBIn qN (SE.held (E.tup (qL (qs k_in) (qL (qs k_same) L.nil))))) (S.cons (qSw (idxs:=[5,6]) (E.tup (qL (qM qN (qL (qS qH E.int) (qL qN L.nil)) (m:=k_set_of)) (qL (qM qN (qL (qS qH E.int) (qL qN L.nil)) (m:=k_set_of)) L.nil)))) (S.cons (X.ret (E.ite (qBEq qN (qs k_in)) (qU (qL qN (qL qN L.nil))) (qEEq qN qN))) S.nil)) S.nil) (S.cons (X.ret (qM qN (qL qN (qL (qD (SE.held (qM qN (qL (qS qH E.int) (qL qN L.nil)) (m:=k_set_of)))) L.nil)) (m:=k_has_many))) S.nil)))))))))
noncomputable def W_has_many:FnSpec:=by
 apply FnSpec.mk 619 3 [("self",.local),("op",.local),("many",.local)] (bodyOf (stmtIn 38 8)) []
 case ok =>
 dsimp only [tbOf,Nat.reduceAdd]
 with_unfolding_all refine' S.cons ?g0 ?g1
 case g0=>with_reducible exact X.ite (qBEq qN (qs k_some)) (S.cons (X.ret (qEGt qN E.int)) S.nil) S.nil
 case g1=>with_reducible exact S.cons (X.ite (qBEq qN (qs k_no)) (S.cons (X.ret (qEEq qN E.int)) S.nil) S.nil) (S.cons (X.ret (E.ite (qBEq qN (qs k_one)) (qEEq qN E.int) (qELt qN E.int))) S.nil)
noncomputable def W_sigs_init:FnSpec:=by
 apply FnSpec.mk 640 2 [("self",.local),("items",.local),("item",.local),("name",.local)] (bodyOf (stmtIn 41 0)) []
 case ok =>
 dsimp only [tbOf,Nat.reduceAdd]
 with_unfolding_all refine' S.cons ?g0 ?g1
 case g0=>with_reducible exact qG (E.reg O.disp0) (qB qN (m:=k_entries))
 case g1=>with_reducible exact S.cons (qG (E.reg (O.lst L.nil)) (qB qN (m:=k_stands))) (S.cons (qG (E.reg (O.lst L.nil)) (qB qN (m:=k_opened))) (S.cons (qF (qV qN) qA (S.cons (X.ite (qBEq (qS qH E.int) (qs k_sig)) (S.cons (qXe (qM qN (qL qN L.nil) (m:=k_take_sig))) S.nil) S.nil) S.nil)) (S.cons (qFR (qT qN (m:=k_stands)) qA (S.cons (qXe (qM qN (qL qN L.nil) (m:=k_look_above))) S.nil)) (S.cons (qG (qM0 qN (m:=k_parents_first)) (qB qN (m:=k_ordered))) (S.cons (qG (qM0 qN (m:=k_all_fields)) (qB qN (m:=k_own_fields))) (S.cons (qXe (qM0 qN (m:=k_look_fields))) (S.cons (qF (qV qN) qA (S.cons (X.ite (qBEq (qS qH E.int) (qs k_open)) (S.cons (qXe (qM qN (qL qN L.nil) (m:=k_take_order))) S.nil) S.nil) S.nil)) S.nil)))))))
noncomputable def W_take_sig:FnSpec:=by
 apply FnSpec.mk 647 2 [("self",.local),("item",.local),("name",.local)] (bodyOf (stmtIn 41 1)) ["KindFault","len"]
 case ok =>
 dsimp only [tbOf,Nat.reduceAdd]
 with_unfolding_all refine' S.cons ?g0 ?g1
 case g0=>with_reducible exact qF (qV (qS qH E.int)) qA (S.cons (X.ite (qBIn qN (SE.held (qT qN (m:=k_entries)))) (S.cons X.no S.nil) S.nil) (S.cons (qG qN (A.sub (SE.held (qT qN (m:=k_entries))) qN)) (S.cons (qW F.slot_list_append F.type_list_append lm_append (SE.held (qT qN (m:=k_stands))) (qL qN L.nil)) S.nil)))
 case g1=>with_reducible exact S.cons (X.ite (B.and (qBGt (qD (SE.held (qS qH E.int))) E.int) (B.and (qBv (qS qH E.int)) B.andN)) (S.cons X.no S.nil) S.nil) S.nil
noncomputable def W_look_above:FnSpec:=by
 apply FnSpec.mk 654 2 [("self",.local),("name",.local),("other",.local)] (bodyOf (stmtIn 41 2)) ["KindFault"]
 case ok =>
 dsimp only [tbOf,Nat.reduceAdd]
 with_unfolding_all refine' S.cons ?g0 ?g1
 case g0=>with_reducible exact qF (qV (qM qN (qL qN L.nil) (m:=k_direct))) qA (S.cons (X.ite (qBNotIn qN (SE.held (qT qN (m:=k_entries)))) (S.cons X.no S.nil) S.nil) S.nil)
 case g1=>with_reducible exact S.cons (X.ite (B.and (qBNe (qM qN (qL qN L.nil) (m:=k_parent)) (qs k_0)) (B.and (qBv (qM qN (qL (qM qN (qL qN L.nil) (m:=k_parent)) L.nil) (m:=k_is_subset))) B.andN)) (S.cons X.no S.nil) S.nil) S.nil
noncomputable def W_direct:FnSpec:=by
 apply FnSpec.mk 661 2 [("self",.local),("name",.local)] (bodyOf (stmtIn 41 3)) []
 case ok =>
 dsimp only [tbOf,Nat.reduceAdd]
 with_unfolding_all refine' S.cons ?g0 ?g1
 case g0=>with_reducible exact X.ret (E.oAdd (E.ite (qBNe (qM qN (qL qN L.nil) (m:=k_parent)) (qs k_0)) (E.tup (qL (qM qN (qL qN L.nil) (m:=k_parent)) L.nil)) (E.tup L.nil)) (qM qN (qL qN L.nil) (m:=k_supers)))
 case g1=>with_reducible exact S.nil
noncomputable def W_parents_first:FnSpec:=by
 apply FnSpec.mk 666 1 [("self",.cell),("found",.cell),("rest",.local),("able",.local)] (bodyOf (stmtIn 41 4)) ["list","len","KindFault"]
 case ok =>
 dsimp only [tbOf,Nat.reduceAdd]
 with_unfolding_all refine' S.seal3 ([false,true,false,false]) ?g0 ?g1 ?g2
 case g0=>with_reducible exact q2o (E.reg (O.lst L.nil)) (qLi (SE.held (qT qN (m:=k_stands))))
 case g1=>with_reducible exact X.while (qBGt (qD qH) E.int) (S.cons (qXC (N:=4) (cv:=[".0","name"]) (m:=2) (tb':=[(".0",.local,4),("name",.local,5),("found",.free,1),("self",.free,0)]) (gl':=[]) qOw qC (T.one (qBEq (E.fr (qO (N:=6) (cv:=[".0","other"]) (m:=2) (tb':=[(".0",.local,6),("other",.local,7),("found",.free,1)]) (gl':=[]) (SI.toH (qV (qM qN (qL qN L.nil) (m:=k_direct)))) qC (T.one (qBNotIn qN qH)) SGs.nil qN)) (E.fr (O.lst L.nil)))) SGs.nil qN) (S.cons (X.ite (qBEq (qD qH) E.int) (S.cons X.no S.nil) S.nil) (S.cons (qW F.slot_list_append F.type_list_append lm_append qH (qL (qS qH E.int) L.nil)) (S.cons (qW F.slot_list_remove F.type_list_remove lm_remove qH (qL (qS qH E.int) L.nil)) S.nil))))
 case g2=>with_reducible exact X.ret qN
noncomputable def W_all_fields:FnSpec:=by
 apply FnSpec.mk 673 1 [("self",.local),("found",.local),("group",.local),("name",.local),("spot",.local),("is_disj",.local),("fields",.local),("mult",.local),("node",.local),("field",.local)] (bodyOf (stmtIn 41 5)) []
 case ok =>
 dsimp only [tbOf,Nat.reduceAdd]
 with_unfolding_all refine' S.seal3 ([false,true,false,false,false,false,false,false,false,false]) ?g0 ?g1 ?g2
 case g0=>with_reducible exact qSw (idxs:=[1,2]) (E.tup (qL (E.reg (O.lst L.nil)) (qL E.int L.nil)))
 case g1=>with_reducible exact qF (qV (qT qN (m:=k_ordered))) qA (S.cons (qF (qV (qS (SE.held (qS (SE.held (qT qN (m:=k_entries))) qN)) E.int)) (qP (k':=5) (qR qA (qR qA (qR qA (qR qA (qR qA As.nil)))))) (S.cons (qF (qV qN) qA (S.cons (qW F.slot_list_append F.type_list_append lm_append qH (qL (E.tup (qL qN (qL qN (qL qN (qL qN (qL qN (qL (E.ite (qBv qN) qN (E.neg E.int)) L.nil))))))) L.nil)) S.nil)) (S.cons (qX (E.oAdd qN (E.ite (qBv qN) E.int E.int))) S.nil))) S.nil)
 case g2=>with_reducible exact X.ret qN
noncomputable def W_look_fields:FnSpec:=by
 apply FnSpec.mk 680 1 [("self",.local),("seen",.local),("field",.local),("name",.local),("mult",.local),("node",.local),("spot",.local),("group",.local),("other",.local)] (bodyOf (stmtIn 41 6)) ["KindFault"]
 case ok =>
 dsimp only [tbOf,Nat.reduceAdd]
 with_unfolding_all refine' S.cons ?g0 ?g1
 case g0=>with_reducible exact qXO O.disp0
 case g1=>with_reducible exact S.cons (qF (qV (qT qN (m:=k_own_fields))) (qP (k':=6) (qR qA (qR qA (qR qA (qR qA (qR qA (qR qA As.nil))))))) (S.cons (X.ite (qBIn qN (SE.held (qT qN (m:=k_entries)))) (S.cons X.no S.nil) S.nil) (S.cons (qF (qV (E.addL (qL qN L.nil) (qM qN (qL qN L.nil) (m:=k_all_above)))) qA (S.cons (X.ite (qInE (E.tup (qL qN (qL qN L.nil))) qH) (S.cons X.no S.nil) S.nil) S.nil)) (S.cons (qG E.bool (qGo (E.tup (qL qN (qL qN L.nil))))) S.nil)))) S.nil
noncomputable def W_has:FnSpec:=by
 apply FnSpec.mk 699 2 [("self",.local),("name",.local)] (bodyOf (stmtIn 41 9)) []
 case ok =>
 dsimp only [tbOf,Nat.reduceAdd]
 with_unfolding_all refine' S.cons ?g0 ?g1
 case g0=>with_reducible exact X.ret (qEIn qN (SE.held (qT qN (m:=k_entries))))
 case g1=>with_reducible exact S.nil
noncomputable def W_parent:FnSpec:=by
 apply FnSpec.mk 713 2 [("self",.local),("name",.local)] (bodyOf (stmtIn 41 11)) []
 case ok =>
 dsimp only [tbOf,Nat.reduceAdd]
 with_unfolding_all refine' S.cons ?g0 ?g1
 case g0=>with_reducible exact X.ret (qS (SE.held (qS (SE.held (qT qN (m:=k_entries))) qN)) E.int)
 case g1=>with_reducible exact S.nil
noncomputable def W_supers:FnSpec:=by
 apply FnSpec.mk 720 2 [("self",.local),("name",.local)] (bodyOf (stmtIn 41 12)) ["tuple"]
 case ok =>
 dsimp only [tbOf,Nat.reduceAdd]
 with_unfolding_all refine' S.cons ?g0 ?g1
 case g0=>with_reducible exact X.ret (qTu (SE.held (qS (SE.held (qS (SE.held (qT qN (m:=k_entries))) qN)) E.int)))
 case g1=>with_reducible exact S.nil
noncomputable def W_is_subset:FnSpec:=by
 apply FnSpec.mk 727 2 [("self",.local),("name",.local)] (bodyOf (stmtIn 41 13)) ["len"]
 case ok =>
 dsimp only [tbOf,Nat.reduceAdd]
 with_unfolding_all refine' S.cons ?g0 ?g1
 case g0=>with_reducible exact X.ret (qEGt (qD (SE.held (qS (SE.held (qS (SE.held (qT qN (m:=k_entries))) qN)) E.int))) E.int)
 case g1=>with_reducible exact S.nil
noncomputable def W_all_above:FnSpec:=by
 apply FnSpec.mk 755 2 [("self",.local),("name",.local),("found",.local),("waiting",.local),("other",.local)] (bodyOf (stmtIn 41 17)) ["list","len"]
 case ok =>
 dsimp only [tbOf,Nat.reduceAdd]
 with_unfolding_all refine' S.seal3 ([false,false,true,false,false]) ?g0 ?g1 ?g2
 case g0=>with_reducible exact qSw (idxs:=[2,3]) (E.tup (qL (E.reg (O.lst L.nil)) (qL (E.reg (qLi (SE.held (qM qN (qL qN L.nil) (m:=k_direct))))) L.nil)))
 case g1=>with_reducible exact X.while (qBGt (qD qH) E.int) (S.cons (qX (qM qN (qL E.int L.nil) (m:=k_pop))) (S.cons (X.ite (qBNotIn qN qH) (S.cons (qW F.slot_list_append F.type_list_append lm_append qH (qL qN L.nil)) (S.cons (qW F.slot_list_extend F.type_list_extend lm_extend qH (qL (qM qN (qL qN L.nil) (m:=k_direct)) L.nil)) S.nil)) S.nil) S.nil))
 case g2=>with_reducible exact X.ret qN
noncomputable def W_fields:FnSpec:=by
 apply FnSpec.mk 776 1 [("self",.local)] (bodyOf (stmtIn 41 20)) ["list"]
 case ok =>
 dsimp only [tbOf,Nat.reduceAdd]
 with_unfolding_all refine' S.cons ?g0 ?g1
 case g0=>with_reducible exact X.ret (E.fr (qLi (SE.held (qT qN (m:=k_own_fields)))))
 case g1=>with_reducible exact S.nil
noncomputable def W_orders:FnSpec:=by
 apply FnSpec.mk 790 1 [("self",.local)] (bodyOf (stmtIn 41 22)) ["list"]
 case ok =>
 dsimp only [tbOf,Nat.reduceAdd]
 with_unfolding_all refine' S.cons ?g0 ?g1
 case g0=>with_reducible exact X.ret (E.fr (qLi (SE.held (qT qN (m:=k_opened)))))
 case g1=>with_reducible exact S.nil
noncomputable def W_draw:FnSpec:=by
 apply FnSpec.mk 804 2 [("feed",.local),("wide",.local),("spot",.local)] (bodyOf (stmtAt 43)) ["len"]
 case ok =>
 dsimp only [tbOf,Nat.reduceAdd]
 with_unfolding_all refine' S.cons ?g0 ?g1
 case g0=>with_reducible exact qX (qS qH (qs k_spot))
 case g1=>with_reducible exact S.cons (qG (E.oAdd qN E.int) (A.sub qH (qs k_spot))) (S.cons (X.ite (qBLt qN (qD (SE.held (qS qH (qs k_cells))))) (S.cons (X.ret (E.oMod (qS (SE.held (qS qH (qs k_cells))) qN) qN)) S.nil) S.nil) (S.cons (X.ret (E.oMod (E.oMod (E.oAdd (E.oAdd (E.oAdd (E.oMul (E.oMul E.int qN) qN) (E.oMul E.int qN)) (E.oMul E.int (qD (SE.held (qS qH (qs k_cells)))))) E.int) E.int) qN)) S.nil))
noncomputable def W_lset:FnSpec:=by
 apply FnSpec.mk 811 4 [("feed",.local),("names",.local),("calls",.local),("deep",.local),("way",.local),("late",.local)] (bodyOf (stmtAt 44)) ["_law_draw","len","_law_set","_law_truth"]
 case ok =>
 dsimp only [tbOf,Nat.reduceAdd]
 with_unfolding_all refine' S.cons ?g0 ?g1
 case g0=>with_reducible exact qX (E.ite (qBGt qN E.int) (qU (qL qN (qL E.int L.nil))) (qU (qL qN (qL E.int L.nil))))
 case g1=>with_reducible exact S.cons (X.ite (B.and (qBLt qN E.int) (B.and (qBNe qN (E.fr (O.lst L.nil))) B.andN)) (S.cons (X.ret (E.tup (qL (qs k_name) (qL (qS qH (E.oMod (E.oAdd qN (qU (qL qN (qL (qD qH) L.nil)))) (qD qH))) L.nil)))) S.nil) S.nil) (S.cons (X.ite (qBLt qN E.int) (S.cons (X.ret (E.tup (qL (qs k_whole) L.nil))) S.nil) S.nil) (S.cons (X.ite (qBEq qN E.int) (S.cons (X.ret (E.tup (qL (qs k_led) (qL (E.ite (qBNe qN (E.fr (O.lst L.nil))) (E.tup (qL (qs k_name) (qL (qS qH (qU (qL qN (qL (qD qH) L.nil)))) L.nil))) (E.tup (qL (qs k_whole) L.nil))) L.nil)))) S.nil) S.nil) (S.cons (X.ite (qBEq qN E.int) (S.cons (X.ret (E.tup (qL (qs k_both) (qL (qU (qL qN (qL qN (qL qN (qL E.int L.nil))))) (qL (qU (qL qN (qL qN (qL qN (qL (E.oSub qN E.int) L.nil))))) L.nil))))) S.nil) S.nil) (S.cons (X.ite (B.and (qBEq qN E.int) (B.and (qBGt qN E.int) B.andN)) (S.cons (X.ret (E.tup (qL (qs k_g) (qL (qU (qL qN (qL qN (qL E.int (qL (E.oSub qN E.int) L.nil))))) (qL (qU (qL qN (qL qN (qL qN (qL E.int L.nil))))) (qL (qU (qL qN (qL E.int L.nil))) L.nil)))))) S.nil) S.nil) (S.cons (qX (qS (SE.held (qs k_xy)) (qU (qL qN (qL E.int L.nil))))) (S.cons (X.ret (E.tup (qL (qs k_those) (qL qN (qL (qU (qL qN (qL (E.addR qN (qL qN L.nil)) (qL E.int (qL E.int L.nil))))) L.nil))))) S.nil))))))
noncomputable def W_ltruth:FnSpec:=by
 apply FnSpec.mk 818 4 [("feed",.local),("names",.local),("calls",.local),("deep",.local),("way",.local),("word",.local),("late",.local)] (bodyOf (stmtAt 45)) ["_law_draw","_law_set","min","_law_truth"]
 case ok =>
 dsimp only [tbOf,Nat.reduceAdd]
 with_unfolding_all refine' S.cons ?g0 ?g1
 case g0=>with_reducible exact qX (E.ite (qBGt qN E.int) (qU (qL qN (qL E.int L.nil))) (qU (qL qN (qL E.int L.nil))))
 case g1=>with_reducible exact S.cons (X.ite (qBEq qN E.int) (S.cons (X.ret (E.tup (qL (qs k_in) (qL (qU (qL qN (qL qN (qL qN (qL (qMin qN E.int) L.nil))))) (qL (qU (qL qN (qL qN (qL qN (qL E.int L.nil))))) L.nil))))) S.nil) S.nil) (S.cons (X.ite (qBEq qN E.int) (S.cons (X.ret (E.tup (qL (qs k_some) (qL (qU (qL qN (qL qN (qL qN (qL (qMin qN E.int) L.nil))))) L.nil)))) S.nil) S.nil) (S.cons (X.ite (qBEq qN E.int) (S.cons (X.ret (E.tup (qL (qs k_not) (qL (qU (qL qN (qL qN (qL qN (qL (E.oSub qN E.int) L.nil))))) L.nil)))) S.nil) S.nil) (S.cons (X.ite (qBEq qN E.int) (S.cons (X.ret (E.tup (qL (qs k_or) (qL (qU (qL qN (qL qN (qL qN (qL (E.oSub qN E.int) L.nil))))) (qL (qU (qL qN (qL qN (qL qN (qL E.int L.nil))))) L.nil))))) S.nil) S.nil) (S.cons (X.ite (B.and (qBGt qN E.int) (B.and (qBGt qN E.int) B.andN)) (S.cons (qX (qS (SE.held (qs k_pq)) (qU (qL qN (qL (E.oSub qN E.int) L.nil))))) (S.cons (X.ret (E.tup (qL qN (qL (qU (qL qN (qL qN (qL (qMin qN E.int) (qL E.int L.nil))))) (qL (qU (qL qN (qL qN (qL E.int (qL E.int L.nil))))) (qL (qU (qL qN (qL E.int L.nil))) L.nil)))))) S.nil)) S.nil) (S.cons (qX (qS (SE.held (qs k_xy)) (qU (qL qN (qL E.int L.nil))))) (S.cons (X.ret (E.tup (qL (E.ite (qBEq (E.oMod qN E.int) E.int) (qs k_each) (qs k_any)) (qL qN (qL (qU (qL qN (qL (E.addR qN (qL qN L.nil)) (qL qN (qL (E.oSub qN E.int) L.nil))))) L.nil))))) S.nil))))))
noncomputable def W_ldecl:FnSpec:=by
 apply FnSpec.mk 825 1 [("late",.local)] (bodyOf (stmtAt 46)) []
 case ok =>
 dsimp only [tbOf,Nat.reduceAdd]
 with_unfolding_all refine' S.cons ?g0 ?g1
 case g0=>with_reducible exact X.ret (E.tup (qL (E.tup (qL E.int (qL E.bool (qL (E.tup (qL qN L.nil)) (qL (qs k_0) (qL (E.tup (qL (qs k_name) (qL E.int (qL (qs k_A) L.nil)))) L.nil)))))) L.nil))
 case g1=>with_reducible exact S.nil
noncomputable def W_lnode:FnSpec:=by
 apply FnSpec.mk 832 1 [("tree",.local),("word",.local),("one",.local),("other",.local),("called",.local)] (bodyOf (stmtAt 47)) ["_law_node","_law_decl"]
 case ok =>
 dsimp only [tbOf,Nat.reduceAdd]
 with_unfolding_all refine' S.cons ?g0 ?g1
 case g0=>with_reducible exact qX (qS qH E.int)
 case g1=>with_reducible exact S.cons (X.ite (B.or (qBEq qN (qs k_name)) (B.or (qBEq qN (qs k_whole)) B.orN)) (S.cons (X.ret (E.tup (qL (qs k_name) (qL E.int (qL (E.ite (qBEq qN (qs k_name)) (qS qH E.int) (qs k_A)) L.nil))))) S.nil) S.nil) (S.cons (X.ite (qBEq qN (qs k_led)) (S.cons (X.ret (E.tup (qL (qs k_bin) (qL E.int (qL (qs kx_2e) (qL (qU (qL (qS qH E.int) L.nil)) (qL (E.tup (qL (qs k_name) (qL E.int (qL (qs k_f) L.nil)))) L.nil))))))) S.nil) S.nil) (S.cons (X.ite (qBIn qN (SE.held (E.tup (qL (qs k_both) (qL (qs k_in) (qL (qs k_or) L.nil)))))) (S.cons (X.ret (E.tup (qL (qs k_bin) (qL E.int (qL (qS (SE.held (E.fr (qOd (qPk (qs k_both) (qs kx_2b) (qPk (qs k_in) (qs k_in) (qPk (qs k_or) (qs kx_7c7c) P.nil)))))) qN) (qL (qU (qL (qS qH E.int) L.nil)) (qL (qU (qL (qS qH E.int) L.nil)) L.nil))))))) S.nil) S.nil) (S.cons (X.ite (qBIn qN (SE.held (E.tup (qL (qs k_g) (qL (qs k_p) (qL (qs k_q) L.nil)))))) (S.cons (qSw (idxs:=[2,3,4]) (E.tup (qL (qU (qL (qS qH E.int) L.nil)) (qL (qU (qL (qS qH E.int) L.nil)) (qL (E.tup (qL (qs k_name) (qL E.int (qL qN L.nil)))) L.nil))))) (S.cons (X.ret (E.ite (qBEq (qS qH E.int) E.int) (E.tup (qL (qs k_box) (qL E.int (qL qN (qL (E.tup (qL qN (qL qN L.nil))) L.nil))))) (E.tup (qL (qs k_box) (qL E.int (qL (E.tup (qL (qs k_bin) (qL E.int (qL (qs kx_2e) (qL qN (qL qN L.nil)))))) (qL (E.tup (qL qN L.nil)) L.nil))))))) S.nil)) S.nil) (S.cons (X.ite (qBEq qN (qs k_those)) (S.cons (X.ret (E.tup (qL (qs k_compr) (qL E.int (qL (qU (qL (qS qH E.int) L.nil)) (qL (qU (qL (qS qH E.int) L.nil)) L.nil)))))) S.nil) S.nil) (S.cons (X.ite (qBIn qN (SE.held (E.tup (qL (qs k_each) (qL (qs k_any) L.nil))))) (S.cons (X.ret (E.tup (qL (qs k_quant) (qL E.int (qL (E.ite (qBEq qN (qs k_each)) (qs k_all) (qs k_some)) (qL (qU (qL (qS qH E.int) L.nil)) (qL (qU (qL (qS qH E.int) L.nil)) L.nil))))))) S.nil) S.nil) (S.cons (X.ret (E.tup (qL (qs k_un) (qL E.int (qL (E.ite (qBEq qN (qs k_some)) (qs k_some) (qs kx_21)) (qL (qU (qL (qS qH E.int) L.nil)) L.nil)))))) S.nil))))))
noncomputable def W_lwith:FnSpec:=by
 apply FnSpec.mk 839 3 [("env",.local),("name",.local),("value",.local),("found",.local)] (bodyOf (stmtAt 48)) ["dict"]
 case ok =>
 dsimp only [tbOf,Nat.reduceAdd]
 with_unfolding_all refine' S.cons ?g0 ?g1
 case g0=>with_reducible exact qXO (qDi qH)
 case g1=>with_reducible exact S.cons (qG qN (A.sub qH qN)) (S.cons (X.retF qN) S.nil)
noncomputable def W_lvalue:FnSpec:=by
 apply FnSpec.mk 844 3 [("tree",.cell),("env",.cell),("world",.cell),("word",.local),("params",.local),("body",.local),("values",.local),("kept",.local),("one",.cell),("other",.cell)] (bodyOf (stmtAt 49)) ["_law_value","len","sorted","set"]
 case ok =>
 dsimp only [tbOf,Nat.reduceAdd]
 with_unfolding_all refine' S.cons ?g0 ?g1
 case g0=>with_reducible exact qX (qS qH E.int)
 case g1=>with_reducible exact S.cons (X.ite (qBEq qN (qs k_name)) (S.cons (X.ret (qS qH (qS qH E.int))) S.nil) S.nil) (S.cons (X.ite (qBEq qN (qs k_whole)) (S.cons (X.ret (qS qH (qs k_A))) S.nil) S.nil) (S.cons (X.ite (qBIn qN (SE.held (E.tup (qL (qs k_g) (qL (qs k_p) (qL (qs k_q) L.nil)))))) (S.cons (qG (qS qH qN) (qP (k':=2) (qR qA (qR qA As.nil)))) (S.cons (qX (E.fr (O.lst (qL (qU (qL (qS qH E.int) (qL qN (qL qN L.nil)))) (qL (qU (qL (qS qH E.int) (qL qN (qL qN L.nil)))) L.nil))))) (S.cons (X.ret (qU (qL qN (qL (E.fr (qOd (qPk (qS qH E.int) (qS qH E.int) (qPk (qS qH E.int) (qS qH E.int) P.nil)))) (qL qN L.nil))))) S.nil))) S.nil) (S.cons (X.ite (qBIn qN (SE.held (E.tup (qL (qs k_those) (qL (qs k_each) (qL (qs k_any) L.nil)))))) (S.cons (qXC (N:=10) (cv:=[".0","a"]) (m:=2) (tb':=[(".0",.local,10),("a",.local,11),("env",.free,1),("tree",.free,0),("world",.free,2)]) (gl':=["_law_value","_law_with"]) (SI.toH (qV (qS qH (qs k_A)))) qC (T.one (qBv (qU (qL (qS qH E.int) (qL (qU (qL qN (qL (qS qH E.int) (qL (E.fr (O.lst (qL qN L.nil))) L.nil)))) (qL qN L.nil)))))) SGs.nil qN) (S.cons (X.retF (E.ite (qBEq qN (qs k_those)) qN (E.ite (qBEq qN (qs k_each)) (qEEq (qD qH) (qD (SE.held (qS qH (qs k_A))))) (qENe qN (E.fr (O.lst L.nil)))))) S.nil)) S.nil) (S.cons (qX (qU (qL (qS qH E.int) (qL qN (qL qN L.nil))))) (S.cons (X.ite (qBEq qN (qs k_led)) (S.cons (X.ret (E.fr (qSs (SE.held (E.fr (qO (N:=10) (cv:=[".0","a","b"]) (m:=3) (tb':=[(".0",.local,10),("a",.local,11),("b",.local,12),("one",.free,8)]) (gl':=[]) (SI.toH (qV (qS qH (qs k_f)))) (qPc (k':=2) (qRc qC (qRc qC Acs.nil))) (T.one (qBIn qN qH)) SGs.nil qN)))))) S.nil) S.nil) (S.cons (X.ite (B.or (qBEq qN (qs k_not)) (B.or (qBEq qN (qs k_some)) B.orN)) (S.cons (X.retF (E.ite (qBEq qN (qs k_not)) (E.not qN) (qENe qN (E.fr (O.lst L.nil))))) S.nil) S.nil) (S.cons (qX (qU (qL (qS qH E.int) (qL qN (qL qN L.nil))))) (S.cons (X.ite (qBEq qN (qs k_in)) (S.cons (X.ret (qEEq (E.fr (qO (N:=10) (cv:=[".0","a"]) (m:=2) (tb':=[(".0",.local,10),("a",.local,11),("other",.free,9)]) (gl':=[]) (SI.toH (qV qN)) qC (T.one (qBNotIn qN qH)) SGs.nil qN)) (E.fr (O.lst L.nil)))) S.nil) S.nil) (S.cons (X.retF (E.ite (qBEq qN (qs k_both)) (E.fr (qSs (SE.held (E.fr (O.add (SE.held qN) (SE.held qN)))))) (E.or2 qN qN))) S.nil)))))))))
noncomputable def W_lgoal:FnSpec:=by
 apply FnSpec.mk 849 1 [("feed",.cell),("quants",.local),("names",.local),("tree",.local)] (bodyOf (stmtAt 50)) ["range","_law_draw","_law_set","_law_truth"]
 case ok =>
 dsimp only [tbOf,Nat.reduceAdd]
 with_unfolding_all refine' S.cons ?g0 ?g1
 case g0=>with_reducible exact qSw (idxs:=[1,2]) (E.tup (qL (E.fr (qO (N:=4) (cv:=[".0","lap"]) (m:=2) (tb':=[(".0",.local,4),("lap",.local,5),("feed",.free,0)]) (gl':=["_law_draw"]) (SI.toH (qRa E.int)) qC T.nil SGs.nil (qS (SE.held (E.fr (O.lst (qL (qs k_each) (qL (qs k_any) L.nil))))) (qU (qL qN (qL E.int L.nil)))))) (qL (E.fr (O.lst (qL (qs k_x) (qL (qs k_y) L.nil)))) L.nil)))
 case g1=>with_reducible exact S.cons (qX (E.tup (qL (qS (SE.held (qs k_pq)) (qU (qL qN (qL E.int L.nil)))) (qL (qU (qL qN (qL qN (qL E.int (qL E.int L.nil))))) (qL (qU (qL qN (qL qN (qL E.int (qL E.int L.nil))))) (qL (qU (qL qN (qL E.int L.nil))) L.nil)))))) (S.cons (qX (E.ite (qBEq (qU (qL qN (qL E.int L.nil))) E.int) (E.tup (qL (qs k_not) (qL qN L.nil))) qN)) (S.cons (X.ite (qBEq (qU (qL qN (qL E.int L.nil))) E.int) (S.cons (qX (E.tup (qL (qs k_or) (qL qN (qL (qU (qL qN (qL qN (qL E.int (qL E.int L.nil))))) L.nil))))) S.nil) S.nil) (S.cons (X.ret (E.tup (qL (qS qH E.int) (qL (qs k_x) (qL (E.tup (qL (qS qH E.int) (qL (qs k_y) (qL qN L.nil)))) L.nil))))) S.nil)))
noncomputable def W_linst:FnSpec:=by
 apply FnSpec.mk 854 3 [("feed",.cell),("model",.local),("many",.local),("world",.cell),("mask",.cell)] (bodyOf (stmtAt 51)) ["dict","_law_draw","range"]
 case ok =>
 dsimp only [tbOf,Nat.reduceAdd]
 with_unfolding_all refine' S.cons ?g0 ?g1
 case g0=>with_reducible exact qXO (qDi qH)
 case g1=>with_reducible exact S.cons (qX (E.oAdd E.int (qU (qL qN (qL (E.oSub (E.oPow E.int qN) E.int) L.nil))))) (S.cons (qGc (E.fr (qO (N:=5) (cv:=[".0","a"]) (m:=2) (tb':=[(".0",.local,5),("a",.local,6),("mask",.free,4)]) (gl':=[]) (SI.toH (qRa qN)) qC (T.one (qBEq (E.oMod (E.oDiv qN (E.oPow E.int qN)) E.int) E.int)) SGs.nil qN)) (A.sub qH (qs k_A))) (S.cons (qGc (E.fr (qO (N:=5) (cv:=[".0","a","b"]) (m:=3) (tb':=[(".0",.local,5),("a",.local,6),("b",.local,7),("feed",.free,0),("world",.free,3)]) (gl':=["_law_draw"]) (SI.toH (qV (qS qH (qs k_A)))) qC T.nil (qGs (qV (qS qH (qs k_A))) qC (T.one (qBEq (qU (qL qN (qL E.int L.nil))) E.int)) SGs.nil) (E.tup (qL qN (qL qN L.nil))))) (A.sub qH (qs k_f))) (S.cons (X.retF qN) S.nil)))
noncomputable def W_oargs:{d:DL // SL ⟨tbOf 0 [("self",.local),("signatures",.local),("kinds",.local),("items",.local),("numbers",.local)],[],KOk⟩ (supArgs (bodyOf (stmtIn 19 0))) d}:=by
 apply Subtype.mk
 case property =>
 dsimp only [tbOf,Nat.reduceAdd]
 with_unfolding_all refine' qL ?g0 ?g1
 case g0=>with_unfolding_all exact qN
 case g1=>with_reducible exact qL qN (qL qN (qL qN L.nil))
noncomputable def W_oinit:{d:DS // SS ⟨tbOf 0 [("self",.local),("signatures",.local),("kinds",.local),("items",.local),("numbers",.local)],[],KOk⟩ ((bodyOf (stmtIn 19 0)).tail) d}:=by
 apply Subtype.mk
 case property =>
 dsimp only [tbOf,Nat.reduceAdd]
 with_unfolding_all refine' S.cons ?g0 ?g1
 case g0=>with_reducible exact qG E.int (qB qN (m:=k_spent))
 case g1=>with_reducible exact S.cons (qG E.int (qB qN (m:=k_height))) (S.cons (qG E.int (qB qN (m:=k_peak))) S.nil)
noncomputable def W_law:FnSpec:=by
 apply FnSpec.mk 859 1 [("script",.local),("feed",.local),("model",.local),("items",.local),("calls",.local),("word",.local),("params",.local),("body",.local),("given",.local),("tree",.local),("opener_now",.local),("told",.local),("many",.local),("world",.local),("some",.local)] (bodyOf (stmtAt 52)) ["list","enumerate","_law_draw","_law_set","_law_truth","_law_node","_law_goal","Opener","Signatures","_law_instance","tuple","Evaluator","_law_value"]
 case ok =>
 dsimp only [tbOf,Nat.reduceAdd]
 with_unfolding_all refine' S.cons ?g0 ?g1
 case g0=>with_reducible exact qSw (idxs:=[1,2]) (E.tup (qL (E.reg (qOd (qPk (qs k_cells) (E.fr (qLi (SE.held (qSl qN Pt.none (Pt.some E.int))))) (qPk (qs k_spot) E.int P.nil)))) (qL (E.reg O.disp0) L.nil)))
 case g1=>with_reducible exact S.cons (qXO (O.lst (qL (E.tup (qL (qs k_sig) (qL E.int (qL (E.tup (qL (qs k_A) L.nil)) (qL E.bool (qL (qs k_0) (qL (qs k_0) (qL (E.tup L.nil) (qL (E.tup (qL (E.tup (qL E.int (qL E.bool (qL (E.tup (qL (qs k_f) L.nil)) (qL (qs k_set) (qL (E.tup (qL (qs k_name) (qL E.int (qL (qs k_A) L.nil)))) L.nil)))))) L.nil)) (qL (E.tup L.nil) L.nil)))))))))) L.nil))) (S.cons (qF (qEn (qs k_gpq)) (qP (k':=2) (qR qA (qR qA As.nil))) (S.cons (qX (E.ite (qBEq (qU (qL qN (qL E.int L.nil))) E.int) (E.tup (qL (qs k_x) (qL (qs k_y) L.nil))) (E.tup (qL (qs k_y) (qL (qs k_x) L.nil))))) (S.cons (qX (E.ite (qBEq qN (qs k_g)) (qU (qL qN (qL (E.fr (O.lst (qL (qs k_x) (qL (qs k_y) L.nil)))) (qL E.int (qL E.int L.nil))))) (qU (qL qN (qL (E.fr (O.lst (qL (qs k_x) (qL (qs k_y) L.nil)))) (qL qN (qL E.int L.nil))))))) (S.cons (qG (E.tup (qL qN (qL qN L.nil))) (A.sub qH qN)) (S.cons (qX (E.tup (qL (E.tup (qL E.int (qL E.bool (qL qN (qL (qs k_0) (qL (E.tup (qL (qs k_name) (qL E.int (qL (qs k_A) L.nil)))) L.nil)))))) L.nil))) (S.cons (X.ite (qBEq qN (qs k_g)) (S.cons (qW F.slot_list_append F.type_list_append lm_append qH (qL (E.tup (qL (qs k_fun) (qL E.int (qL (qs k_g) (qL qN (qL (qs k_set) (qL (E.tup (qL (qs k_name) (qL E.int (qL (qs k_A) L.nil)))) (qL (qU (qL qN L.nil)) L.nil)))))))) L.nil)) S.nil) (S.cons (qW F.slot_list_append F.type_list_append lm_append qH (qL (E.tup (qL (qs k_pred) (qL E.int (qL qN (qL qN (qL (E.tup (qL (qU (qL qN L.nil)) L.nil)) L.nil)))))) L.nil)) S.nil)) S.nil)))))) (S.cons (qX (qU (qL qN L.nil))) (S.cons (X.frz (3) (qX (qNw (qL (qNw (qL qN L.nil)) (qL E.none (qL qN (qL (E.fr (qOd (qPk (qs k_A) E.int (qPk (qs kx_412e66) E.int P.nil)))) L.nil))))))) (S.cons (qX (qM qN (qL (qU (qL qN L.nil)) (qL (E.fr O.disp0) L.nil)) (m:=k_truth))) (S.cons (qF (qV (E.tup (qL E.int (qL E.int L.nil)))) qA (S.cons (qX (qU (qL qN (qL qN (qL qN L.nil))))) (S.cons (qX (E.fr (O.lst (qL (qTu (SE.held (E.fr (qO (N:=15) (cv:=[".0","a"]) (m:=2) (tb':=[(".0",.local,15),("a",.local,16)]) (gl':=[]) (SI.toH (qV (qS qH (qs k_A)))) qC T.nil SGs.nil (E.tup (qL qN L.nil)))))) (qL (qTu (SE.held (qS qH (qs k_f)))) L.nil))))) (S.cons (X.ite (qBNe (qM (qNw (qL E.int (qL qN L.nil))) (qL qN (qL (E.fr O.disp0) L.nil)) (m:=k_truth)) (qU (qL qN (qL (E.fr O.disp0) (qL qN L.nil))))) (S.cons (X.ret E.bool) S.nil) S.nil) S.nil)))) (S.cons (X.ret E.bool) S.nil))))))
end
end
section
noncomputable def FnSpec.ps (s:FnSpec):List Str:=(s.vs.take s.np).map (fun q=>q.1)
noncomputable def FnSpec.F (s:FnSpec):Orc -> List PV -> Gs -> WP PV:=fnF s.np (s.vs.length - s.np) s.d
structure FnOk (K:Frag) (s:FnSpec):Prop where
 l:s.ps.length = s.np
 s:∃ fd,FnStatic K s.f fd s.ps s.vs s.b s.gl
noncomputable def P_oinit:List Str:=["self","signatures","kinds","items","numbers"]
noncomputable def specs:List FnSpec:=[W_all_of,W_united,W_names_init,W_fresh,W_rel,W_owners,W_places,W_named,W_arity,W_arity_rel,W_spend,W_measured,W_used,W_form,W_form_of_call,W_value,W_begun,W_call_of,W_call_env,W_truth,W_truth_of,W_compared,W_decls_of,W_quantified,W_expr,W_expr_of,W_wanted,W_called_expr,W_is_marked,W_bounded,W_set_of,W_union,W_minus,W_is_within,W_join,W_eval_init,W_opened,W_ev_set_of,W_of_two,W_ev_truth,W_has_many,W_sigs_init,W_take_sig,W_look_above,W_direct,W_parents_first,W_all_fields,W_look_fields,W_has,W_parent,W_supers,W_is_subset,W_all_above,W_fields,W_orders,W_draw,W_lset,W_ltruth,W_ldecl,W_lnode,W_lwith,W_lvalue,W_lgoal,W_linst]
structure KFull (P:PW) (K:Frag):Prop extends KOk P K where
 sp:∀ s ∈ specs,FnOk K s
 oi:∃ fd cc,SupStatic P K 225 fd P_oinit (bodyOf (stmtIn 19 0)) [] cc 470 470 137
 la:FnOk K W_law
noncomputable def tab:List (Addr × (Orc -> List PV -> Gs -> WP PV)):=(225,supF 470 137 5 W_oargs.1 W_oinit.1) :: specs.map fun s=>(s.f,s.F)
noncomputable def callIn (o:Orc) (f:Addr) (args:List PV) (G:Gs) (Q:PV -> Gs -> Prop):Prop:=match tab.lookup f with | some F=>F o args G Q | none=>False
noncomputable def orcS:Nat -> Orc
 | 0=>⟨fun zq zq zq zq=>False,fun zq zq zq zq=>False⟩
 | n + 1=>⟨callIn (orcS n),(orcS n).c⟩
theorem orc_ne:Nonempty {f:Nat -> Orc // f = orcS}:=⟨⟨orcS,rfl⟩⟩
@[irreducible] noncomputable def orc:Nat -> Orc:=(Classical.choice orc_ne).1
theorem orc_eq:orc = orcS:=by unfold orc; exact (Classical.choice orc_ne).2
theorem orc_zero:orc 0 = ⟨fun zq zq zq zq=>False,fun zq zq zq zq=>False⟩:=by rw [orc_eq]; rfl
theorem orc_succ (n:Nat):orc (n + 1) = ⟨callIn (orc n),(orc n).c⟩:=by rw [orc_eq]; rfl
section
variable {n:Nat} {f:Addr} {a:List PV} {G:Gs} {Q:PV -> Gs -> Prop}
theorem orc_c (s:FnSpec) (e:tab.lookup s.f = some s.F) (h:fnF s.np (s.vs.length - s.np) s.d (orc n) a G Q):(orc (n + 1)).c s.f a G Q:=by rw [orc_succ]; show callIn _ _ _ _ _; unfold callIn; rw [e]; exact h
theorem c_all_of (h:fnF 1 0 W_all_of.d (orc n) a G Q):(orc (n + 1)).c 116 a G Q:=orc_c W_all_of rfl h
theorem c_united (h:fnF 1 2 W_united.d (orc n) a G Q):(orc (n + 1)).c 123 a G Q:=orc_c W_united rfl h
theorem c_names_init (h:fnF 5 1 W_names_init.d (orc n) a G Q):(orc (n + 1)).c 137 a G Q:=orc_c W_names_init rfl h
theorem c_fresh (h:fnF 2 0 W_fresh.d (orc n) a G Q):(orc (n + 1)).c 144 a G Q:=orc_c W_fresh rfl h
theorem c_rel (h:fnF 2 0 W_rel.d (orc n) a G Q):(orc (n + 1)).c 151 a G Q:=orc_c W_rel rfl h
theorem c_owners (h:fnF 2 0 W_owners.d (orc n) a G Q):(orc (n + 1)).c 156 a G Q:=orc_c W_owners rfl h
theorem c_places (h:fnF 2 2 W_places.d (orc n) a G Q):(orc (n + 1)).c 166 a G Q:=orc_c W_places rfl h
theorem c_named (h:fnF 3 3 W_named.d (orc n) a G Q):(orc (n + 1)).c 171 a G Q:=orc_c W_named rfl h
theorem c_arity (h:fnF 2 1 W_arity.d (orc n) a G Q):(orc (n + 1)).c 197 a G Q:=orc_c W_arity rfl h
theorem c_arity_rel (h:fnF 2 1 W_arity_rel.d (orc n) a G Q):(orc (n + 1)).c 202 a G Q:=orc_c W_arity_rel rfl h
theorem c_spend (h:fnF 3 0 W_spend.d (orc n) a G Q):(orc (n + 1)).c 232 a G Q:=orc_c W_spend rfl h
theorem c_measured (h:fnF 3 4 W_measured.d (orc n) a G Q):(orc (n + 1)).c 239 a G Q:=orc_c W_measured rfl h
theorem c_used (h:fnF 3 2 W_used.d (orc n) a G Q):(orc (n + 1)).c 246 a G Q:=orc_c W_used rfl h
theorem c_form (h:fnF 3 5 W_form.d (orc n) a G Q):(orc (n + 1)).c 253 a G Q:=orc_c W_form rfl h
theorem c_form_of_call (h:fnF 2 0 W_form_of_call.d (orc n) a G Q):(orc (n + 1)).c 260 a G Q:=orc_c W_form_of_call rfl h
theorem c_value (h:fnF 3 1 W_value.d (orc n) a G Q):(orc (n + 1)).c 267 a G Q:=orc_c W_value rfl h
theorem c_begun (h:fnF 3 2 W_begun.d (orc n) a G Q):(orc (n + 1)).c 281 a G Q:=orc_c W_begun rfl h
theorem c_call_of (h:fnF 3 2 W_call_of.d (orc n) a G Q):(orc (n + 1)).c 288 a G Q:=orc_c W_call_of rfl h
theorem c_call_env (h:fnF 4 3 W_call_env.d (orc n) a G Q):(orc (n + 1)).c 293 a G Q:=orc_c W_call_env rfl h
theorem c_truth (h:fnF 3 1 W_truth.d (orc n) a G Q):(orc (n + 1)).c 300 a G Q:=orc_c W_truth rfl h
theorem c_truth_of (h:fnF 3 8 W_truth_of.d (orc n) a G Q):(orc (n + 1)).c 305 a G Q:=orc_c W_truth_of rfl h
theorem c_compared (h:fnF 3 5 W_compared.d (orc n) a G Q):(orc (n + 1)).c 319 a G Q:=orc_c W_compared rfl h
theorem c_decls_of (h:fnF 3 11 W_decls_of.d (orc n) a G Q):(orc (n + 1)).c 324 a G Q:=orc_c W_decls_of rfl h
theorem c_quantified (h:fnF 5 4 W_quantified.d (orc n) a G Q):(orc (n + 1)).c 331 a G Q:=orc_c W_quantified rfl h
theorem c_expr (h:fnF 3 1 W_expr.d (orc n) a G Q):(orc (n + 1)).c 338 a G Q:=orc_c W_expr rfl h
theorem c_expr_of (h:fnF 3 8 W_expr_of.d (orc n) a G Q):(orc (n + 1)).c 345 a G Q:=orc_c W_expr_of rfl h
theorem c_wanted (h:fnF 4 1 W_wanted.d (orc n) a G Q):(orc (n + 1)).c 371 a G Q:=orc_c W_wanted rfl h
theorem c_called_expr (h:fnF 5 1 W_called_expr.d (orc n) a G Q):(orc (n + 1)).c 378 a G Q:=orc_c W_called_expr rfl h
theorem c_is_marked (h:fnF 2 0 W_is_marked.d (orc n) a G Q):(orc (n + 1)).c 399 a G Q:=orc_c W_is_marked rfl h
theorem c_bounded (h:fnF 4 1 W_bounded.d (orc n) a G Q):(orc (n + 1)).c 406 a G Q:=orc_c W_bounded rfl h
theorem c_set_of (h:fnF 1 0 W_set_of.d (orc n) a G Q):(orc (n + 1)).c 477 a G Q:=orc_c W_set_of rfl h
theorem c_union (h:fnF 2 0 W_union.d (orc n) a G Q):(orc (n + 1)).c 494 a G Q:=orc_c W_union rfl h
theorem c_minus (h:fnF 2 1 W_minus.d (orc n) a G Q):(orc (n + 1)).c 504 a G Q:=orc_c W_minus rfl h
theorem c_is_within (h:fnF 2 0 W_is_within.d (orc n) a G Q):(orc (n + 1)).c 511 a G Q:=orc_c W_is_within rfl h
theorem c_join (h:fnF 2 2 W_join.d (orc n) a G Q):(orc (n + 1)).c 521 a G Q:=orc_c W_join rfl h
theorem c_eval_init (h:fnF 3 0 W_eval_init.d (orc n) a G Q):(orc (n + 1)).c 569 a G Q:=orc_c W_eval_init rfl h
theorem c_opened (h:fnF 3 8 W_opened.d (orc n) a G Q):(orc (n + 1)).c 576 a G Q:=orc_c W_opened rfl h
theorem c_ev_set_of (h:fnF 3 1 W_ev_set_of.d (orc n) a G Q):(orc (n + 1)).c 581 a G Q:=orc_c W_ev_set_of rfl h
theorem c_of_two (h:fnF 4 0 W_of_two.d (orc n) a G Q):(orc (n + 1)).c 595 a G Q:=orc_c W_of_two rfl h
theorem c_ev_truth (h:fnF 3 4 W_ev_truth.d (orc n) a G Q):(orc (n + 1)).c 605 a G Q:=orc_c W_ev_truth rfl h
theorem c_has_many (h:fnF 3 0 W_has_many.d (orc n) a G Q):(orc (n + 1)).c 619 a G Q:=orc_c W_has_many rfl h
theorem c_sigs_init (h:fnF 2 2 W_sigs_init.d (orc n) a G Q):(orc (n + 1)).c 640 a G Q:=orc_c W_sigs_init rfl h
theorem c_take_sig (h:fnF 2 1 W_take_sig.d (orc n) a G Q):(orc (n + 1)).c 647 a G Q:=orc_c W_take_sig rfl h
theorem c_look_above (h:fnF 2 1 W_look_above.d (orc n) a G Q):(orc (n + 1)).c 654 a G Q:=orc_c W_look_above rfl h
theorem c_direct (h:fnF 2 0 W_direct.d (orc n) a G Q):(orc (n + 1)).c 661 a G Q:=orc_c W_direct rfl h
theorem c_parents_first (h:fnF 1 3 W_parents_first.d (orc n) a G Q):(orc (n + 1)).c 666 a G Q:=orc_c W_parents_first rfl h
theorem c_all_fields (h:fnF 1 9 W_all_fields.d (orc n) a G Q):(orc (n + 1)).c 673 a G Q:=orc_c W_all_fields rfl h
theorem c_look_fields (h:fnF 1 8 W_look_fields.d (orc n) a G Q):(orc (n + 1)).c 680 a G Q:=orc_c W_look_fields rfl h
theorem c_has (h:fnF 2 0 W_has.d (orc n) a G Q):(orc (n + 1)).c 699 a G Q:=orc_c W_has rfl h
theorem c_parent (h:fnF 2 0 W_parent.d (orc n) a G Q):(orc (n + 1)).c 713 a G Q:=orc_c W_parent rfl h
theorem c_supers (h:fnF 2 0 W_supers.d (orc n) a G Q):(orc (n + 1)).c 720 a G Q:=orc_c W_supers rfl h
theorem c_is_subset (h:fnF 2 0 W_is_subset.d (orc n) a G Q):(orc (n + 1)).c 727 a G Q:=orc_c W_is_subset rfl h
theorem c_all_above (h:fnF 2 3 W_all_above.d (orc n) a G Q):(orc (n + 1)).c 755 a G Q:=orc_c W_all_above rfl h
theorem c_fields (h:fnF 1 0 W_fields.d (orc n) a G Q):(orc (n + 1)).c 776 a G Q:=orc_c W_fields rfl h
theorem c_orders (h:fnF 1 0 W_orders.d (orc n) a G Q):(orc (n + 1)).c 790 a G Q:=orc_c W_orders rfl h
theorem c_draw (h:fnF 2 1 W_draw.d (orc n) a G Q):(orc (n + 1)).c 804 a G Q:=orc_c W_draw rfl h
theorem c_lset (h:fnF 4 2 W_lset.d (orc n) a G Q):(orc (n + 1)).c 811 a G Q:=orc_c W_lset rfl h
theorem c_ltruth (h:fnF 4 3 W_ltruth.d (orc n) a G Q):(orc (n + 1)).c 818 a G Q:=orc_c W_ltruth rfl h
theorem c_ldecl (h:fnF 1 0 W_ldecl.d (orc n) a G Q):(orc (n + 1)).c 825 a G Q:=orc_c W_ldecl rfl h
theorem c_lnode (h:fnF 1 4 W_lnode.d (orc n) a G Q):(orc (n + 1)).c 832 a G Q:=orc_c W_lnode rfl h
theorem c_lwith (h:fnF 3 1 W_lwith.d (orc n) a G Q):(orc (n + 1)).c 839 a G Q:=orc_c W_lwith rfl h
theorem c_lvalue (h:fnF 3 7 W_lvalue.d (orc n) a G Q):(orc (n + 1)).c 844 a G Q:=orc_c W_lvalue rfl h
theorem c_lgoal (h:fnF 1 3 W_lgoal.d (orc n) a G Q):(orc (n + 1)).c 849 a G Q:=orc_c W_lgoal rfl h
theorem c_linst (h:fnF 3 2 W_linst.d (orc n) a G Q):(orc (n + 1)).c 854 a G Q:=orc_c W_linst rfl h
theorem c_oinit (h:supF 470 137 5 W_oargs.1 W_oinit.1 (orc n) a G Q):(orc (n + 1)).c 225 a G Q:=by rw [orc_succ]; exact h
end
section
variable {P:PW} {K:Frag}
theorem fn_ok (kk:KOk P K) {s:FnSpec} (h:FnOk K s) {o:Orc} {n:Nat} (con:Contract P K o.c n) (con':Lower P K o.i n):FOK P K (n + 1) s.f (s.F o):=by
 obtain ⟨h1,fd,st⟩:=h
 have:=fn_entry st con con' kk s.ok
 rw [h1] at this
 exact this
theorem oinit_ok (kk:KFull P K) {o:Orc} {n:Nat} (con:Contract P K o.c n) (con':Lower P K o.i n):FOK P K (n + 1) 225 (supF 470 137 5 W_oargs.1 W_oinit.1 o):=by
 obtain ⟨fd,cc,st⟩:=kk.oi
 exact super_entry (gl:=[]) st con con' kk.toKOk (by with_unfolding_all exact fun zq=>rfl) (by with_unfolding_all exact fun zq=>⟨_,rfl⟩) (by with_unfolding_all exact fun zq=>rfl) (by with_unfolding_all exact fun zq=>rfl) W_oargs.2 W_oinit.2
theorem tab_ok (kk:KFull P K) {o:Orc} {n:Nat} (con:Contract P K o.c n) (con':Lower P K o.i n) {f:Addr} {F:Orc -> List PV -> Gs -> WP PV} (h:(f,F) ∈ tab):FOK P K (n + 1) f (F o):=by
 cases h with
 | head=>exact oinit_ok kk con con'
 | tail _ h =>
  obtain ⟨s,hs,e⟩:=List.mem_map.mp h
  cases e
  exact fn_ok kk.toKOk (kk.sp s hs) con con'
theorem call_ok (kk:KFull P K) {o:Orc} {n:Nat} (con:Contract P K o.c n) (con':Lower P K o.i n):Contract P K (callIn o) (n + 1):=fun f args G Q h=>by
 unfold callIn at h
 cases q:tab.lookup f with
 | none=>rw [q] at h; exact h.elim
 | some F=>rw [q] at h; exact tab_ok kk con con' (lookup_memA q) args G Q h
structure OrcOk (P:PW) (K:Frag) (o:Orc) (n:Nat):Prop where
 c:Contract P K o.c n
 i:Lower P K o.i n
theorem orc_ok (kk:KFull P K):∀ n,OrcOk P K (orc n) n
 | 0=>by rw [orc_zero]; exact ⟨fun zq zq zq zq h=>h.elim,fun zq zq zq zq h=>h.elim⟩
 | n + 1=>by rw [orc_succ]; exact ⟨call_ok kk (orc_ok kk n).c (orc_ok kk n).i,fun zq zq zq zq zq=>⟨n,rfl,(orc_ok kk n).c⟩⟩
theorem law_ok (kk:KFull P K) (n:Nat):FOK P K (n + 1) 859 (W_law.F (orc n)):=fn_ok (s:=W_law) kk.toKOk kk.la (orc_ok kk n).c (orc_ok kk n).i
end
end
section
mutual
inductive ST where
 | name (v:Bool)
 | whole
 | led (s:ST)
 | both (s t:ST)
 | g (s t:ST) (k:Bool)
 | those (v:Bool) (f:TT)
inductive TT where
 | isin (s t:ST)
 | some (s:ST)
 | not (f:TT)
 | or (f g:TT)
 | call (q:Bool) (s t:ST) (k:Bool)
 | quant (any:Bool) (v:Bool) (f:TT)
end
noncomputable def vn (v:Bool):Nm:=cond v k_y k_x
noncomputable def bi (k:Bool):PV:=.int (if k then 1 else 0)
noncomputable def ws (q:Bool):Nm:=cond q k_q k_p
noncomputable def qst (a:Bool):Nm:=cond a k_any k_each
mutual
noncomputable def tS:ST -> PV
 | .name v=>.tup [.str k_name,.str (vn v)]
 | .whole=>.tup [.str k_whole]
 | .led s=>.tup [.str k_led,tS s]
 | .both s t=>.tup [.str k_both,tS s,tS t]
 | .g s t k=>.tup [.str k_g,tS s,tS t,bi k]
 | .those v f=>.tup [.str k_those,.str (vn v),tT f]
noncomputable def tT:TT -> PV
 | .isin s t=>.tup [.str k_in,tS s,tS t]
 | .some s=>.tup [.str k_some,tS s]
 | .not f=>.tup [.str k_not,tT f]
 | .or f g=>.tup [.str k_or,tT f,tT g]
 | .call q s t k=>.tup [.str (ws q),tS s,tS t,bi k]
 | .quant a v f=>.tup [.str (qst a),.str (vn v),tT f]
end
noncomputable def nodeA:PV:=.tup [.str k_name,.int 0,.str k_A]
noncomputable abbrev ndn (s:Nm):PV:=.tup [.str k_name,.int 0,.str s]
noncomputable def decl (v:Bool):PV:=.tup [.tup [.int 0,.bool false,.tup [.str (vn v)],.str k_0,nodeA]]
noncomputable def ndc (w:Nm) (a b:PV) (k:Bool):PV:=if k then .tup [.str k_box,.int 0,.tup [.str k_bin,.int 0,.str kx_2e,a,ndn w],.tup [b]] else .tup [.str k_box,.int 0,ndn w,.tup [a,b]]
mutual
noncomputable def nS:ST -> PV
 | .name v=>ndn (vn v)
 | .whole=>ndn k_A
 | .led s=>.tup [.str k_bin,.int 0,.str kx_2e,nS s,ndn k_f]
 | .both s t=>.tup [.str k_bin,.int 0,.str kx_2b,nS s,nS t]
 | .g s t k=>ndc k_g (nS s) (nS t) k
 | .those v f=>.tup [.str k_compr,.int 0,decl v,nT f]
noncomputable def nT:TT -> PV
 | .isin s t=>.tup [.str k_bin,.int 0,.str k_in,nS s,nS t]
 | .some s=>.tup [.str k_un,.int 0,.str k_some,nS s]
 | .not f=>.tup [.str k_un,.int 0,.str kx_21,nT f]
 | .or f g=>.tup [.str k_bin,.int 0,.str kx_7c7c,nT f,nT g]
 | .call q s t k=>ndc (ws q) (nS s) (nS t) k
 | .quant a v f=>.tup [.str k_quant,.int 0,.str (cond a k_some k_all),decl v,nT f]
end
structure Md where
 gp:Bool
 pp:Bool
 qp:Bool
 g:ST
 p:TT
 q:TT
noncomputable def parP (b:Bool):PV:=.tup [.str (vn b),.str (vn !b)]
noncomputable def given (b:Bool):PV:=.tup [.tup [.int 0,.bool false,parP b,.str k_0,nodeA]]
noncomputable def itemG (M:Md):PV:=.tup [.str k_fun,.int 0,.str k_g,given M.gp,.str k_set,nodeA,nS M.g]
noncomputable def itemP (M:Md) (q:Bool):PV:=.tup [.str k_pred,.int 0,.str (ws q),given (if q then M.qp else M.pp),.tup [nT (if q then M.q else M.p)]]
noncomputable def callsL (M:Md):List (Nm × PV):=[(k_g,itemG M),(k_p,itemP M false),(k_q,itemP M true)]
structure OS where
 sp:Int
 ht:Int
 pk:Int
 ct:Int
noncomputable def opF (items:PV) (s:OS):List (Nm × PV):=[(k_signatures,.reg 2),(k_kinds,.none),(k_items,items),(k_numbers,.dct [(k_A,.int 0),(kx_412e66,.int 1)]),(k_calls,.reg 7),(k_count,.int s.ct),(k_spent,.int s.sp),(k_height,.int s.ht),(k_peak,.int s.pk)]
noncomputable def itemSig:PV:=.tup [.str k_sig,.int 0,.tup [.str k_A],.bool false,.str k_0,.str k_0,.tup [],.tup [.tup [.int 0,.bool false,.tup [.str k_f],.str k_set,nodeA]],.tup []]
noncomputable def fieldT:PV:=.tup [.str k_f,.str k_A,.str k_set,nodeA,.int 0,.int (-1)]
noncomputable def sigF:List (Nm × PV):=[(k_entries,.reg 3),(k_stands,.reg 4),(k_opened,.reg 5),(k_ordered,.lst [.str k_A]),(k_own_fields,.lst [fieldT])]
structure OG where
 fd:List (Nm × PV)
 md:List (Nm × PV)
 items:PV
 M:Md
 tl:Gs
noncomputable def gO (c:OG) (s:OS):Gs:=.dict c.fd :: .dict c.md :: .inst cSigs sigF :: .dict [(k_A,itemSig)] :: .list [.str k_A] :: .list [] :: .inst cOpener (opF c.items s) :: .dict (callsL c.M) :: c.tl
noncomputable def Ev (n:Nat) (f:Addr) (a:List PV) (G:Gs) (r:PV) (G':Gs):Prop:=∀ Q:PV -> Gs -> Prop,Q r G' -> (orc n).c f a G Q
theorem cT {b:Bool} {P R:Prop} (e:b = true) (h:P):cond b P R:=by subst e; exact h
theorem cF {b:Bool} {P R:Prop} (e:b = false) (h:R):cond b P R:=by subst e; exact h
section
variable {G:Gs} {α β:Type} {o:Orc} {da:DA} {dt:DB} {de:DE} {c f:α -> PV} {P:α -> Bool} {F:β -> Fr} {g:α -> β} {K:List PV -> Fr -> Gs -> Prop} (hd:∀ a x (K:Fr -> Gs -> Prop),K (F (g a)) G -> da o (c a) (F x) G K)
include hd
theorem fold_gen (L:List α) (acc:List PV) (x:β) (ht:∀ a ∈ L,∀ K:Bool -> Gs -> Prop,K (P a) G -> dt o (F (g a)) G K) (he:∀ a ∈ L,∀ K:PV -> Gs -> Prop,K (f a) G -> de o (F (g a)) G K) (hl:acc.length + L.length <= 1000) (q:∀ x,K (acc ++ (L.filter P).map f) (F x) G):foldC (dStep o da dt (dNext o de [])) (L.map c) acc (F x) G K:=by
 induction L generalizing acc x with
 | nil=>have:=q x; rw [List.filter_nil,List.map_nil,List.append_nil] at this; exact this
 | cons a L ih =>
  have ht':=fun b hb=>ht b (.tail _ hb)
  have he':=fun b hb=>he b (.tail _ hb)
  refine hd a x _ (ht a (.head _) _ ?_)
  cases e:P a with
  | true =>
   rw [List.filter_cons_of_pos e,List.map_cons,<- List.singleton_append,<- List.append_assoc] at q
   exact he a (.head _) _ (bq.mk (decide_eq_true (Nat.le_trans (Nat.le_add_right _ _) hl)) (ih _ _ ht' he' (by rw [List.length_append,List.length_singleton,Nat.add_assoc,Nat.add_comm 1]; exact hl) q))
  | false =>
   rw [List.filter_cons_of_neg (by rw [e]; decide)] at q
   exact ih _ _ ht' he' (Nat.le_trans (Nat.add_le_add_left (Nat.le_succ _) _) hl) q
theorem fold_mapA (L:List α) (acc:List PV) (x:β) (he:∀ a ∈ L,∀ K:PV -> Gs -> Prop,K (f a) G -> de o (F (g a)) G K) (hl:acc.length + L.length <= 1000) (q:∀ x,K (acc ++ L.map f) (F x) G):foldC (dStep o da dTrue (dNext o de [])) (L.map c) acc (F x) G K :=
 fold_gen (P:=fun zq=>true) hd L acc x (fun zq zq zq h=>h) he hl fun x=>by rw [List.filter_eq_self.mpr fun zq zq=>rfl]; exact q x
theorem fold_map (L:List α) (x:β) (he:∀ a ∈ L,∀ K:PV -> Gs -> Prop,K (f a) G -> de o (F (g a)) G K) (hl:L.length <= 1000) (q:∀ x,K (L.map f) (F x) G):foldC (dStep o da dTrue (dNext o de [])) (L.map c) [] (F x) G K :=
 fold_mapA hd L [] x he (Nat.le_trans (Nat.le_of_eq (Nat.zero_add _)) hl) q
end
end
section
variable {c:OG} {n:Nat} {s:OS}
theorem has_ok (x:Nm):Ev (n + 1) 699 [.reg 2,.str x] (gO c s) (.bool ((k_A == x) || false)) (gO c s):=fun Q h=>c_has h
theorem fields_ok:Ev (n + 1) 776 [.reg 2] (gO c s) (.lst [fieldT]) (gO c s):=fun Q h=>c_fields h
theorem orders_ok:Ev (n + 1) 790 [.reg 2] (gO c s) (.lst []) (gO c s):=fun Q h=>c_orders h
theorem relA_ok:Ev (n + 1) 151 [.reg 6,.str k_A] (gO c s) (.tup [.str k_rel,.int 0]) (gO c s):=fun Q h=>c_rel h
theorem relF_ok:Ev (n + 1) 151 [.reg 6,.str kx_412e66] (gO c s) (.tup [.str k_rel,.int 1]) (gO c s):=fun Q h=>c_rel h
theorem owners_A:Ev (n + 2) 156 [.reg 6,.str k_A] (gO c s) (.lst []) (gO c s):=fun Q h=>c_owners (fields_ok _ h)
theorem owners_f:Ev (n + 2) 156 [.reg 6,.str k_f] (gO c s) (.lst [.str k_A]) (gO c s):=fun Q h=>c_owners (fields_ok _ h)
theorem owners_g:Ev (n + 2) 156 [.reg 6,.str k_g] (gO c s) (.lst []) (gO c s):=fun Q h=>c_owners (fields_ok _ h)
theorem owners_w (q:Bool):Ev (n + 2) 156 [.reg 6,.str (ws q)] (gO c s) (.lst []) (gO c s):=fun Q h=>c_owners (fields_ok _ (by cases q <;> exact h))
theorem spend_ok {a b:Int} (h1:s.sp + a <= 20000) (h2:s.ht + b <= 100):Ev (n + 1) 232 [.reg 6,.int a,.int b] (gO c s) .none (gO c { s with sp:=s.sp + a,pk:=cond (decide (s.pk < s.ht + b)) (s.ht + b) s.pk }):=fun Q h =>
 c_spend (cF (decide_eq_false (Int.not_lt.mpr h1)) (cF (decide_eq_false (Int.not_lt.mpr h2)) h))
theorem places_A:Ev (n + 3) 166 [.reg 6,.str k_A] (gO c s) (.int (-1)) (gO c s):=fun Q h=>c_places (has_ok _ _ h)
theorem places_f:Ev (n + 3) 166 [.reg 6,.str k_f] (gO c s) (.int (-1)) (gO c s):=fun Q h=>c_places (has_ok _ _ (owners_f _ h))
inductive W3 | g | p | q
noncomputable def W3.tx:W3 -> Nm | .g=>k_g | .p=>k_p | .q=>k_q
theorem owners_wd (w:W3):Ev (n + 2) 156 [.reg 6,.str w.tx] (gO c s) (.lst []) (gO c s):=fun Q h=>c_owners (fields_ok _ (by cases w <;> exact h))
theorem places_wd (w:W3):Ev (n + 3) 166 [.reg 6,.str w.tx] (gO c s) (.int 2) (gO c s):=fun Q h=>c_places (has_ok _ _ (by cases w <;> exact owners_wd _ _ h))
noncomputable abbrev hasK (l:List (Nm × PV)) (k:Nm):Bool:=l.any fun e=>e.1 == k
structure EnvN (l:List (Nm × PV)):Prop where
 A:hasK l k_A = false
 f:hasK l k_f = false
 w:∀ w:W3,hasK l w.tx = false
theorem cNF {b:Bool} {P R:Prop} (e:b = false) (h:P):cond (!b) P R:=by subst e; exact h
end
section
variable {c:OG} {n:Nat} {s:OS}
section
variable {l:List (Nm × PV)} (hE:EnvN l)
include hE
theorem begun_A:Ev (n + 4) 281 [.reg 6,ndn k_A,.dct l] (gO c s) (.tup [.str k_0,.tup []]) (gO c s):=fun Q h=>c_begun (cNF hE.A (places_A _ h))
theorem begun_f:Ev (n + 4) 281 [.reg 6,ndn k_f,.dct l] (gO c s) (.tup [.str k_0,.tup []]) (gO c s):=fun Q h=>c_begun (cNF hE.f (places_f _ h))
theorem begun_wd (w:W3):Ev (n + 4) 281 [.reg 6,ndn w.tx,.dct l] (gO c s) (.tup [.str w.tx,.tup []]) (gO c s):=fun Q h=>c_begun (cNF (hE.w w) (places_wd w _ h))
theorem begun_led (a:PV):Ev (n + 5) 281 [.reg 6,.tup [.str k_bin,.int 0,.str kx_2e,a,ndn k_f],.dct l] (gO c s) (.tup [.str k_0,.tup []]) (gO c s):=fun Q h=>c_begun (begun_f hE _ h)
theorem begun_both (a b:PV):Ev (n + 5) 281 [.reg 6,.tup [.str k_bin,.int 0,.str kx_2b,a,b],.dct l] (gO c s) (.tup [.str k_0,.tup []]) (gO c s):=fun Q h=>c_begun h
theorem begun_compr (a b:PV):Ev (n + 5) 281 [.reg 6,.tup [.str k_compr,.int 0,a,b],.dct l] (gO c s) (.tup [.str k_0,.tup []]) (gO c s):=fun Q h=>c_begun h
theorem begun_pt (w:W3) (a:PV):Ev (n + 5) 281 [.reg 6,.tup [.str k_bin,.int 0,.str kx_2e,a,ndn w.tx],.dct l] (gO c s) (.tup [.str w.tx,.tup [a]]) (gO c s):=fun Q h=>c_begun (begun_wd hE w _ (by cases w <;> exact places_wd _ _ h))
theorem begun_call (w:W3) (a b:PV) (k:Bool):Ev (n + 6) 281 [.reg 6,ndc w.tx a b k,.dct l] (gO c s) (.tup [.str w.tx,.tup [a,b]]) (gO c s):=fun Q h=>by
 cases k
 ·exact c_begun (begun_wd hE w _ (by cases w <;> exact places_wd _ _ h))
 ·exact c_begun (begun_pt hE w _ _ (by cases w <;> exact places_wd _ _ h))
end
end
section
mutual
inductive CE where
 | A
 | var (v:Bool) (k:Int)
 | join (e:CE)
 | union (a b:CE)
 | comp (v:Bool) (k:Int) (f:CF)
inductive CF where
 | isin (a b:CE)
 | some (e:CE)
 | not (f:CF)
 | or (f g:CF)
 | quant (a:Bool) (v:Bool) (k:Int) (f:CF)
end
noncomputable def fr (v:Bool) (k:Int):Nm:=vn v ++ kx_27 ++ nm (toString k)
noncomputable abbrev relA:PV:=.tup [.str k_rel,.int 0]
noncomputable abbrev relF:PV:=.tup [.str k_rel,.int 1]
noncomputable def told (v:Bool) (k:Int):PV:=.tup [.tup [.str (fr v k),relA]]
mutual
noncomputable def pE:CE -> PV
 | .A=>relA
 | .var v k=>.tup [.str k_var,.str (fr v k)]
 | .join e=>.tup [.str k_join,pE e,relF]
 | .union a b=>.tup [.str k_union,pE a,pE b]
 | .comp v k f=>.tup [.str k_comp,told v k,pF f]
noncomputable def pF:CF -> PV
 | .isin a b=>.tup [.str k_in,pE a,pE b]
 | .some e=>.tup [.str k_some,pE e]
 | .not f=>.tup [.str k_not,pF f]
 | .or f g=>.tup [.str k_or,.tup [pF f,pF g]]
 | .quant a v k f=>.tup [.str (cond a k_exists k_all),told v k,pF f]
end
variable {c:OG} {n:Nat} {s:OS} {G:Gs}
theorem all_of_ok (p:PV):Ev (n + 1) 116 [.lst [p]] G p G:=fun Q h=>c_all_of h
theorem united_ok (p:PV):Ev (n + 1) 123 [.lst [p]] G p G:=fun Q h=>c_united h
theorem named_A (i:Int):Ev (n + 3) 171 [.reg 6,.str k_A,.int i] (gO c s) relA (gO c s):=fun Q h=>c_named (has_ok _ _ (relA_ok _ h))
theorem named_f (i:Int):Ev (n + 3) 171 [.reg 6,.str k_f,.int i] (gO c s) relF (gO c s):=fun Q h=>c_named (has_ok _ _ (owners_f _ (relF_ok _ (united_ok _ _ h))))
theorem arity_rel_A:Ev (n + 3) 202 [.reg 6,.int 0] (gO c s) (.int 1) (gO c s):=fun Q h=>c_arity_rel (fields_ok _ (orders_ok _ h))
theorem arity_A:Ev (n + 4) 197 [.reg 6,relA] (gO c s) (.int 1) (gO c s):=fun Q h=>c_arity (arity_rel_A _ h)
end
section
theorem nm_inj {a b:String} (h:nm a = nm b):a = b:=by
 unfold nm at h
 have inj:∀ {l m:List Char},l.map Char.toNat = m.map Char.toNat -> l = m:=by
  intro l
  induction l with
  | nil=>intro m h; cases m with | nil=>rfl | cons=>cases h
  | cons x l ih =>
   intro m h
   cases m with
   | nil=>cases h
   | cons y m=>obtain ⟨h1,h2⟩:=List.cons.inj h; rw [ih h2,Char.ext (UInt32.toNat_inj.mp h1)]
 exact String.toList_inj.mp (inj h)
theorem fr_inj {v w:Bool} {k j:Int} (h:fr v k = fr w j):k = j:=by
 have e:∀ v k,List.drop 2 (fr v k) = nm (toString k):=by intro v k; cases v <;> rfl
 have h2:=congrArg (List.drop 2) h
 rw [e,e] at h2
 exact Int.repr_inj.mp (nm_inj h2)
theorem fr_injv {v w:Bool} {k j:Int} (h:fr v k = fr w j):v = w:=by
 have h2:=congrArg (List.take 1) h
 have e:∀ v k,List.take 1 (fr v k) = vn v:=by intro v k; cases v <;> rfl
 rw [e,e] at h2
 cases v <;> cases w <;> first | rfl | exact absurd h2 (by decide)
theorem tos_len {k:Int} (h0:0 <= k) (h1:k < 1000000):(nm (toString k)).length <= 6:=by
 obtain ⟨m,rfl⟩:=Int.eq_ofNat_of_zero_le h0
 unfold nm
 rw [List.length_map]
 have:(toString (m:Int)).toList.length = m.repr.length:=by rw [<- String.length_toList]; rfl
 rw [this]
 exact (Nat.length_repr_le_iff (by omega)).mpr (by omega)
theorem txt_int {i:Int} (h:i.natAbs < 2 ^ 64):txt (.int i) = some (nm (toString i)):=by show cond _ _ _ = _; rw [decide_eq_true h]; rfl
theorem le0 {a b:Int} (h:a <= b):a + 0 <= b:=(Int.add_zero a).symm ▸ h
variable {c:OG} {n:Nat} {s s1 s2:OS} {G:Gs} {l:List (Nm × PV)}
theorem fresh_len {v:Bool} {k:Int} (h0:0 <= k) (h1:k < 1000000):decide ((vn v ++ kx_27).length + (nm (toString k)).length <= 1000000) = true:=decide_eq_true (Nat.le_trans (Nat.add_le_add_left (tos_len h0 h1) _) (by cases v <;> decide))
theorem fresh_ok (v:Bool) (h0:0 <= s.ct) (h1:s.ct < 900000):Ev (n + 1) 144 [.reg 6,.str (vn v)] (gO c s) (.str (fr v (s.ct + 1))) (gO c { s with ct:=s.ct + 1 }):=fun Q h=>by
 have e1:(s.ct + 1).natAbs < 2 ^ 64:=by omega
 have e2:0 <= s.ct + 1:=by omega
 have e3:s.ct + 1 < 1000000:=by omega
 cases v with
 | false=>exact c_fresh (oq.mk (txt_int e1) (bq.mk (fresh_len (v:=false) e2 e3) h))
 | true=>exact c_fresh (oq.mk (txt_int e1) (bq.mk (fresh_len (v:=true) e2 e3) h))
noncomputable def mx (a b:Int):Int:=cond (decide (a < b)) b a
noncomputable def OS.inn (s:OS):OS:={ s with sp:=s.sp + 1,ht:=s.ht + 1,pk:=mx s.pk (s.ht + 1 + 0) }
noncomputable def OS.out (s:OS):OS:={ s with ht:=s.ht - 1 }
noncomputable def OS.spd (s:OS) (a b:Int):OS:={ s with sp:=s.sp + a,pk:=mx s.pk (s.ht + b) }
theorem expr_step {nd env e:PV} (h1:s.sp + 1 <= 20000) (h2:s.ht + 1 <= 100) (h:Ev (n + 1) 345 [.reg 6,nd,env] (gO c s.inn) e (gO c s2)):Ev (n + 2) 338 [.reg 6,nd,env] (gO c s) e (gO c s2.out):=fun Q k =>
 c_expr (spend_ok (s:={ s with ht:=s.ht + 1 }) h1 (le0 h2) _ (h _ k))
theorem truth_step {nd env e:PV} (h1:s.sp + 1 <= 20000) (h2:s.ht + 1 <= 100) (h:Ev (n + 1) 305 [.reg 6,nd,env] (gO c s.inn) e (gO c s2)):Ev (n + 2) 300 [.reg 6,nd,env] (gO c s) e (gO c s2.out):=fun Q k =>
 c_truth (spend_ok (s:={ s with ht:=s.ht + 1 }) h1 (le0 h2) _ (h _ k))
theorem call_of_no {nd:PV} (h:Ev (n + 1) 281 [.reg 6,nd,.dct l] (gO c s) (.tup [.str k_0,.tup []]) (gO c s)):Ev (n + 2) 288 [.reg 6,nd,.dct l] (gO c s) (.tup [.str k_0,.tup []]) (gO c s):=fun Q k =>
 c_call_of (h _ k)
theorem call_of_call (he:EnvN l) (w:W3) (a b:PV) (k:Bool):Ev (n + 7) 288 [.reg 6,ndc w.tx a b k,.dct l] (gO c s) (.tup [.str w.tx,.tup [a,b]]) (gO c s):=fun Q h =>
 c_call_of (begun_call he w a b k _ (by cases w <;> exact places_wd _ _ h))
theorem eo_whole (he:EnvN l):Ev (n + 6) 345 [.reg 6,ndn k_A,.dct l] (gO c s) relA (gO c s):=fun Q h=>c_expr_of (cF he.A (call_of_no (begun_A he) _ (named_A _ _ h)))
theorem eo_f (he:EnvN l):Ev (n + 6) 345 [.reg 6,ndn k_f,.dct l] (gO c s) relF (gO c s):=fun Q h=>c_expr_of (cF he.f (call_of_no (begun_f he) _ (named_f _ _ h)))
theorem wanted_ok (e:CE):Ev (n + 1) 371 [.reg 6,pE e,.str k_set,.int 0] (gO c s) (pE e) (gO c s):=fun Q h=>by cases e <;> exact c_wanted h
theorem used_ok {v:Bool} {cl:List (Nm × PV)} {e:PV} {a b:Int} (hv:fd l (vn v) = some e) (hl:(fd l k_0).getD (.dct []) = .dct cl) (hc:(fd cl (vn v)).getD (.tup [.int 1,.int 1]) = .tup [.int a,.int b])
  (h1:s.sp + a <= 20000) (h2:s.ht + b <= 100):Ev (n + 2) 246 [.reg 6,.str (vn v),.dct l] (gO c s) e (gO c (s.spd a b)):=fun Q h=>by
 refine c_used ?_
 conv=>whnf
 rw [show (fd l k_0).getD (CV.d []).pv = .dct cl from hl]
 conv=>whnf
 rw [hc]
 exact spend_ok h1 h2 _ (oq.mk hv h)
theorem hasK_of {k:Nm} {e:PV} (h:fd l k = some e):hasK l k = true:=by unfold hasK; rw [<- fd_any,h]; rfl
theorem eo_name {v:Bool} {cl:List (Nm × PV)} {e:CE} {a b:Int} (hv:fd l (vn v) = some (pE e)) (hl:(fd l k_0).getD (.dct []) = .dct cl) (hc:(fd cl (vn v)).getD (.tup [.int 1,.int 1]) = .tup [.int a,.int b])
  (h1:s.sp + a <= 20000) (h2:s.ht + b <= 100):Ev (n + 3) 345 [.reg 6,ndn (vn v),.dct l] (gO c s) (pE e) (gO c (s.spd a b)):=fun Q h=>c_expr_of (cT (hasK_of hv) (used_ok hv hl hc h1 h2 _ (wanted_ok e _ h)))
theorem eo_led {a e:PV} (he:EnvN l) (h:Ev (n + 6) 338 [.reg 6,a,.dct l] (gO c s) e (gO c s1)) (hf:Ev (n + 6) 338 [.reg 6,ndn k_f,.dct l] (gO c s1) relF (gO c s2)) :
  Ev (n + 7) 345 [.reg 6,.tup [.str k_bin,.int 0,.str kx_2e,a,ndn k_f],.dct l] (gO c s) (.tup [.str k_join,e,relF]) (gO c s2):=fun Q k=>c_expr_of (call_of_no (begun_led he a) _ (h _ (hf _ k)))
theorem eo_both {a b e e2:PV} (he:EnvN l) (h:Ev (n + 6) 338 [.reg 6,a,.dct l] (gO c s) e (gO c s1)) (h2:Ev (n + 6) 338 [.reg 6,b,.dct l] (gO c s1) e2 (gO c s2)) :
  Ev (n + 7) 345 [.reg 6,.tup [.str k_bin,.int 0,.str kx_2b,a,b],.dct l] (gO c s) (.tup [.str k_union,e,e2]) (gO c s2):=fun Q k=>c_expr_of (call_of_no (begun_both he a b) _ (h _ (h2 _ k)))
end
section
noncomputable def OG.ext (c:OG) (X:Gs):OG:={ c with tl:=c.tl ++ X }
noncomputable def glen (c:OG):Nat:=c.tl.length + 8
variable {c:OG} {n:Nat} {s s1 s2:OS} {l:List (Nm × PV)} {X Y:Gs} {i m:Nat} {C:PV}
theorem gO_len:(gO c s).length = glen c:=rfl
theorem gO_eq:gO (c.ext X) s = gO c s ++ X:=rfl
theorem ext_get (i:Nat):(gO (c.ext X) s)[glen c + i]? = X[i]?:=by rw [gO_eq,<- gO_len (s:=s),List.getElem?_append_right (Nat.le_add_right _ _),Nat.add_sub_cancel_left]
theorem ext_set (i:Nat) {a:RA}:(gO (c.ext X) s).set (glen c + i) a = gO (c.ext (X.set i a)) s:=by
 have h:=List.set_append_right (s:=gO c s) (t:=X) (glen c + i) a (by rw [gO_len]; exact Nat.le_add_right _ _)
 rw [gO_len,Nat.add_sub_cancel_left] at h; exact h
theorem ext_take:(gO (c.ext X) s).take (gO c s).length = gO c s:=by rw [gO_eq]; exact List.take_left ..
theorem ext_drop:(gO (c.ext X) s).drop (gO c s).length = X:=by rw [gO_eq]; exact List.drop_left ..
theorem aT {a:Bool} (h:a = true):(a && true) = true:=by subst h; rfl
theorem aB {a b:Bool} (h:a = true) (k:b = true):(a && b) = true:=by subst h; exact k
noncomputable def Pure (p:PV):Prop:=∀ m,PV.lo m p = true
noncomputable def Pured (l:List (Nm × PV)):Prop:=∀ m,PV.lod m l = true
mutual
theorem nS_lo (m:Nat):∀ t:ST,PV.lo m (nS t) = true
 | .name v=>rfl
 | .whole=>rfl
 | .led s=>aT (nS_lo m s)
 | .both s t=>aB (nS_lo m s) (aT (nS_lo m t))
 | .g s t true=>aB (aT (nS_lo m s)) (aT (aT (nS_lo m t)))
 | .g s t false=>aT (aB (nS_lo m s) (aT (nS_lo m t)))
 | .those v f=>aT (nT_lo m f)
theorem nT_lo (m:Nat):∀ t:TT,PV.lo m (nT t) = true
 | .isin s t=>aB (nS_lo m s) (aT (nS_lo m t))
 | .some s=>aT (nS_lo m s)
 | .not f=>aT (nT_lo m f)
 | .or f g=>aB (nT_lo m f) (aT (nT_lo m g))
 | .call q s t true=>aB (aT (nS_lo m s)) (aT (aT (nS_lo m t)))
 | .call q s t false=>aT (aB (nS_lo m s) (aT (nS_lo m t)))
 | .quant a v f=>aT (nT_lo m f)
end
mutual
theorem pE_lo (m:Nat):∀ t:CE,PV.lo m (pE t) = true
 | .A=>rfl
 | .var _ _=>rfl
 | .join s=>aT (pE_lo m s)
 | .union s t=>aB (pE_lo m s) (aT (pE_lo m t))
 | .comp v k f=>aT (pF_lo m f)
theorem pF_lo (m:Nat):∀ t:CF,PV.lo m (pF t) = true
 | .isin s t=>aB (pE_lo m s) (aT (pE_lo m t))
 | .some s=>aT (pE_lo m s)
 | .not f=>aT (pF_lo m f)
 | .or f g=>aT (aB (pF_lo m f) (aT (pF_lo m g)))
 | .quant a v k f=>aT (pF_lo m f)
end
theorem lod_put1 {a:Nm} {p:PV} (hp:PV.lo m p = true):∀ l:List (Nm × PV),PV.lod m l = true -> PV.lod m (l.map fun e=>cond (e.1 == a) (e.1,p) e) = true
 | [],_=>rfl
 | (k,q) :: l,h=>by
  obtain ⟨h1,h2⟩:=Bool.and_eq_true_iff.mp h
  show PV.lod m (cond (k == a) (k,p) (k,q) :: _) = true
  cases k == a with
  | true=>exact aB hp (lod_put1 hp l h2)
  | false=>exact aB h1 (lod_put1 hp l h2)
theorem lod_put2 {a:Nm} {p:PV} (hp:PV.lo m p = true):∀ l:List (Nm × PV),PV.lod m l = true -> PV.lod m (l ++ [(a,p)]) = true
 | [],_=>aT hp
 | (k,q) :: l,h=>aB (Bool.and_eq_true_iff.mp h).1 (lod_put2 hp l (Bool.and_eq_true_iff.mp h).2)
theorem lod_put {a:Nm} {p:PV} (h:PV.lod m l = true) (hp:PV.lo m p = true):PV.lod m (putD l a p) = true:=by
 unfold putD
 cases l.any fun e=>e.1 == a with
 | true=>exact lod_put1 hp l h
 | false=>exact lod_put2 hp l h
theorem put_len {a:Nm} {p:PV}:(putD l a p).length = l.length + cond (hasK l a) 0 1:=by
 unfold putD hasK
 cases l.any fun e=>e.1 == a with
 | true=>exact List.length_map ..
 | false=>exact List.length_append
structure OG.ok (c:OG):Prop where
 fd:Pured c.fd
 md:Pured c.md
 items:Pure c.items
 tl:∀ m,c.tl.all (RA.lo m) = true
theorem par_lo {m k:Nat} (h:k < m):PV.lo m (.reg k) = true:=decide_eq_true h
theorem OG.ok.all (h:c.ok) (hm:8 <= m):(gO c s).all (RA.lo m) = true:=by
 have lt:∀ k,k < 8 -> PV.lo m (.reg k) = true:=fun k hk=>decide_eq_true (Nat.lt_of_lt_of_le hk hm)
 have r2:=lt 2 (by decide); have r3:=lt 3 (by decide); have r4:=lt 4 (by decide); have r5:=lt 5 (by decide); have r7:=lt 7 (by decide)
 have h5:PV.lod m (callsL c.M) = true:=aB (aT (nS_lo m c.M.g)) (aB (aT (aT (nT_lo m c.M.p))) (aT (aT (aT (nT_lo m c.M.q)))))
 exact aB (h.fd m) (aB (h.md m) (aB (aB r3 (aB r4 (aT r5))) (aB rfl (aB rfl (aB rfl (aB (aB r2 (aB rfl (aB (h.items m) (aB rfl (aB r7 rfl))))) (aB h5 (h.tl m))))))))
theorem OG.ok.ext (h:c.ok) (hx:∀ m,X.all (RA.lo m) = true):(c.ext X).ok :=
 ⟨h.fd,h.md,h.items,fun m=>by show (c.tl ++ X).all _ = true; rw [List.all_append,h.tl m,hx m]; rfl⟩
theorem glen_le:8 <= glen c:=Nat.le_add_left _ _
theorem Ev.go {f:Addr} {a:List PV} {G G2 G':Gs} {r:PV} {Q:PV -> Gs -> Prop} (h:Ev n f a G2 r G') (e:G = G2) (k:Q r G'):(orc n).c f a G Q:=by subst e; exact h Q k
end
section
variable {c:OG} {n:Nat} {s s1 s2:OS} {l cl:List (Nm × PV)} {X Y:Gs} {i m:Nat} {C:PV} {v:Bool}
theorem eo_compr {v:Bool} {b f inner:PV} (hd:Ev (n + 8) 324 [.reg 6,decl v,.dct l] (gO c s) (.tup [b,inner,.lst []]) (gO c s1))
  (h:Ev (n + 8) 300 [.reg 6,C,inner] (gO c s1) f (gO c s2)):Ev (n + 9) 345 [.reg 6,.tup [.str k_compr,.int 0,decl v,C],.dct l] (gO c s) (.tup [.str k_comp,b,f]) (gO c s2):=fun Q k =>
 c_expr_of (hd _ (h _ (all_of_ok _ _ k)))
theorem quantified_ok {a:Bool} {v:Bool} {b f inner:PV} (hd:Ev (n + 8) 324 [.reg 6,decl v,.dct l] (gO c s) (.tup [b,inner,.lst []]) (gO c s1))
  (h:Ev (n + 8) 300 [.reg 6,C,inner] (gO c s1) f (gO c s2)):Ev (n + 9) 331 [.reg 6,.str (cond a k_some k_all),decl v,C,.dct l] (gO c s) (.tup [.str (cond a k_exists k_all),b,f]) (gO c s2):=fun Q k=>by
 cases a with
 | false=>exact c_quantified (hd _ (h _ k))
 | true=>exact c_quantified (hd _ (h _ (all_of_ok _ _ k)))
theorem to_quant {a:Bool} {v:Bool} {b f inner:PV} (hd:Ev (n + 8) 324 [.reg 6,decl v,.dct l] (gO c s) (.tup [b,inner,.lst []]) (gO c s1))
  (h:Ev (n + 8) 300 [.reg 6,C,inner] (gO c s1) f (gO c s2)):Ev (n + 10) 305 [.reg 6,.tup [.str k_quant,.int 0,.str (cond a k_some k_all),decl v,C],.dct l] (gO c s) (.tup [.str (cond a k_exists k_all),b,f]) (gO c s2):=fun Q k=>by
 cases a with
 | false=>exact c_truth_of (quantified_ok (a:=false) hd h _ k)
 | true=>exact c_truth_of (quantified_ok (a:=true) hd h _ k)
theorem to_not {f:PV} (h:Ev (n + 8) 300 [.reg 6,C,.dct l] (gO c s) f (gO c s1)):Ev (n + 9) 305 [.reg 6,.tup [.str k_un,.int 0,.str kx_21,C],.dct l] (gO c s) (.tup [.str k_not,f]) (gO c s1):=fun Q k=>c_truth_of (h _ k)
theorem to_some {f:PV} (h:Ev (n + 8) 338 [.reg 6,C,.dct l] (gO c s) f (gO c s1)):Ev (n + 9) 305 [.reg 6,.tup [.str k_un,.int 0,.str k_some,C],.dct l] (gO c s) (.tup [.str k_some,f]) (gO c s1):=fun Q k=>c_truth_of (h _ k)
theorem to_or {a b f g:PV} (h:Ev (n + 8) 300 [.reg 6,a,.dct l] (gO c s) f (gO c s1)) (h2:Ev (n + 8) 300 [.reg 6,b,.dct l] (gO c s1) g (gO c s2)) :
  Ev (n + 10) 305 [.reg 6,.tup [.str k_bin,.int 0,.str kx_7c7c,a,b],.dct l] (gO c s) (.tup [.str k_or,.tup [f,g]]) (gO c s2):=fun Q k=>c_truth_of (c_compared (h _ (h2 _ k)))
theorem is_marked_ok (t:ST):Ev (n + 1) 399 [.reg 6,nS t] (gO c s) (.bool false) (gO c s):=fun Q k=>by
 cases t with
 | g _ _ b=>cases b <;> exact c_is_marked k
 | _=>exact c_is_marked k
theorem to_in {t:ST} {a f g:PV} (h:Ev (n + 8) 338 [.reg 6,a,.dct l] (gO c s) f (gO c s1)) (h2:Ev (n + 7) 338 [.reg 6,nS t,.dct l] (gO c s1) g (gO c s2)) :
  Ev (n + 10) 305 [.reg 6,.tup [.str k_bin,.int 0,.str k_in,a,nS t],.dct l] (gO c s) (.tup [.str k_in,f,g]) (gO c s2):=fun Q k =>
 c_truth_of (c_compared (h _ (c_bounded (h2 _ (is_marked_ok t _ (all_of_ok _ _ k))))))
end
section
variable {c:OG} {n:Nat} {s s1 s2:OS} {l cl:List (Nm × PV)} {X Y:Gs} {i m:Nat} {C:PV} {v:Bool}
theorem form_name {e:CE} (hv:fd l (vn v) = some (pE e)):Ev (n + 1) 253 [.reg 6,ndn (vn v),.dct l] (gO c s) (.str k_set) (gO c s):=fun Q k=>c_form (cT (hasK_of hv) (oq.mk hv (by cases e <;> exact k)))
theorem form_whole (he:EnvN l):Ev (n + 6) 253 [.reg 6,ndn k_A,.dct l] (gO c s) (.str k_set) (gO c s):=fun Q k=>c_form (cF he.A (call_of_no (begun_A he) _ k))
theorem form_led {a:PV} (he:EnvN l):Ev (n + 7) 253 [.reg 6,.tup [.str k_bin,.int 0,.str kx_2e,a,ndn k_f],.dct l] (gO c s) (.str k_set) (gO c s):=fun Q k=>c_form (call_of_no (begun_led he a) _ k)
theorem form_both {a b:PV} (he:EnvN l):Ev (n + 7) 253 [.reg 6,.tup [.str k_bin,.int 0,.str kx_2b,a,b],.dct l] (gO c s) (.str k_set) (gO c s):=fun Q k=>c_form (call_of_no (begun_both he a b) _ k)
theorem form_compr {a b:PV} (he:EnvN l):Ev (n + 7) 253 [.reg 6,.tup [.str k_compr,.int 0,a,b],.dct l] (gO c s) (.str k_set) (gO c s):=fun Q k=>c_form (call_of_no (begun_compr he a b) _ k)
theorem foc_g:Ev (n + 1) 260 [.reg 6,.str k_g] (gO c s) (.str k_set) (gO c s):=fun Q k=>c_form_of_call k
theorem form_call {a b:PV} {k:Bool} (he:EnvN l):Ev (n + 8) 253 [.reg 6,ndc k_g a b k,.dct l] (gO c s) (.str k_set) (gO c s):=fun Q h=>by
 cases k with
 | false=>exact c_form (call_of_call he .g a b false _ (foc_g _ h))
 | true=>exact c_form (call_of_call he .g a b true _ (foc_g _ h))
theorem form_ok (he:EnvN l) (t:ST) (hv:∀ v,∃ e,fd l (vn v) = some (pE e)):Ev (n + 8) 253 [.reg 6,nS t,.dct l] (gO c s) (.str k_set) (gO c s):=by
 cases t with
 | name v=>exact form_name (hv v).choose_spec
 | whole=>exact form_whole he
 | led _=>exact form_led he
 | both _ _=>exact form_both he
 | g _ _ _=>exact form_call he
 | those _ _=>exact form_compr he
theorem value_ok {t:ST} {e:PV} (he:EnvN l) (hv:∀ v,∃ e,fd l (vn v) = some (pE e)) (h:Ev (n + 8) 338 [.reg 6,nS t,.dct l] (gO c s) e (gO c s1)) :
  Ev (n + 9) 267 [.reg 6,nS t,.dct l] (gO c s) e (gO c s1):=fun Q k=>c_value (form_ok he t hv _ (h _ k))
noncomputable def OS.mea (s s1:OS):OS:={ s1 with pk:=mx s.pk s1.pk }
theorem measured_ok {t:ST} {e:PV} (he:EnvN l) (hv:∀ v,∃ e,fd l (vn v) = some (pE e)) (h:Ev (n + 8) 338 [.reg 6,nS t,.dct l] (gO c { s with pk:=s.ht }) e (gO c s1)) :
  Ev (n + 10) 239 [.reg 6,nS t,.dct l] (gO c s) (.tup [e,.tup [.int (s1.sp - s.sp),.int (s1.pk - s1.ht)]]) (gO c (s.mea s1)):=fun Q k=>c_measured (value_ok he hv h _ k)
end
section
variable {c:OG} {n:Nat} {s s1 s2 s3:OS} {l cl:List (Nm × PV)} {X Y:Gs} {i m:Nat} {C:PV} {v:Bool}
theorem called_g {a b e E:PV} (h1:Ev (n + 11) 293 [.reg 6,.str k_g,.tup [a,b],.dct l] (gO c s) E (gO c s2)) (h2:Ev (n + 11) 338 [.reg 6,nS c.M.g,E] (gO c s2) e (gO c s3)) :
  Ev (n + 12) 378 [.reg 6,.str k_g,.tup [a,b],.dct l,.int 0] (gO c s) e (gO c s3):=fun Q h=>c_called_expr (h1 _ (h2 _ h))
theorem eo_call {a b e E:PV} {k:Bool} (he:EnvN l) (h1:Ev (n + 11) 293 [.reg 6,.str k_g,.tup [a,b],.dct l] (gO c s) E (gO c s2))
  (h2:Ev (n + 11) 338 [.reg 6,nS c.M.g,E] (gO c s2) e (gO c s3)):Ev (n + 13) 345 [.reg 6,ndc k_g a b k,.dct l] (gO c s) e (gO c s3):=fun Q h=>by
 cases k with
 | false=>exact c_expr_of (call_of_call (n:=n + 5) he .g a b false _ (called_g h1 h2 _ h))
 | true=>exact c_expr_of (call_of_call (n:=n + 5) he .g a b true _ (called_g h1 h2 _ h))
theorem to_call {a b e E:PV} {q k:Bool} (he:EnvN l) (h1:Ev (n + 11) 293 [.reg 6,.str (ws q),.tup [a,b],.dct l] (gO c s) E (gO c s2))
  (h2:Ev (n + 11) 300 [.reg 6,nT (if q then c.M.q else c.M.p),E] (gO c s2) e (gO c s3)):Ev (n + 12) 305 [.reg 6,ndc (ws q) a b k,.dct l] (gO c s) e (gO c s3):=fun Q h=>by
 cases q with
 | false=>cases k with
  | false=>exact c_truth_of (call_of_call (n:=n + 4) he .p a b false _ (h1 _ (h2 _ (all_of_ok _ _ h))))
  | true=>exact c_truth_of (call_of_call (n:=n + 4) he .p a b true _ (h1 _ (h2 _ (all_of_ok _ _ h))))
 | true=>cases k with
  | false=>exact c_truth_of (call_of_call (n:=n + 4) he .q a b false _ (h1 _ (h2 _ (all_of_ok _ _ h))))
  | true=>exact c_truth_of (call_of_call (n:=n + 4) he .q a b true _ (h1 _ (h2 _ (all_of_ok _ _ h))))
noncomputable abbrev Se:=Int -> Bool
structure Wd where
 A:Se
 R:Int -> Int -> Bool
structure Itp where
 g:Se -> Se -> Se
 c:Bool -> Se -> Se -> Bool
noncomputable def d3:List Int:=[0,1,2]
noncomputable def single (a:Int):Se:=fun b=>b == a
noncomputable def img (W:Wd) (s:Se):Se:=fun b=>d3.any fun a=>s a && W.R a b
noncomputable def upd {α:Type} (f:Bool -> α) (v:Bool) (x:α):Bool -> α:=fun w=>if w = v then x else f w
noncomputable def sub3 (s t:Se):Bool:=d3.all fun a=>!s a || t a
noncomputable def qnt (W:Wd) (any:Bool) (P:Int -> Bool):Bool:=if any then d3.any fun a=>W.A a && P a else d3.all fun a=>!W.A a || P a
mutual
noncomputable def dnS (W:Wd) (I:Itp):ST -> (Bool -> Se) -> Se
 | .name v,σ=>σ v
 | .whole,_=>W.A
 | .led s,σ=>img W (dnS W I s σ)
 | .both s t,σ=>fun a=>dnS W I s σ a || dnS W I t σ a
 | .g s t _,σ=>I.g (dnS W I s σ) (dnS W I t σ)
 | .those v f,σ=>fun a=>W.A a && dnT W I f (upd σ v (single a))
noncomputable def dnT (W:Wd) (I:Itp):TT -> (Bool -> Se) -> Bool
 | .isin s t,σ=>sub3 (dnS W I s σ) (dnS W I t σ)
 | .some s,σ=>d3.any (dnS W I s σ)
 | .not f,σ=>!dnT W I f σ
 | .or f g,σ=>dnT W I f σ || dnT W I g σ
 | .call q s t _,σ=>I.c q (dnS W I s σ) (dnS W I t σ)
 | .quant a v f,σ=>qnt W a fun x=>dnT W I f (upd σ v (single x))
end
noncomputable def updk (η:Bool -> Int -> Se) (v:Bool) (k:Int) (x:Se):Bool -> Int -> Se:=fun w j=>if w = v /\ j = k then x else η w j
mutual
noncomputable def eE (W:Wd):CE -> (Bool -> Int -> Se) -> Se
 | .A,_=>W.A
 | .var v k,η=>η v k
 | .join e,η=>img W (eE W e η)
 | .union a b,η=>fun x=>eE W a η x || eE W b η x
 | .comp v k f,η=>fun a=>W.A a && eF W f (updk η v k (single a))
noncomputable def eF (W:Wd):CF -> (Bool -> Int -> Se) -> Bool
 | .isin a b,η=>sub3 (eE W a η) (eE W b η)
 | .some e,η=>d3.any (eE W e η)
 | .not f,η=>!eF W f η
 | .or f g,η=>eF W f η || eF W g η
 | .quant a v k f,η=>qnt W a fun x=>eF W f (updk η v k (single x))
end
mutual
noncomputable def hE:CE -> Nat
 | .A=>1
 | .var _ _=>1
 | .join e=>hE e + 1
 | .union a b=>max (hE a) (hE b) + 1
 | .comp _ _ f=>hF f + 1
noncomputable def hF:CF -> Nat
 | .isin a b=>max (hE a) (hE b) + 1
 | .some e=>hE e + 1
 | .not f=>hF f + 1
 | .or f g=>max (hF f) (hF g) + 1
 | .quant _ _ _ f=>hF f + 1
end
noncomputable abbrev VP:=Bool -> Int -> Prop
noncomputable def addP (P:VP) (v:Bool) (k:Int):VP:=fun w j=>P w j \/ (w = v /\ j = k)
mutual
noncomputable def fE (P:VP):CE -> Prop
 | .A=>True
 | .var v k=>P v k
 | .join e=>fE P e
 | .union a b=>fE P a /\ fE P b
 | .comp v k f=>fF (addP P v k) f
noncomputable def fF (P:VP):CF -> Prop
 | .isin a b=>fE P a /\ fE P b
 | .some e=>fE P e
 | .not f=>fF P f
 | .or f g=>fF P f /\ fF P g
 | .quant _ v k f=>fF (addP P v k) f
end
theorem addP_mono {P Q:VP} (h:∀ v k,P v k -> Q v k) {w:Bool} {j:Int}:∀ v k,addP P w j v k -> addP Q w j v k:=fun v k x=>x.imp (h v k) id
mutual
theorem fE_mono:∀ (e:CE) {P Q:VP},(∀ v k,P v k -> Q v k) -> fE P e -> fE Q e
 | .A,_,_,_,_=>trivial
 | .var v k,_,_,h,x=>h v k x
 | .join e,_,_,h,x=>fE_mono e h x
 | .union a b,_,_,h,x=>⟨fE_mono a h x.1,fE_mono b h x.2⟩
 | .comp v k f,_,_,h,x=>fF_mono f (addP_mono h) x
theorem fF_mono:∀ (e:CF) {P Q:VP},(∀ v k,P v k -> Q v k) -> fF P e -> fF Q e
 | .isin a b,_,_,h,x=>⟨fE_mono a h x.1,fE_mono b h x.2⟩
 | .some e,_,_,h,x=>fE_mono e h x
 | .not e,_,_,h,x=>fF_mono e h x
 | .or a b,_,_,h,x=>⟨fF_mono a h x.1,fF_mono b h x.2⟩
 | .quant _ v k f,_,_,h,x=>fF_mono f (addP_mono h) x
end
theorem c2 {α β γ:Type} (f:α -> β -> γ) {a b:α} {x y:β} (h:a = b) (k:x = y):f a x = f b y:=by rw [h,k]
theorem orE {a b c d:Bool} (h:a = c) (k:b = d):(a || b) = (c || d):=by rw [h,k]
theorem updk_agree {P:VP} {η θ:Bool -> Int -> Se} (h:∀ v k,P v k -> η v k = θ v k) {w:Bool} {j:Int} {x:Se}:∀ v k,addP P w j v k -> updk η w j x v k = updk θ w j x v k:=by
 intro v k hk
 unfold updk
 refine Decidable.byCases (fun e:v = w /\ k = j=>?_) fun e=>?_
 ·rw [if_pos e,if_pos e]
 ·rw [if_neg e,if_neg e]; exact h v k (hk.resolve_right e)
mutual
theorem eE_agree (W:Wd):∀ (e:CE) {P:VP} {η θ:Bool -> Int -> Se},fE P e -> (∀ v k,P v k -> η v k = θ v k) -> eE W e η = eE W e θ
 | .A,_,_,_,_,_=>rfl
 | .var v k,_,_,_,x,h=>h v k x
 | .join e,_,_,_,x,h=>congrArg (img W) (eE_agree W e x h)
 | .union a b,_,_,_,x,h=>funext fun y=>orE (congrFun (eE_agree W a x.1 h) y) (congrFun (eE_agree W b x.2 h) y)
 | .comp v k f,_,_,_,x,h=>funext fun a=>congrArg (W.A a && ·) (eF_agree W f x (updk_agree h))
theorem eF_agree (W:Wd):∀ (e:CF) {P:VP} {η θ:Bool -> Int -> Se},fF P e -> (∀ v k,P v k -> η v k = θ v k) -> eF W e η = eF W e θ
 | .isin a b,_,_,_,x,h=>c2 sub3 (eE_agree W a x.1 h) (eE_agree W b x.2 h)
 | .some e,_,_,_,x,h=>congrArg d3.any (eE_agree W e x h)
 | .not e,_,_,_,x,h=>congrArg not (eF_agree W e x h)
 | .or a b,_,_,_,x,h=>orE (eF_agree W a x.1 h) (eF_agree W b x.2 h)
 | .quant q v k f,_,_,_,x,h=>congrArg (qnt W q) (funext fun a=>eF_agree W f x (updk_agree h))
end
end
section
variable {c:OG} {n:Nat} {s s1 s2:OS} {l cl:List (Nm × PV)} {X Y:Gs} {i m:Nat} {C:PV} {v:Bool}
inductive CL:List (Nm × PV) -> Prop where
 | nil:CL []
 | one (b:Bool) (x y:Int):CL [(vn b,.tup [.int x,.int y])]
 | two (b:Bool) (x y z t:Int):CL [(vn b,.tup [.int x,.int y]),(vn !b,.tup [.int z,.int t])]
noncomputable def ms (l:List (Nm × PV)):Nat:=cond (hasK l (vn false)) 0 1 + cond (hasK l (vn true)) 0 1 + cond (hasK l k_0) 0 1
structure EnvL (l cl:List (Nm × PV)):Prop extends EnvN l where
 cost:(fd l k_0).getD (.dct []) = .dct cl
 sh:CL cl
 lo:Pured l
 len:l.length + ms l <= 3
noncomputable def cut (v:Bool) (cl:List (Nm × PV)):List (Nm × PV):=cl.filter fun e=>!(e.1 == vn v)
noncomputable def envV (l cl:List (Nm × PV)) (v:Bool) (k:Int):List (Nm × PV):=putD (putD l (vn v) (pE (.var v k))) k_0 (.dct (cut v cl))
noncomputable def callEnv (b:Bool) (p q e f:PV):List (Nm × PV):=[(k_0,.dct [(vn b,p),(vn !b,q)]),(vn b,e),(vn !b,f)]
theorem fd_app {k:Nm} {p:PV} {j:Nm}:∀ l:List (Nm × PV),hasK l k = false -> fd (l ++ [(k,p)]) j = cond (k == j) (some p) (fd l j)
 | [],_=>rfl
 | (a,q) :: l,h=>by
  have h1:(a == k) = false:=(Bool.or_eq_false_iff.mp h).1
  have ih:=fd_app (p:=p) (j:=j) l (Bool.or_eq_false_iff.mp h).2
  show cond (a == j) (some q) (fd (l ++ [(k,p)]) j) = cond (k == j) (some p) (cond (a == j) (some q) (fd l j))
  rw [ih]
  cases e:a == j with
  | false=>rfl
  | true=>cases e2:k == j with | false=>rfl | true=>rw [<- eq_of_beq e] at e2; rw [eq_of_beq e2,beq_self_eq_true] at h1; cases h1
theorem fd_mp {k:Nm} {p:PV} {j:Nm}:∀ l:List (Nm × PV),hasK l k = true -> fd (l.map fun e=>cond (e.1 == k) (e.1,p) e) j = cond (k == j) (some p) (fd l j)
 | (a,q) :: l,h=>by
  have ih:hasK l k = true -> _:=fd_mp (p:=p) (j:=j) l
  have z:∀ l:List (Nm × PV),hasK l k = false -> (l.map fun e=>cond (e.1 == k) (e.1,p) e) = l:=fun l=>by
   induction l with
   | nil=>exact fun zq=>rfl
   | cons e l ih=>intro h; obtain ⟨h1,h2⟩:=Bool.or_eq_false_iff.mp h; rw [List.map_cons,ih h2,show (e.1 == k) = false from h1]; rfl
  show fd (cond (a == k) (a,p) (a,q) :: l.map _) j = cond (k == j) (some p) (cond (a == j) (some q) (fd l j))
  cases e:a == k with
  | true =>
   have e:=eq_of_beq e
   subst e
   show cond (a == j) (some p) _ = cond (a == j) (some p) (cond (a == j) (some q) _)
   cases e2:a == j with
   | true=>rfl
   | false =>
    show fd (l.map _) j = fd l j
    cases hl:hasK l a with
    | true=>rw [ih hl,e2]; rfl
    | false=>rw [z l hl]
  | false =>
   have hl:hasK l k = true:=by have h:((a == k) || hasK l k) = true:=h; rw [e] at h; exact h
   show cond (a == j) (some q) (fd (l.map _) j) = _
   rw [ih hl]
   cases e2:a == j with
   | false=>rfl
   | true=>cases e3:k == j with | false=>rfl | true=>rw [eq_of_beq e2,<- eq_of_beq e3,beq_self_eq_true] at e; cases e
theorem fd_put {k:Nm} {p:PV} {j:Nm}:fd (putD l k p) j = cond (k == j) (some p) (fd l j):=by
 unfold putD
 cases h:l.any fun e=>e.1 == k with
 | true=>exact fd_mp l h
 | false=>exact fd_app l h
theorem has_put {k:Nm} {p:PV} {j:Nm}:hasK (putD l k p) j = ((k == j) || hasK l j):=by
 unfold hasK
 rw [<- fd_any,fd_put,<- fd_any]
 cases k == j <;> rfl
theorem vne (b:Bool):(vn (!b) == vn b) = false:=by cases b <;> rfl
theorem vne' (b:Bool):(vn b == vn !b) = false:=by cases b <;> rfl
theorem veq (b:Bool):(vn b == vn b) = true:=beq_self_eq_true _
structure CutOk (v:Bool) (cl:List (Nm × PV)):Prop where
 m:mergeP [] (cut v cl) = cut v cl
 p:Pured (cut v cl)
 l:(cut v cl).length <= 2
 c:CL (cut v cl)
theorem cut_ok (v:Bool) (h:CL cl):CutOk v cl:=by
 cases h with
 | nil=>exact ⟨rfl,fun zq=>rfl,Nat.zero_le _,.nil⟩
 | one b x y =>
  cases b <;> cases v
  ·exact ⟨rfl,fun zq=>rfl,Nat.zero_le _,.nil⟩
  ·exact ⟨rfl,fun zq=>rfl,Nat.le_succ 1,.one false x y⟩
  ·exact ⟨rfl,fun zq=>rfl,Nat.le_succ 1,.one true x y⟩
  ·exact ⟨rfl,fun zq=>rfl,Nat.zero_le _,.nil⟩
 | two b x y z t =>
  cases b <;> cases v
  ·exact ⟨rfl,fun zq=>rfl,Nat.le_succ 1,.one true z t⟩
  ·exact ⟨rfl,fun zq=>rfl,Nat.le_succ 1,.one false x y⟩
  ·exact ⟨rfl,fun zq=>rfl,Nat.le_succ 1,.one true x y⟩
  ·exact ⟨rfl,fun zq=>rfl,Nat.le_succ 1,.one false z t⟩
inductive MxS (a b:Int):Int -> Prop
 | l (h:b <= a):MxS a b a
 | r (h:a < b):MxS a b b
theorem mx_s (a b:Int):MxS a b (mx a b):=by
 unfold mx
 refine Decidable.byCases (fun h:a < b=>?_) fun h=>?_
 ·rw [decide_eq_true h]; exact .r h
 ·rw [decide_eq_false h]; exact .l (Int.not_lt.mp h)
end
section
structure Ln where
 a:Nat
 k:Nat
noncomputable def Ln.at (p:Ln) (c:Int):Int:=p.a * c + p.k
noncomputable def Ln.inc (p:Ln):Ln:=⟨p.a,p.k + 1⟩
noncomputable def Ln.add (p q:Ln):Ln:=⟨p.a + q.a,p.k + q.k⟩
noncomputable def Ln.comp (p q:Ln):Ln:=⟨p.a * q.a,p.a * q.k + p.k⟩
noncomputable def Ln.le (p q:Ln):Bool:=Nat.ble p.a q.a && Nat.ble (p.a + p.k) (q.a + q.k)
noncomputable def Ln.pos (p:Ln):Bool:=Nat.ble 1 (p.a + p.k)
section
variable {p q:Ln} {c:Int}
theorem at_inc:p.inc.at c = 1 + p.at c:=by show (p.a:Int) * c + ((p.k + 1:Nat):Int) = 1 + (p.a * c + p.k); rw [Int.natCast_add]; omega
theorem at_add:(p.add q).at c = p.at c + q.at c:=by
 show ((p.a + q.a:Nat):Int) * c + ((p.k + q.k:Nat):Int) = (p.a * c + p.k) + (q.a * c + q.k)
 rw [Int.natCast_add,Int.natCast_add,Int.add_mul]; omega
theorem at_comp:(p.comp q).at c = p.at (q.at c):=by
 show ((p.a * q.a:Nat):Int) * c + ((p.a * q.k + p.k:Nat):Int) = p.a * (q.a * c + q.k) + p.k
 rw [Int.natCast_add,Int.natCast_mul,Int.natCast_mul,Int.mul_add,Int.mul_assoc]; omega
theorem at_le (h:p.le q = true) (hc:1 <= c):p.at c <= q.at c:=by
 obtain ⟨h1,h2⟩:=Bool.and_eq_true_iff.mp h
 have h1:=Nat.le_of_ble_eq_true h1
 have h2:=Nat.le_of_ble_eq_true h2
 obtain ⟨e,he⟩:=Int.eq_ofNat_of_zero_le (show 0 <= c - 1 by omega)
 have hc:c = (e + 1:Nat):=by omega
 subst hc
 show (p.a:Int) * ((e + 1:Nat):Int) + p.k <= q.a * ((e + 1:Nat):Int) + q.k
 rw [<- Int.natCast_mul,<- Int.natCast_mul,<- Int.natCast_add,<- Int.natCast_add]
 refine Int.ofNat_le.mpr ?_
 rw [Nat.mul_add,Nat.mul_add,Nat.mul_one,Nat.mul_one]
 have:=Nat.mul_le_mul_right e h1
 omega
theorem at_nn (hc:1 <= c):0 <= p.at c:=Int.add_nonneg (Int.mul_nonneg (Int.natCast_nonneg _) (Int.le_trans (by decide) hc)) (Int.natCast_nonneg _)
theorem at_pos (h:p.pos = true) (hc:1 <= c):1 <= p.at c:=by
 have h:1 <= p.a + p.k:=Nat.le_of_ble_eq_true h
 refine Int.le_trans ?_ (at_le (p:=⟨0,1⟩) (q:=p) (Bool.and_eq_true_iff.mpr ⟨Nat.ble_eq_true_of_le (Nat.zero_le _),Nat.ble_eq_true_of_le h⟩) hc)
 show (1:Int) <= ((0:Nat):Int) * c + ((1:Nat):Int)
 rw [show ((0:Nat):Int) * c = 0 from Int.zero_mul c]; decide
end
structure EnvR (l cl:List (Nm × PV)) (ρ:Bool -> CE) (cn cL:Int):Prop extends EnvL l cl where
 v:∀ v,fd l (vn v) = some (pE (ρ v))
 c:∀ v,∃ a b,(fd cl (vn v)).getD (.tup [.int 1,.int 1]) = .tup [.int a,.int b] /\ 0 <= a /\ a <= cn /\ 0 <= b /\ b <= cL
structure Lim (s:OS) (N L:Int):Prop where
 sp:s.sp + N <= 20000
 ht:s.ht + L <= 100
 ct:0 <= s.ct
 ct1:s.ct + N <= 100000
structure Tg (s s':OS) (N L:Int):Prop where
 sp:s.sp <= s'.sp
 sp1:s'.sp <= s.sp + N
 ht:s'.ht = s.ht
 pk:s.pk <= s'.pk
 pk1:s'.pk <= s.pk \/ s'.pk <= s.ht + L
 ct:s.ct <= s'.ct
 ct1:s'.ct <= s.ct + N
section
variable {s s1 s2:OS} {N N' N1 N2 L L':Int}
theorem addr {a b:Int} (h:0 <= b):a <= a + b:=Int.le_add_of_nonneg_right h
theorem Tg.mono (t:Tg s s1 N L) (h:N <= N') (k:L <= L'):Tg s s1 N' L' :=
 ⟨t.sp,Int.le_trans t.sp1 (Int.add_le_add_left h _),t.ht,t.pk,t.pk1.imp_right fun x=>Int.le_trans x (Int.add_le_add_left k _),t.ct,Int.le_trans t.ct1 (Int.add_le_add_left h _)⟩
theorem Tg.refl (s:OS):Tg s s 0 0:=⟨Int.le_refl _,addr (Int.le_refl 0),rfl,Int.le_refl _,.inl (Int.le_refl _),Int.le_refl _,addr (Int.le_refl 0)⟩
theorem Tg.trans (a:Tg s s1 N1 L) (b:Tg s1 s2 N2 L):Tg s s2 (N1 + N2) L:=by
 obtain ⟨a1,a2,a3,a4,a5,a6,a7⟩:=a
 obtain ⟨b1,b2,b3,b4,b5,b6,b7⟩:=b
 rw [a3] at b5
 refine ⟨Int.le_trans a1 b1,?_,b3.trans a3,Int.le_trans a4 b4,?_,Int.le_trans a6 b6,?_⟩
 ·rw [<- Int.add_assoc]; exact Int.le_trans b2 (Int.add_le_add_right a2 _)
 ·exact b5.elim (fun x=>a5.imp (Int.le_trans x) (Int.le_trans x)) .inr
 ·rw [<- Int.add_assoc]; exact Int.le_trans b7 (Int.add_le_add_right a7 _)
theorem Tg.step (a:Tg s.inn s2 N L) (h:0 <= L):Tg s s2.out (1 + N) (1 + L):=by
 obtain ⟨a1,a2,a3,a4,a5,a6,a7⟩:=a
 have a4:mx s.pk (s.ht + 1 + 0) <= s2.pk:=a4
 have a5:s2.pk <= mx s.pk (s.ht + 1 + 0) \/ s2.pk <= s.ht + 1 + L:=a5
 have a3:s2.ht = s.ht + 1:=a3
 have a1:s.sp + 1 <= s2.sp:=a1
 have a2:s2.sp <= s.sp + 1 + N:=a2
 have q:=mx_s s.pk (s.ht + 1 + 0)
 generalize mx s.pk (s.ht + 1 + 0) = p at a4 a5 q
 have a7:s2.ct <= s.ct + N:=a7
 exact ⟨show s.sp <= s2.sp by omega,show s2.sp <= s.sp + (1 + N) by omega,show s2.ht - 1 = s.ht by omega,show s.pk <= s2.pk by cases q <;> omega,show s2.pk <= s.pk \/ s2.pk <= s.ht + (1 + L) by cases q <;> omega,a6,show s2.ct <= s.ct + (1 + N) by omega⟩
theorem Tg.spd {a b:Int} (ha:0 <= a):Tg s (s.spd a b) a b:=by
 have q:=mx_s s.pk (s.ht + b)
 refine ⟨addr ha,Int.le_refl _,rfl,show s.pk <= mx s.pk (s.ht + b) from ?_,show mx s.pk (s.ht + b) <= s.pk \/ mx s.pk (s.ht + b) <= s.ht + b from ?_,Int.le_refl _,addr ha⟩
 ·generalize mx s.pk (s.ht + b) = z at q; cases q with | l h=>exact Int.le_refl _ | r h=>exact Int.le_of_lt h
 ·generalize mx s.pk (s.ht + b) = z at q; cases q with | l h=>exact .inl (Int.le_refl _) | r h=>exact .inr (Int.le_refl _)
theorem Tg.one (s:OS):Tg s s.inn.out 1 1:=Tg.step (Tg.refl s.inn) (Int.le_refl 0)
theorem Lim.inn (h:Lim s (1 + N) (1 + L)):Lim s.inn N L:=by
 obtain ⟨a,b,c,d⟩:=h
 exact ⟨show s.sp + 1 + N <= 20000 by omega,show s.ht + 1 + L <= 100 by omega,c,show s.ct + N <= 100000 by omega⟩
theorem Lim.l (h:Lim s (N1 + N2) L) (k:0 <= N2):Lim s N1 L:=⟨Int.le_trans (Int.add_le_add_left (addr k) _) h.sp,h.ht,h.ct,Int.le_trans (Int.add_le_add_left (addr k) _) h.ct1⟩
theorem Lim.next (h:Lim s (N1 + N2) L) (a:Tg s s1 N1 L'):Lim s1 N2 L:=by
 obtain ⟨x,y,z,t⟩:=h
 rw [<- Int.add_assoc] at x t
 exact ⟨Int.le_trans (Int.add_le_add_right a.sp1 _) x,a.ht ▸ y,Int.le_trans z a.ct,Int.le_trans (Int.add_le_add_right a.ct1 _) t⟩
theorem Lim.mono (h:Lim s N L) (h1:N' <= N) (h2:L' <= L):Lim s N' L':=⟨Int.le_trans (Int.add_le_add_left h1 _) h.sp,Int.le_trans (Int.add_le_add_left h2 _) h.ht,h.ct,Int.le_trans (Int.add_le_add_left h1 _) h.ct1⟩
theorem Lim.h1 (h:Lim s (1 + N) L) (k:0 <= N):s.sp + 1 <= 20000:=Int.le_trans (Int.add_le_add_left (addr k) _) h.sp
theorem Lim.h2 (h:Lim s N (1 + L)) (k:0 <= L):s.ht + 1 <= 100:=Int.le_trans (Int.add_le_add_left (addr k) _) h.ht
end
noncomputable def leP (k:Int):VP:=fun zq j=>j <= k
inductive OutS (m:Nat) (c:OG) (s:OS) (l:List (Nm × PV)) (ρ:Bool -> CE) (cL:Int) (I:Wd -> Itp) (t:ST) (N L:Int):Prop
 | mk (e:CE) (s':OS) (r:Ev m 338 [.reg 6,nS t,.dct l] (gO c s) (pE e) (gO c s')) (g:Tg s s' N L) (f:∀ P,(∀ v,fE P (ρ v)) -> fE P e)
  (d:(∀ v,fE (leP s.ct) (ρ v)) -> ∀ W η,eE W e η = dnS W (I W) t fun v=>eE W (ρ v) η) (k:(∀ v,(hE (ρ v):Int) <= cL) -> (hE e:Int) <= L)
inductive OutT (m:Nat) (c:OG) (s:OS) (l:List (Nm × PV)) (ρ:Bool -> CE) (cL:Int) (I:Wd -> Itp) (t:TT) (N L:Int):Prop
 | mk (e:CF) (s':OS) (r:Ev m 300 [.reg 6,nT t,.dct l] (gO c s) (pF e) (gO c s')) (g:Tg s s' N L) (f:∀ P,(∀ v,fE P (ρ v)) -> fF P e)
  (d:(∀ v,fE (leP s.ct) (ρ v)) -> ∀ W η,eF W e η = dnT W (I W) t fun v=>eE W (ρ v) η) (k:(∀ v,(hE (ρ v):Int) <= cL) -> (hF e:Int) <= L)
noncomputable def SpS (M:Md) (I:Wd -> Itp) (t:ST) (p q:Ln) (F:Nat):Prop :=
 ∀ m (c:OG) (s:OS) l cl ρ cn cL,F <= m -> c.ok -> c.M = M -> EnvR l cl ρ cn cL -> 1 <= cn -> 1 <= cL -> Lim s (p.at cn) (q.at cL) -> OutS m c s l ρ cL I t (p.at cn) (q.at cL)
noncomputable def SpT (M:Md) (I:Wd -> Itp) (t:TT) (p q:Ln) (F:Nat):Prop :=
 ∀ m (c:OG) (s:OS) l cl ρ cn cL,F <= m -> c.ok -> c.M = M -> EnvR l cl ρ cn cL -> 1 <= cn -> 1 <= cL -> Lim s (p.at cn) (q.at cL) -> OutT m c s l ρ cL I t (p.at cn) (q.at cL)
variable {M:Md} {I:Wd -> Itp} {p p' p1 p2 q q' q1 q2:Ln} {F F' F1 F2:Nat}
theorem SpS.mono {t:ST} (h:SpS M I t p q F) (hN:p.le p' = true) (hL:q.le q' = true) (hF:Nat.ble F F' = true):SpS M I t p' q' F':=fun m c s l cl ρ cn cL hm hc hM he h1 h2 hl=>by
 have hN:=at_le hN h1
 have hL:=at_le hL h2
 obtain ⟨e,s1,r,t,f,d,k⟩:=h m c s l cl ρ cn cL (Nat.le_trans (Nat.le_of_ble_eq_true hF) hm) hc hM he h1 h2 (hl.mono hN hL)
 exact ⟨e,s1,r,t.mono hN hL,f,d,fun h=>Int.le_trans (k h) hL⟩
theorem SpT.mono {t:TT} (h:SpT M I t p q F) (hN:p.le p' = true) (hL:q.le q' = true) (hF:Nat.ble F F' = true):SpT M I t p' q' F':=fun m c s l cl ρ cn cL hm hc hM he h1 h2 hl=>by
 have hN:=at_le hN h1
 have hL:=at_le hL h2
 obtain ⟨e,s1,r,t,f,d,k⟩:=h m c s l cl ρ cn cL (Nat.le_trans (Nat.le_of_ble_eq_true hF) hm) hc hM he h1 h2 (hl.mono hN hL)
 exact ⟨e,s1,r,t.mono hN hL,f,d,fun h=>Int.le_trans (k h) hL⟩
theorem leP_mono {a b:Int} (h:a <= b):∀ v k,leP a v k -> leP b v k:=fun zq zq x=>Int.le_trans x h
theorem all_mono {ρ:Bool -> CE} {a b:Int} (h:a <= b) (x:∀ v,fE (leP a) (ρ v)):∀ v,fE (leP b) (ρ v):=fun v=>fE_mono _ (leP_mono h) (x v)
inductive Fu (F:Nat):Nat -> Prop | mk (n:Nat) (h:∀ k,F <= n + k):Fu F (n + 14)
theorem fuel {F m:Nat} (h:F + 14 <= m):Fu F m:=by
 obtain ⟨k,rfl⟩:=Nat.exists_eq_add_of_le h
 rw [Nat.add_right_comm]
 exact .mk _ fun j=>Nat.le_trans (Nat.le_add_right _ _) (Nat.le_add_right _ _)
theorem hsucc {a:Nat} {x:Int} (h:(a:Int) <= x):((a + 1:Nat):Int) <= 1 + x:=by omega
theorem hmax {a b:Nat} {x:Int} (h:(a:Int) <= x) (k:(b:Int) <= x):((max a b + 1:Nat):Int) <= 1 + x:=by omega
theorem at11 {c:Int}:(Ln.mk 1 1).at c = 1 + c:=by show ((1:Nat):Int) * c + ((1:Nat):Int) = 1 + c; omega
theorem at01 {c:Int}:(Ln.mk 0 1).at c = 1 + 0:=by show ((0:Nat):Int) * c + ((1:Nat):Int) = 1 + 0; omega
theorem spName (v:Bool):SpS M I (.name v) ⟨1,1⟩ ⟨1,1⟩ 14:=fun m c s l cl ρ cn cL hm hc hM he h1 h2 hl=>by
 rw [at11,at11] at hl ⊢
 obtain ⟨n,hn⟩:=fuel (F:=0) hm
 obtain ⟨a,b,hab,ha0,ha,hb0,hb⟩:=he.c v
 have h0:(0:Int) <= 1:=by decide
 have li:=hl.inn.mono ha hb
 exact ⟨ρ v,_,expr_step (n:=n + 12) (hl.h1 (Int.le_trans h0 h1)) (hl.h2 (Int.le_trans h0 h2)) (eo_name (n:=n + 10) (he.v v) he.cost hab li.sp li.ht),(Tg.step (Tg.spd ha0) hb0).mono (Int.add_le_add_left ha _) (Int.add_le_add_left hb _),
  fun P h=>h v,fun zq W η=>rfl,fun h=>Int.le_trans (h v) (Int.le_add_of_nonneg_left h0)⟩
theorem whole_run {n:Nat} {c:OG} {s:OS} {l:List (Nm × PV)} (he:EnvN l) (h1:s.sp + 1 <= 20000) (h2:s.ht + 1 <= 100):Ev (n + 7) 338 [.reg 6,ndn k_A,.dct l] (gO c s) relA (gO c s.inn.out):=expr_step h1 h2 (eo_whole he)
theorem f_run {n:Nat} {c:OG} {s:OS} {l:List (Nm × PV)} (he:EnvN l) (h1:s.sp + 1 <= 20000) (h2:s.ht + 1 <= 100):Ev (n + 7) 338 [.reg 6,ndn k_f,.dct l] (gO c s) relF (gO c s.inn.out):=expr_step h1 h2 (eo_f he)
theorem spWhole:SpS M I .whole ⟨0,1⟩ ⟨0,1⟩ 14:=fun m c s l cl ρ cn cL hm hc hM he h1 h2 hl=>by
 rw [at01,at01] at hl ⊢
 obtain ⟨n,hn⟩:=fuel (F:=0) hm
 exact ⟨.A,_,whole_run (n:=n + 7) he.toEnvN (hl.h1 (Int.le_refl 0)) (hl.h2 (Int.le_refl 0)),Tg.one s,fun zq zq=>trivial,fun zq W η=>rfl,fun zq=>Int.le_refl 1⟩
theorem spLed {a:ST} (ha:SpS M I a p1 q1 F) (hq:(Ln.mk 0 1).le q1 = true):SpS M I (.led a) (p1.add ⟨0,1⟩).inc q1.inc (F + 14):=fun m c s l cl ρ cn cL hm hc hM he h1 h2 hl=>by
 rw [at_inc,at_inc,at_add] at hl ⊢
 obtain ⟨n,hn⟩:=fuel hm
 have n1:=at_nn (p:=p1) h1
 have n2:=at_nn (p:=q1) h2
 have n3:=at_nn (p:=⟨0,1⟩) h1
 have li:=hl.inn
 have hq:=at_le hq h2
 obtain ⟨e,s1,r1,t1,f1,m1,k1⟩:=ha (n + 12) c s.inn l cl ρ cn cL (hn _) hc hM he h1 h2 (li.l n3)
 have l1:=(li.next t1).mono (Int.le_refl _) hq
 rw [at01] at hq l1
 rw [at01] at l1
 exact ⟨.join e,_,expr_step (n:=n + 12) (hl.h1 (Int.add_nonneg n1 n3)) (hl.h2 n2) (eo_led (n:=n + 6) he.toEnvN r1 (f_run (n:=n + 5) he.toEnvN (l1.h1 (Int.le_refl 0)) (l1.h2 (Int.le_refl 0)))),Tg.step (t1.trans ((Tg.one s1).mono (by rw [at01]; exact Int.le_refl 1) hq)) n2,
  f1,fun h W η=>congrArg (img W) (m1 h W η),fun h=>hsucc (k1 h)⟩
theorem spBoth {a b:ST} (ha:SpS M I a p1 q1 F1) (hb:SpS M I b p2 q2 F2) (g1:q1.le q = true) (g2:q2.le q = true) (hF:Nat.ble F1 F2 = true):SpS M I (.both a b) (p1.add p2).inc q.inc (F2 + 14):=fun m c s l cl ρ cn cL hm hc hM he h1 h2 hl=>by
 rw [at_inc,at_inc,at_add] at hl ⊢
 obtain ⟨n,hn⟩:=fuel hm
 have n1:=at_nn (p:=p1) h1
 have n2:=at_nn (p:=q) h2
 have n3:=at_nn (p:=p2) h1
 have li:=hl.inn
 have g1:=at_le g1 h2
 have g2:=at_le g2 h2
 obtain ⟨e,s1,r1,t1,f1,m1,k1⟩:=ha (n + 12) c s.inn l cl ρ cn cL (Nat.le_trans (Nat.le_of_ble_eq_true hF) (hn _)) hc hM he h1 h2 ((li.l n3).mono (Int.le_refl _) g1)
 obtain ⟨e2,s2,r2,t2,f2,m2,k2⟩:=hb (n + 12) c s1 l cl ρ cn cL (hn _) hc hM he h1 h2 ((li.next t1).mono (Int.le_refl _) g2)
 exact ⟨.union e e2,_,expr_step (n:=n + 12) (hl.h1 (Int.add_nonneg n1 n3)) (hl.h2 n2) (eo_both (n:=n + 6) he.toEnvN r1 r2),Tg.step ((t1.mono (Int.le_refl _) g1).trans (t2.mono (Int.le_refl _) g2)) n2,fun P h=>⟨f1 P h,f2 P h⟩,
  fun h W η=>funext fun y=>orE (congrFun (m1 h W η) y) (congrFun (m2 (all_mono t1.ct h) W η) y),fun h=>hmax (Int.le_trans (k1 h) g1) (Int.le_trans (k2 h) g2)⟩
end
section
variable {c:OG} {n:Nat} {s s1 s2:OS} {l cl:List (Nm × PV)} {X Y:Gs} {i m:Nat} {C:PV} {v:Bool}
theorem rg_at {X:Gs} (i:Nat) {p:PV} (h:rgPV X[i]? = some p):rgPV (gO (c.ext X) s)[glen c + i]? = some p:=by rw [ext_get]; exact h
section
variable {k:Nat} (hk:∀ s,rgPV (gO c s)[k]? = some (.dct l)) (he:hasK l k_A = false)
include hk he
theorem begun_Ar:Ev (n + 4) 281 [.reg 6,ndn k_A,.reg k] (gO c s) (.tup [.str k_0,.tup []]) (gO c s):=fun Q h=>c_begun (oq.mk (hk s) (cNF he (places_A _ h)))
theorem call_of_Ar:Ev (n + 5) 288 [.reg 6,ndn k_A,.reg k] (gO c s) (.tup [.str k_0,.tup []]) (gO c s):=fun Q h=>c_call_of (begun_Ar hk he _ h)
theorem eo_wholer:Ev (n + 6) 345 [.reg 6,ndn k_A,.reg k] (gO c s) relA (gO c s):=fun Q h=>c_expr_of (oq.mk (hk s) (cF he (call_of_Ar hk he _ (named_A _ _ h))))
theorem e_wholer (h1:s.sp + 1 <= 20000) (h2:s.ht + 1 <= 100):Ev (n + 7) 338 [.reg 6,ndn k_A,.reg k] (gO c s) relA (gO c s.inn.out):=expr_step h1 h2 (eo_wholer hk he)
end
theorem app3 {a b d:RA}:gO c s ++ [a] ++ [b] ++ [d] = gO (c.ext [a,b,d]) s:=by rw [gO_eq,List.append_assoc,List.append_assoc]; rfl
theorem oqk {x:Option PV} {a:PV} (e:x = some a) (K:PV -> Prop) (h:K a):oq x K:=oq.mk e h
theorem rg_st {G:Gs} {X:Gs} {k:Nat} (i:Nat) {p:PV} (e:G = gO (c.ext X) s) (hk:k = glen c + i) (h:rgPV X[i]? = some p):rgPV G[k]? = some p:=by subst e; subst hk; exact rg_at i h
theorem st_st {G:Gs} {X:Gs} {k:Nat} (i:Nat) {a:RA} (e:G = gO (c.ext X) s) (hk:k = glen c + i):G.set k a = gO (c.ext (X.set i a)) s:=by subst e; subst hk; exact ext_set i
theorem oq_get {x:Option PV} {k:Nm} {dflt v:PV} {l:List (Nm × PV)} {Q:PV -> Prop} (e:x = some (.dct l)) (e2:(fd l k).getD dflt = v) (h:Q v):oq x fun p=>fGet p [.str k,dflt] Q:=by subst e; subst e2; exact h
theorem len1 {a:RA}:(gO c s ++ [a]).length = glen c + 1:=by rw [List.length_append]; rfl
theorem len2 {a b:RA}:(gO c s ++ [a] ++ [b]).length = glen c + 2:=by rw [List.length_append,len1]; rfl
noncomputable def OS.frs (s:OS):OS:={ s.inn.out with ct:=s.ct + 1 }
theorem oqR {X:Gs} (i:Nat) {p:PV} (h:rgPV X[i]? = some p) (K:PV -> Prop) (j:K p):oq (rgPV (gO (c.ext X) s)[glen c + i]?) K:=oq.mk (rg_at i h) j
noncomputable def FrD (c:OG) (v:Bool) (e f g h:LV):Fr:=[.val (.reg 6),.val (decl v),.val (.reg (glen c + 1)),.val (.reg (glen c)),.val (.reg (glen c + 2)),.val (.int 0),.val (.bool false),.val (.tup [.str (vn v)]),.val (.str k_0),.val nodeA,e,f,g,h]
section
variable {Q:Flo -> Fr -> Gs -> Prop} {e f g h:LV}
theorem dc2 (he:hasK l k_A = false) (h1:s.sp + 1 <= 20000) (h2:s.ht + 1 <= 100) (h3:0 <= s.ct) (h4:s.ct < 900000)
  (q:Q .nx (FrD c v .unset (.val relA) (.val (.lst [.str (fr v (s.ct + 1))])) .unset) (gO (c.ext [.list [],.dict l,.list []]) s.frs)) :
  dTupSw [11,12] (dTup (dCons (dMeth mt0 (dName 0) k_expr (dCons (dName 9) (dCons (dName 2) dNil))) (dCons (dFr (dComp 14 2 (dMeth mt0 (dName 0) k_fresh (dCons (dName 15) dNil)) (dIv (dName 7)) (aName 15) dTrue [])) dNil)))
   (orc (n + 7)) (FrD c v .unset .unset .unset .unset) (gO (c.ext [.list [],.dict l,.list []]) s) Q :=
 e_wholer (c:=c.ext [.list [],.dict l,.list []]) (k:=glen c + 1) (fun s=>rg_at 1 rfl) he h1 h2 _ (fresh_ok (c:=c.ext [.list [],.dict l,.list []]) (n:=n + 6) (s:=s.inn.out) v h3 h4 _ q)
theorem dc3 (q:Q .nx (FrD c v e (.val relA) g h) (gO (c.ext X) s)):dIf (dB (dBin fNe (dMeth mt0 (dName 0) k_arity (dCons (dName 11) dNil)) (dConst (PV.int 1)))) (dSeq dNo dSkip) dSkip (orc (n + 4)) (FrD c v e (.val relA) g h) (gO (c.ext X) s) Q :=
 arity_A (n:=n) (c:=c.ext X) _ q
theorem dc4 {k:Nm} {l1:RA} (q:Q .nx (FrD c v (.val (.str k)) (.val relA) (.val (.lst [.str k])) (.val (.int 0))) (gO (c.ext [.list [.tup [.str k,relA]],l1,.list []]) s)) :
  dFor (dEnum (dName 12)) (aTup 2 (aCons (aName 13) (aCons (aName 10) aNil)))
       (dSeq (dLm fAppend (dNameH 3) (dCons (dTup (dCons (dName 10) (dCons (dName 11) dNil))) dNil))
        (dSeq
         (dLm fExtend (dNameH 4)
          (dCons
           (dFr
            (dComp 14 2
             (dTup
              (dCons (dConst (PV.str k_not))
               (dCons
                (dTup
                 (dCons (dConst (PV.str k_same))
                  (dCons (dTup (dCons (dConst (PV.str k_var)) (dCons (dName 10) dNil)))
                   (dCons (dTup (dCons (dConst (PV.str k_var)) (dCons (dName 15) dNil))) dNil))))
                dNil)))
             (dIv (dSlice (dName 12) dPt0 (dPt1 (dName 13)))) (aName 15) (dT (dName 6)) []))
           dNil))
         dSkip)) (orc n) (FrD c v .unset (.val relA) (.val (.lst [.str k])) .unset) (gO (c.ext [.list [],l1,.list []]) s) Q:=by
 refine (oqR (c:=c) (s:=s) (X:=[.list [],l1,.list []]) 0 rfl :) _ ?_
 refine (oqR (c:=c) (s:=s) (X:=[.list [],l1,.list []]) 0 rfl :) _ ?_
 refine (oqk (rg_st (p:=.lst []) 2 (ext_set (c:=c) (s:=s) (X:=[.list [],l1,.list []]) 0 (a:=.list [.tup [.str k,relA]])) rfl rfl) :) _ ?_
 refine (oqk (rg_st (p:=.lst []) 2 (ext_set (c:=c) (s:=s) (X:=[.list [],l1,.list []]) 0 (a:=.list [.tup [.str k,relA]])) rfl rfl) :) _ ?_
 exact (congrArg (Q .nx _) (st_st 2 (ext_set (c:=c) (s:=s) (X:=[.list [],l1,.list []]) 0 (a:=.list [.tup [.str k,relA]])) rfl)).mpr q
theorem len9 (he:EnvL l cl):decide (l.length <= 900) = true:=decide_eq_true (Nat.le_trans (Nat.le_trans (Nat.le_add_right _ _) he.len) (Nat.le_of_ble_eq_true rfl))
theorem dc5 {k:Nm} {A B:RA} (he:EnvL l cl) (q:Q .nx (FrD c v e (.val relA) (.val (.lst [.str k])) h) (gO (c.ext [A,.dict (putD l (vn v) (.tup [.str k_var,.str k])),B]) s)) :
  dUpd (dNameH 2) (dCons (dFr (dComp 14 3 (dTup (dCons (dName 15) (dCons (dTup (dCons (dConst (PV.str k_var)) (dCons (dName 16) dNil))) dNil)))
   (dZip (dName 7) (dName 12)) (aTup 2 (aCons (aName 15) (aCons (aName 16) aNil))) dTrue [])) dNil) (orc n) (FrD c v e (.val relA) (.val (.lst [.str k])) h) (gO (c.ext [A,.dict l,B]) s) Q:=by
 refine (oqR (c:=c) (s:=s) (X:=[A,.dict l,B]) 1 rfl :) _ ?_
 refine (oqR (c:=c) (s:=s) (X:=[A,.dict l,B]) 1 rfl :) _ ?_
 conv=>whnf
 refine bq.mk (len9 he) ?_
 exact (congrArg (Q .nx _) (ext_set (c:=c) (s:=s) (X:=[A,.dict l,B]) 1)).mpr q
theorem fPairs_items:∀ {q:List (Nm × PV)} {K:List (Nm × PV) -> Prop},K q -> fPairsS (itemsP q) K
 | [],_,h=>h
 | (k,p) :: q,K,h=>fPairs_items (q:=q) (K:=fun r=>K ((k,p) :: r)) h
theorem cost_fold {o:Orc} {G:Gs} {K:List PV -> Fr -> Gs -> Prop} (cl:List (Nm × PV)) (acc:List PV) (x y:LV) (hl:acc.length + cl.length <= 1000) (q:∀ fr,K (acc ++ itemsP (cut v cl)) fr G) :
  foldC (dStep o (aTup 2 (aCons (aName 15) (aCons (aName 16) aNil))) (dB (dBinH fNotIn (dName 15) (dNameH 7))) (dNext o (dTup (dCons (dName 15) (dCons (dName 16) dNil))) [])) (itemsP cl) acc (FrD c v e f g h ++ [.unset,x,y]) G K :=
 fold_gen (α:=Nm × PV) (β:=LV × LV) (F:=fun x=>FrD c v e f g h ++ [.unset,x.1,x.2]) (g:=fun p=>(.val (.str p.1),.val p.2)) (c:=fun p=>.tup [.str p.1,p.2]) (f:=fun p=>.tup [.str p.1,p.2]) (P:=fun p=>!(p.1 == vn v)) (fun a x K h=>h) cl acc (x,y) (fun p zq K k=>by
  have e:(!((vn v == p.1) || false)) = !(p.1 == vn v):=by rw [Bool.or_false,Bool.beq_comm]
  rw [<- e] at k
  exact k) (fun a ha K k=>k) hl fun x=>q _
theorem rgD_at {X:Gs} (i:Nat) {p:List (Nm × PV)} (h:rgD X[i]? = some p):rgD (gO (c.ext X) s)[glen c + i]? = some p:=by rw [ext_get]; exact h
theorem dc6 {A B:RA} {E:List (Nm × PV)} (hc:CutOk v cl) (hcl:cl.length <= 900) (hE:E.length <= 900) (hg:(fd E k_0).getD (.dct []) = .dct cl) (q:Q .nx (FrD c v e f g h) (gO (c.ext [A,.dict (putD E k_0 (.dct (cut v cl))),B]) s)) :
  dAssign (dFr (dH1 fDictLS (dOf (dFr (dComp 14 3 (dTup (dCons (dName 15) (dCons (dName 16) dNil)))
              (dItems (dGet (dNameH 2) (dCons (dConst (PV.str k_0)) (dCons (dFr dDisp0) dNil))))
              (aTup 2 (aCons (aName 15) (aCons (aName 16) aNil))) (dB (dBinH fNotIn (dName 15) (dNameH 7))) [])))))
         (aSub (dNameH 2) (dConst (PV.str k_0))) (orc n) (FrD c v e f g h) (gO (c.ext [A,.dict E,B]) s) Q:=by
 refine (oqR (c:=c) (s:=s) (X:=[A,.dict E,B]) 1 rfl :) _ ?_
 refine oq_get (rg_at (c:=c) (s:=s) (X:=[A,.dict E,B]) 1 rfl) hg ?_
 refine cost_fold cl [] .unset .unset (Nat.le_trans (Nat.le_of_eq (Nat.zero_add _)) (Nat.le_trans hcl (Nat.le_of_ble_eq_true rfl))) fun fr=>?_
 refine fPairs_items (q:=cut v cl) (K:=fun q=>_) ?_
 conv=>whnf
 refine bq.mk (decide_eq_true (Nat.le_trans hc.l (Nat.le_of_ble_eq_true rfl))) ?_
 rw [hc.m]
 conv=>whnf
 exact oq.mk (rgD_at (c:=c) (s:=s) (X:=[A,.dict E,B]) 1 rfl) (bq.mk (decide_eq_true (Nat.le_trans hE (Nat.le_of_ble_eq_true rfl))) ((congrArg (Q .nx _) (ext_set (c:=c) (s:=s) (X:=[A,.dict E,B]) 1)).mpr q))
end
theorem seal_mk {X:Gs} {ks:List Bool} {d3:DS} {o:Orc} {Q:Flo -> Fr -> Gs -> Prop} {fr:Fr} (hc:c.ok) (hl:(ks.length == fr.length) = true) (h:sealR (glen c) (glen c + X.length) X.reverse (keepOnly ks fr) fun fr=>d3 o fr (gO c s) Q) :
  kSeal ks d3 o (glen c) Q .nx fr (gO (c.ext X) s):=by
 have e1:(gO (c.ext X) s).length = glen c + X.length:=by rw [gO_eq,List.length_append]; rfl
 have e2:(gO (c.ext X) s).take (glen c) = gO c s:=ext_take
 have e3:(gO (c.ext X) s).drop (glen c) = X:=ext_drop
 show bq (decide (glen c <= (gO (c.ext X) s).length)) (bq (ks.length == fr.length) (bq (((gO (c.ext X) s).take (glen c)).all (RA.lo (glen c))) (sealR (glen c) (gO (c.ext X) s).length ((gO (c.ext X) s).drop (glen c)).reverse (keepOnly ks fr) fun fr=>d3 o fr ((gO (c.ext X) s).take (glen c)) Q)))
 rw [e1,e2,e3]
 exact bq.mk (decide_eq_true (Nat.le_add_right _ _)) (bq.mk hl (bq.mk (hc.all glen_le) h))
theorem ne1 {n:Nat}:(n == n + 1) = false:=beq_eq_false_iff_ne.mpr (Nat.ne_of_lt (Nat.lt_succ_self n))
theorem ne2 {n:Nat}:(n == n + 2) = false:=beq_eq_false_iff_ne.mpr (Nat.ne_of_lt (Nat.lt_add_of_pos_right (by decide)))
theorem seal_nil {m:Nat}:∀ {k:Nat} {fr:Fr} {Q:Fr -> Prop},Q fr -> sealR m k [] fr Q
 | 0,_,_,h=>h
 | _ + 1,_,_,h=>h
theorem seal3_mk {n:Nat} {g0 g1 g2:RA} {C0 C1 C2:PV} (c0:g0.content = some C0) (c1:g1.content = some C1) (c2:g2.content = some C2) (p0:∀ m,g0.lo m = true) (p1:∀ m,g1.lo m = true) (q0:Pure C0) (q1:Pure C1) (q2:Pure C2) {Q:Fr -> Prop}
  (q:Q [.any,.any,.val C1,.val C0,.val C2,.any,.any,.any,.any,.any,.any,.any,.any,.any]) :
  sealR n (n + 3) [g2,g1,g0] [.any,.any,.val (.reg (n + 1)),.val (.reg n),.val (.reg (n + 2)),.any,.any,.any,.any,.any,.any,.any,.any,.any] Q:=by
 refine oq.mk c2 (bq.mk (q2 _) ?_)
 show sealR n (n + 2) [g1.sub (n + 2) C2,g0.sub (n + 2) C2] [.any,.any,.val (cond (n + 1 == n + 2) C2 (.reg (n + 1))),.val (cond (n == n + 2) C2 (.reg n)),.val (cond (n + 2 == n + 2) C2 (.reg (n + 2))),.any,.any,.any,.any,.any,.any,.any,.any,.any] Q
 rw [RA.sub_below (Nat.le_refl _) (p1 _),RA.sub_below (Nat.le_refl _) (p0 _),beq_self_eq_true,ne1,ne2]
 refine oq.mk c1 (bq.mk (q1 _) ?_)
 show sealR n (n + 1) [g0.sub (n + 1) C1] [.any,.any,.val (cond (n + 1 == n + 1) C1 (.reg (n + 1))),.val (cond (n == n + 1) C1 (.reg n)),.val (PV.sub (n + 1) C1 C2),.any,.any,.any,.any,.any,.any,.any,.any,.any] Q
 rw [RA.sub_below (Nat.le_refl _) (p0 _),beq_self_eq_true,ne1,PV.sub_below (Nat.le_refl _) _ (q2 _)]
 refine oq.mk c0 (bq.mk (q0 _) ?_)
 refine seal_nil ?_
 show Q [.any,.any,.val (PV.sub n C0 C1),.val (cond (n == n) C0 (.reg n)),.val (PV.sub n C0 C2),.any,.any,.any,.any,.any,.any,.any,.any,.any]
 rw [PV.sub_below (Nat.le_refl _) _ (q1 _),PV.sub_below (Nat.le_refl _) _ (q2 _),beq_self_eq_true]
 exact q
theorem vn0:(vn v == k_0) = false:=by cases v <;> rfl
theorem putLen {a:Nm} {p:PV} (h:l.length <= 3):(putD l a p).length <= 900:=by
 rw [put_len]
 exact Nat.le_trans (Nat.add_le_add h (show cond (hasK l a) 0 1 <= 1 by cases hasK l a <;> decide)) (by decide)
theorem cl2 (h:CL cl):cl.length <= 900:=by cases h <;> exact Nat.le_of_ble_eq_true rfl
section
variable {o:Orc} {fr fr':Fr} {G:Gs} {Q:Flo -> Fr -> Gs -> Prop} {d r:DS} {da:DA} {db:DS}
theorem seq_go (h:d o fr G (kSeq r o Q)):dSeq d r o fr G Q:=h
theorem ks_go (h:r o fr G Q):kSeq r o Q .nx fr G:=h
theorem skip_go (h:Q .nx fr G):dSkip o fr G Q:=h
theorem for_go {i:Nat} {a p:PV} (h1:fv fr i = some a) (h2:pvQ a = some [p]) (h3:∀ K:Fr -> Gs -> Prop,K fr' G -> da o p fr G K) (h:db o fr' G (kFor (foldS (dTurn o da db) []) Q)):dFor (dIv (dName i)) da db o fr G Q :=
 oq.mk h1 (oq.mk h2 (h3 _ h))
theorem for_end (h:Q .nx fr G):kFor (foldS (dTurn o da db) []) Q .nx fr G:=h
theorem dc1 {e f g h:LV} (q:Q .nx (FrD c v e f g h) G):dIf (dB (dBinH fNotIn (dName 8) (dOf (dTup (dCons (dConst (PV.str k_0)) (dCons (dConst (PV.str k_one)) dNil)))))) (dSeq dNo dSkip) dSkip o (FrD c v e f g h) G Q:=q
end
theorem decls_in {G:Gs} {k1 k2:Nat} (hc:c.ok) (he:EnvL l cl) (h1:s.sp + 1 <= 20000) (h2:s.ht + 1 <= 100) (h3:0 <= s.ct) (h4:s.ct < 900000) {Q:PV -> Gs -> Prop} (e:G = gO (c.ext [.list [],.dict l,.list []]) s) (hk1:k1 = glen c + 1) (hk2:k2 = glen c + 2)
  (h:Q (.tup [told v (s.ct + 1),.dct (envV l cl v (s.ct + 1)),.lst []]) (gO c s.frs)) :
  (dFor (dIv (dName 1)) (aTup 5 (aCons (aName 5) (aCons (aName 6) (aCons (aName 7) (aCons (aName 8) (aCons (aName 9) aNil))))))
  (dSeq (dIf (dB (dBinH fNotIn (dName 8) (dOf (dTup (dCons (dConst (PV.str k_0)) (dCons (dConst (PV.str k_one)) dNil)))))) (dSeq dNo dSkip) dSkip)
   (dSeq
    (dTupSw [11,12]
     (dTup
      (dCons (dMeth mt0 (dName 0) k_expr (dCons (dName 9) (dCons (dName 2) dNil)))
       (dCons (dFr (dComp 14 2 (dMeth mt0 (dName 0) k_fresh (dCons (dName 15) dNil)) (dIv (dName 7)) (aName 15) dTrue [])) dNil))))
    (dSeq (dIf (dB (dBin fNe (dMeth mt0 (dName 0) k_arity (dCons (dName 11) dNil)) (dConst (PV.int 1)))) (dSeq dNo dSkip) dSkip)
     (dSeq
      (dFor (dEnum (dName 12)) (aTup 2 (aCons (aName 13) (aCons (aName 10) aNil)))
       (dSeq (dLm fAppend (dNameH 3) (dCons (dTup (dCons (dName 10) (dCons (dName 11) dNil))) dNil))
        (dSeq
         (dLm fExtend (dNameH 4)
          (dCons
           (dFr
            (dComp 14 2
             (dTup
              (dCons (dConst (PV.str k_not))
               (dCons
                (dTup
                 (dCons (dConst (PV.str k_same))
                  (dCons (dTup (dCons (dConst (PV.str k_var)) (dCons (dName 10) dNil)))
                   (dCons (dTup (dCons (dConst (PV.str k_var)) (dCons (dName 15) dNil))) dNil))))
                dNil)))
             (dIv (dSlice (dName 12) dPt0 (dPt1 (dName 13)))) (aName 15) (dT (dName 6)) []))
           dNil))
         dSkip)))
      (dSeq
       (dUpd (dNameH 2)
        (dCons
         (dFr
          (dComp 14 3 (dTup (dCons (dName 15) (dCons (dTup (dCons (dConst (PV.str k_var)) (dCons (dName 16) dNil))) dNil)))
           (dZip (dName 7) (dName 12)) (aTup 2 (aCons (aName 15) (aCons (aName 16) aNil))) dTrue []))
         dNil))
       (dSeq
        (dAssign
         (dFr
          (dH1 fDictLS
           (dOf
            (dFr
             (dComp 14 3 (dTup (dCons (dName 15) (dCons (dName 16) dNil)))
              (dItems (dGet (dNameH 2) (dCons (dConst (PV.str k_0)) (dCons (dFr dDisp0) dNil))))
              (aTup 2 (aCons (aName 15) (aCons (aName 16) aNil))) (dB (dBinH fNotIn (dName 15) (dNameH 7))) [])))))
         (aSub (dNameH 2) (dConst (PV.str k_0))))
        dSkip))))))) (orc (n + 7)) [.val (.reg 6),.val (decl v),.val (.reg k1),.val (.reg (glen c)),.val (.reg k2),.unset,.unset,.unset,.unset,.unset,.unset,.unset,.unset,.unset] G
   (kSeal [false,false,true,true,true,false,false,false,false,false,false,false,false,false] (dRet (dTup (dCons (dH1 fTup (dNameH 3)) (dCons (dName 2) (dCons (dName 4) dNil))))) (orc (n + 7)) (glen c) (kBody Q)):=by
 subst e; subst hk1; subst hk2
 have hk:=cut_ok v he.sh
 have hlo:∀ m,PV.lod m (envV l cl v (s.ct + 1)) = true:=fun m=>lod_put (p:=.dct (cut v cl)) (lod_put (p:=pE (.var v (s.ct + 1))) (he.lo m) rfl) (hk.p m)
 refine for_go (fr':=FrD c v .unset .unset .unset .unset) rfl rfl (fun K h=>h) ?_
 refine seq_go (dc1 (ks_go (seq_go (dc2 he.A h1 h2 h3 h4 (ks_go (seq_go (dc3 (n:=n + 3) (ks_go (seq_go (dc4 (ks_go (seq_go (dc5 he (ks_go (seq_go (dc6 hk (cl2 he.sh) (putLen (Nat.le_trans (Nat.le_add_right _ _) he.len)) (by rw [fd_put,vn0]; exact he.cost) (ks_go (skip_go (for_end ?_)))))))))))))))))))
 refine seal_mk hc rfl ?_
 exact seal3_mk (n:=glen c) (g0:=.list [.tup [.str (fr v (s.ct + 1)),relA]]) (g1:=.dict (envV l cl v (s.ct + 1))) (g2:=.list []) rfl rfl rfl (fun m=>rfl) hlo (fun m=>rfl) hlo (fun m=>rfl) h
theorem decls_ok (hc:c.ok) (he:EnvL l cl) (h1:s.sp + 1 <= 20000) (h2:s.ht + 1 <= 100) (h3:0 <= s.ct) (h4:s.ct < 900000) :
  Ev (n + 8) 324 [.reg 6,decl v,.dct l] (gO c s) (.tup [told v (s.ct + 1),.dct (envV l cl v (s.ct + 1)),.lst []]) (gO c s.frs):=fun Q h =>
 c_decls_of (bq.mk rfl (bq.mk (len9 he) (decls_in hc he h1 h2 h3 h4 app3 len1 len2 h)))
end
section
variable {c:OG} {n:Nat} {s s1 s2:OS} {l cl:List (Nm × PV)} {X Y:Gs} {i m:Nat} {C:PV} {v:Bool}
noncomputable def W3.par (M:Md):W3 -> Bool | .g=>M.gp | .p=>M.pp | .q=>M.qp
section
variable {w:PV} {ar:PV} {D Z:List (Nm × PV)} {k:Nm} {nd e p:PV} {Q:Flo -> Fr -> Gs -> Prop}
noncomputable def FrC (w ar:PV) (l:List (Nm × PV)) (x y z:LV):Fr:=[.val (.reg 6),.val w,.val ar,.val (.dct l),x,y,z]
theorem ce_turn (h1:Ev (n + 10) 239 [.reg 6,nd,.dct l] (gO (c.ext [.dict Z]) s) (.tup [e,p]) (gO (c.ext [.dict Z]) s1)) (hd:D.length <= 1000) (hz:Z.length <= 1000) (hD:fd (putD D k e) k_0 = some (.reg (glen c)))
  (q:Q .nx (FrC w ar l (.od (putD D k e)) (.val (.str k)) (.val nd)) (gO (c.ext [.dict (putD Z k p)]) s1)) :
  dAssign (dMeth mt0 (dName 0) k_measured (dCons (dName 6) (dCons (dName 3) dNil)))
    (aTup 2 (aCons (aSub (dNameH 4) (dName 5)) (aCons (aSub (dOf (dSub (dNameH 4) (dConst (PV.str k_0)))) (dName 5)) aNil))) (orc (n + 10)) (FrC w ar l (.od D) (.val (.str k)) (.val nd)) (gO (c.ext [.dict Z]) s) Q:=by
 refine h1 _ ?_
 conv=>whnf
 refine bq.mk (decide_eq_true hd) ?_
 conv=>whnf
 refine oq.mk hD ?_
 conv=>whnf
 exact oq.mk (rgD_at (c:=c) (s:=s1) (X:=[.dict Z]) 0 rfl) (bq.mk (decide_eq_true hz) ((congrArg (Q .nx _) (ext_set (c:=c) (s:=s1) (X:=[.dict Z]) 0)).mpr q))
theorem ce_zip {o:Orc} {K:List PV -> Gs -> Prop} {a b:PV} {x:LV} (w:W3) (q:K [.tup [.str (vn (w.par c.M)),a],.tup [.str (vn !(w.par c.M)),b]] (gO (c.ext X) s)) :
  dZip (dFr (dComp 7 3 (dName 9) (dIv (dSub (dOf (dSub (dOf (dAttr ft0 (dName 0) k_calls)) (dName 1))) (dConst (PV.int 3)))) (aName 8) dTrue
     [(dIv (dSub (dNameH 8) (dConst (PV.int 2))),aName 9,dTrue)])) (dName 2) o (FrC (.str w.tx) (.tup [a,b]) l x .unset .unset) (gO (c.ext X) s) K:=by
 cases w <;> exact q
end
theorem seal1_mk {n:Nat} {Z:List (Nm × PV)} {a b:Nm} {e f:PV} (hz:Pured Z) (he:Pure e) (hf:Pure f) {Q:Fr -> Prop} (q:Q [.any,.any,.any,.any,.od [(k_0,.dct Z),(a,e),(b,f)],.any,.any]) :
  sealR n (n + 1) [.dict Z] [.any,.any,.any,.any,.od [(k_0,.reg n),(a,e),(b,f)],.any,.any] Q:=by
 refine oq.mk rfl (bq.mk (hz _) ?_)
 refine seal_nil ?_
 show Q [.any,.any,.any,.any,.od [(k_0,cond (n == n) (.dct Z) (.reg n)),(a,PV.sub n (.dct Z) e),(b,PV.sub n (.dct Z) f)],.any,.any]
 rw [PV.sub_below (Nat.le_refl _) _ (he _),PV.sub_below (Nat.le_refl _) _ (hf _),beq_self_eq_true]
 exact q
section
variable {o:Orc} {fr fr' fr2:Fr} {G:Gs} {Q:Flo -> Fr -> Gs -> Prop} {da:DA} {db:DS} {p:PV} {r:List PV}
theorem fold_go (h3:∀ K:Fr -> Gs -> Prop,K fr' G -> da o p fr G K) (h:db o fr' G (kFor (foldS (dTurn o da db) r) Q)):foldS (dTurn o da db) (p :: r) fr G Q:=h3 _ h
theorem kf_go (h:foldS (dTurn o da db) r fr G Q):kFor (foldS (dTurn o da db) r) Q .nx fr G:=h
end
theorem seal_go {o:Orc} {fr:Fr} {G:Gs} {Q:Flo -> Fr -> Gs -> Prop} {ks:List Bool} {d1 d2 d3:DS} (h:dSeq d1 d2 o fr G (kSeal ks d3 o G.length Q)):dSeal3 ks d1 d2 d3 o fr G Q:=h
theorem seq3_go {o:Orc} {fr fr':Fr} {G G':Gs} {Q:Flo -> Fr -> Gs -> Prop} {d r:DS} (h3:∀ K:Flo -> Fr -> Gs -> Prop,K .nx fr' G' -> d o fr G K) (h:r o fr' G' Q):dSeq d r o fr G Q:=h3 _ h
theorem forz_go {o:Orc} {fr:Fr} {G:Gs} {Q:Flo -> Fr -> Gs -> Prop} {di:DI} {da:DA} {db:DS} (h:di o fr G fun l G=>foldS (dTurn o da db) l fr G Q):dFor di da db o fr G Q:=h
theorem call_env_b {b:Bool} {t u:PV} {p q e f:PV} {w:PV} {Q:Flo -> Fr -> Gs -> Prop}
  (h1:Ev (n + 10) 239 [.reg 6,t,.dct l] (gO (c.ext [.dict []]) s) (.tup [e,p]) (gO (c.ext [.dict []]) s1))
  (h2:Ev (n + 10) 239 [.reg 6,u,.dct l] (gO (c.ext [.dict [(vn b,p)]]) s1) (.tup [f,q]) (gO (c.ext [.dict [(vn b,p)]]) s2))
  (h:Q .nx (FrC w (.tup [t,u]) l (.od [(k_0,.reg (glen c)),(vn b,e),(vn !b,f)]) (.val (.str (vn !b))) (.val u)) (gO (c.ext [.dict [(vn b,p),(vn !b,q)]]) s2)) :
  foldS (dTurn (orc (n + 10)) (aTup 2 (aCons (aName 5) (aCons (aName 6) aNil))) (dSeq (dAssign (dMeth mt0 (dName 0) k_measured (dCons (dName 6) (dCons (dName 3) dNil)))
    (aTup 2 (aCons (aSub (dNameH 4) (dName 5)) (aCons (aSub (dOf (dSub (dNameH 4) (dConst (PV.str k_0)))) (dName 5)) aNil)))) dSkip)) [.tup [.str (vn b),t],.tup [.str (vn !b),u]] (FrC w (.tup [t,u]) l (.od [(k_0,.reg (glen c))]) .unset .unset) (gO (c.ext [.dict []]) s) Q:=by
 cases b with
 | false =>
  refine fold_go (fr':=FrC w (.tup [t,u]) l (.od [(k_0,.reg (glen c))]) (.val (.str (vn false))) (.val t)) (fun K h=>h) (seq_go (ce_turn h1 (Nat.le_of_ble_eq_true rfl) (Nat.le_of_ble_eq_true rfl) rfl (ks_go (skip_go (kf_go ?_)))))
  exact fold_go (fr':=FrC w (.tup [t,u]) l (.od [(k_0,.reg (glen c)),(vn false,e)]) (.val (.str (vn !false))) (.val u)) (fun K h=>h) (seq_go (ce_turn h2 (Nat.le_of_ble_eq_true rfl) (Nat.le_of_ble_eq_true rfl) rfl (ks_go (skip_go (kf_go h)))))
 | true =>
  refine fold_go (fr':=FrC w (.tup [t,u]) l (.od [(k_0,.reg (glen c))]) (.val (.str (vn true))) (.val t)) (fun K h=>h) (seq_go (ce_turn h1 (Nat.le_of_ble_eq_true rfl) (Nat.le_of_ble_eq_true rfl) rfl (ks_go (skip_go (kf_go ?_)))))
  exact fold_go (fr':=FrC w (.tup [t,u]) l (.od [(k_0,.reg (glen c)),(vn true,e)]) (.val (.str (vn !true))) (.val u)) (fun K h=>h) (seq_go (ce_turn h2 (Nat.le_of_ble_eq_true rfl) (Nat.le_of_ble_eq_true rfl) rfl (ks_go (skip_go (kf_go h)))))
theorem call_env_ok (w:W3) {t u:PV} {p q e f:PV}
  (h1:Ev (n + 10) 239 [.reg 6,t,.dct l] (gO (c.ext [.dict []]) s) (.tup [e,p]) (gO (c.ext [.dict []]) s1))
  (h2:Ev (n + 10) 239 [.reg 6,u,.dct l] (gO (c.ext [.dict [(vn (w.par c.M),p)]]) s1) (.tup [f,q]) (gO (c.ext [.dict [(vn (w.par c.M),p)]]) s2))
  (hc:c.ok) (he:Pure e) (hf:Pure f) (hp:Pure p) (hq:Pure q) :
  Ev (n + 11) 293 [.reg 6,.str w.tx,.tup [t,u],.dct l] (gO c s) (.dct (callEnv (w.par c.M) p q e f)) (gO c s2):=fun Q h=>by
 refine c_call_env (bq.mk rfl ?_)
 delta runBody W_call_env
 dsimp only
 refine seal_go ?_
 refine seq3_go (fr':=FrC (.str w.tx) (.tup [t,u]) l (.od [(k_0,.reg (glen c))]) .unset .unset) (G':=gO (c.ext [.dict []]) s) (fun K h=>h) ?_
 refine forz_go ?_
 refine ce_zip w ?_
 refine call_env_b (b:=w.par c.M) h1 h2 ?_
 refine seal_mk hc rfl ?_
 exact seal1_mk (Z:=[(vn (w.par c.M),p),(vn !(w.par c.M),q)]) (fun m=>aB (hp m) (aT (hq m))) he hf h
end
section
variable {M:Md} {I I':Wd -> Itp} {p p1 p2 pb q q1 q2 qb K J:Ln} {F F1 F2 F3:Nat} {l cl:List (Nm × PV)} {ρ:Bool -> CE} {cn cL k:Int} {v:Bool} {N N1 N2 L L1 L2:Int} {s s1 s2:OS}
theorem msF {m:Nat}:∀ x y z:Bool,m + cond x 0 1 + (0 + cond y 0 1 + cond z 0 1) <= m + (cond x 0 1 + cond y 0 1 + cond z 0 1):=fun x y z=>by omega
theorem msT {m:Nat}:∀ x y z:Bool,m + cond y 0 1 + (cond x 0 1 + 0 + cond z 0 1) <= m + (cond x 0 1 + cond y 0 1 + cond z 0 1):=fun x y z=>by omega
theorem ms0 {m:Nat}:∀ x y z:Bool,m + cond z 0 1 + (cond x 0 1 + cond y 0 1 + 0) <= m + (cond x 0 1 + cond y 0 1 + cond z 0 1):=fun x y z=>by omega
theorem ms_put {x:PV} (b:Bool):(putD l (vn b) x).length + ms (putD l (vn b) x) <= l.length + ms l:=by
 unfold ms
 rw [put_len,has_put,has_put,has_put]
 cases b
 ·exact msF _ _ _
 ·exact msT _ _ _
theorem ms_put0 {x:PV}:(putD l k_0 x).length + ms (putD l k_0 x) <= l.length + ms l:=by
 unfold ms
 rw [put_len,has_put,has_put,has_put]
 exact ms0 _ _ _
theorem envV_ok (he:EnvL l cl):EnvL (envV l cl v k) (cut v cl) where
 A:=by unfold envV; rw [has_put,has_put,he.A]; cases v <;> rfl
 f:=by unfold envV; rw [has_put,has_put,he.f]; cases v <;> rfl
 w:=fun w=>by unfold envV; rw [has_put,has_put,he.w w]; cases v <;> cases w <;> rfl
 cost:=by unfold envV; rw [fd_put,beq_self_eq_true]; rfl
 sh:=(cut_ok v he.sh).c
 lo:=fun m=>lod_put (p:=.dct (cut v cl)) (lod_put (p:=pE (.var v k)) (he.lo m) rfl) ((cut_ok v he.sh).p m)
 len:=Nat.le_trans ms_put0 (Nat.le_trans (ms_put v) he.len)
theorem fd_envV (w:Bool):fd (envV l cl v k) (vn w) = some (pE (upd (fun zq=>.A) v (.var v k) w)) /\ w = v \/ fd (envV l cl v k) (vn w) = fd l (vn w) /\ w ≠ v:=by
 unfold envV
 rw [fd_put,fd_put]
 cases v <;> cases w
 ·exact .inl ⟨rfl,rfl⟩
 ·exact .inr ⟨rfl,nofun⟩
 ·exact .inr ⟨rfl,nofun⟩
 ·exact .inl ⟨rfl,rfl⟩
theorem fd_cut (h:CL cl) (w:Bool) (hw:w ≠ v):fd (cut v cl) (vn w) = fd cl (vn w):=by
 cases h with
 | nil=>rfl
 | one b=>cases b <;> cases v <;> cases w <;> first | rfl | exact absurd rfl hw
 | two b=>cases b <;> cases v <;> cases w <;> first | rfl | exact absurd rfl hw
theorem fd_cut0 (h:CL cl):fd (cut v cl) (vn v) = none:=by
 cases h with
 | nil=>rfl
 | one b=>cases b <;> cases v <;> rfl
 | two b=>cases b <;> cases v <;> rfl
theorem envR_V (he:EnvR l cl ρ cn cL) (h1:1 <= cn) (h2:1 <= cL):EnvR (envV l cl v k) (cut v cl) (upd ρ v (.var v k)) cn cL where
 toEnvL:=envV_ok he.toEnvL
 v:=fun w=>by
  rcases fd_envV (l:=l) (cl:=cl) (v:=v) (k:=k) w with ⟨e,h⟩ | ⟨e,h⟩
  ·subst h; rw [e]; unfold upd; rw [if_pos rfl,if_pos rfl]
  ·rw [e,he.v w]; unfold upd; rw [if_neg h]
 c:=fun w=>by
  refine Decidable.byCases (fun h:w = v=>?_) fun h=>?_
  ·subst h; rw [fd_cut0 he.sh]; exact ⟨1,1,rfl,by decide,h1,by decide,h2⟩
  ·rw [fd_cut he.sh w h]; exact he.c w
theorem envR_C {b:Bool} {x y z t:Int} {e f:CE} (hx:0 <= x) (hx':x <= cn) (hy:0 <= y) (hy':y <= cL) (hz:0 <= z) (hz':z <= cn) (ht:0 <= t) (ht':t <= cL) :
  EnvR (callEnv b (.tup [.int x,.int y]) (.tup [.int z,.int t]) (pE e) (pE f)) [(vn b,.tup [.int x,.int y]),(vn !b,.tup [.int z,.int t])] (fun w=>if w = b then e else f) cn cL where
 A:=by cases b <;> rfl
 f:=by cases b <;> rfl
 w:=fun w=>by cases b <;> cases w <;> rfl
 cost:=rfl
 sh:=.two b x y z t
 lo:=fun m=>aB rfl (aB (pE_lo m e) (aT (pE_lo m f)))
 len:=by cases b <;> exact Nat.le_refl 3
 v:=fun w=>by cases b <;> cases w <;> rfl
 c:=fun w=>by
  cases b <;> cases w
  ·exact ⟨x,y,rfl,hx,hx',hy,hy'⟩
  ·exact ⟨z,t,rfl,hz,hz',ht,ht'⟩
  ·exact ⟨z,t,rfl,hz,hz',ht,ht'⟩
  ·exact ⟨x,y,rfl,hx,hx',hy,hy'⟩
theorem Tg.frs (s:OS):Tg s s.frs 1 1:=let t:=Tg.one s; ⟨t.sp,t.sp1,t.ht,t.pk,t.pk1,addr (by decide),Int.le_refl _⟩
theorem upd_fE {P:VP} (h:∀ v,fE P (ρ v)):∀ w,fE (addP P v k) (upd ρ v (.var v k) w):=fun w=>by
 unfold upd
 refine Decidable.byCases (fun e:w = v=>?_) fun e=>?_
 ·rw [if_pos e]; exact .inr ⟨rfl,rfl⟩
 ·rw [if_neg e]; exact fE_mono _ (fun zq zq=>.inl) (h w)
theorem upd_mean {W:Wd} {j:Int} (h:∀ v,fE (leP j) (ρ v)) (hk:j < k) (η:Bool -> Int -> Se) (x:Se):(fun w=>eE W (upd ρ v (.var v k) w) (updk η v k x)) = upd (fun w=>eE W (ρ w) η) v x:=by
 funext w
 unfold upd
 refine Decidable.byCases (fun e:w = v=>?_) fun e=>?_
 ·rw [if_pos e,if_pos e]; show updk η v k x v k = x; unfold updk; exact if_pos ⟨rfl,rfl⟩
 ·rw [if_neg e,if_neg e]
  exact eE_agree W _ (h w) fun u i (hi:i <= j)=>if_neg fun z:u = v /\ i = k=>absurd (z.2 ▸ hi) (Int.not_le.mpr hk)
theorem upd_le (h:∀ v,fE (leP k) (ρ v)):∀ w,fE (leP (k + 1)) (upd ρ v (.var v (k + 1)) w):=fun w=>by
 unfold upd
 refine Decidable.byCases (fun e:w = v=>?_) fun e=>?_
 ·rw [if_pos e]; exact Int.le_refl _
 ·rw [if_neg e]; exact fE_mono _ (leP_mono (addr (by decide))) (h w)
theorem upd_hE (h:∀ v,(hE (ρ v):Int) <= cL) (h2:1 <= cL):∀ w,(hE (upd ρ v (.var v k) w):Int) <= cL:=fun w=>by
 unfold upd
 refine Decidable.byCases (fun e:w = v=>?_) fun e=>?_
 ·rw [if_pos e]; exact h2
 ·rw [if_neg e]; exact h w
theorem Lim.frs (h:Lim s (1 + N) L):Lim s.frs N L:=by
 obtain ⟨a,b,c,d⟩:=h
 exact ⟨show s.sp + 1 + N <= 20000 by omega,show s.ht + 1 - 1 + L <= 100 by omega,show 0 <= s.ct + 1 by omega,show s.ct + 1 + N <= 100000 by omega⟩
theorem Lim.c9 (h:Lim s N L) (k:0 <= N):s.ct < 900000:=Int.lt_of_le_of_lt (Int.le_trans (addr k) h.ct1) (by decide)
theorem at1 {c:Int}:(Ln.mk 0 1).at c = 1:=at01
theorem spThose {f:TT} (hf:SpT M I f p q F) (hq:(Ln.mk 0 1).le q = true):SpS M I (.those v f) ((Ln.mk 0 1).add p).inc q.inc (F + 14):=fun m c s l cl ρ cn cL hm hc hM he h1 h2 hl=>by
 rw [at_inc,at_inc,at_add,at1] at hl ⊢
 obtain ⟨n,hn⟩:=fuel hm
 have n1:=at_nn (p:=p) h1
 have n2:=at_nn (p:=q) h2
 have hq:=at_le hq h2
 rw [at1] at hq
 have li:=hl.inn
 have hd:=decls_ok (n:=n + 4) (v:=v) hc he.toEnvL (s:=s.inn) (li.h1 n1) (Int.le_trans (Int.add_le_add_left hq _) li.ht) li.ct (li.c9 (Int.add_nonneg (by decide) n1))
 obtain ⟨e,s1,r1,t1,f1,m1,k1⟩:=hf (n + 12) c s.inn.frs _ _ _ cn cL (hn _) hc hM (envR_V (v:=v) (k:=s.inn.ct + 1) he h1 h2) h1 h2 li.frs
 exact ⟨.comp v (s.inn.ct + 1) e,_,expr_step (n:=n + 12) (hl.h1 (Int.add_nonneg (by decide) n1)) (hl.h2 n2) (eo_compr (n:=n + 4) hd r1),Tg.step (((Tg.frs s.inn).mono (Int.le_refl _) hq).trans t1) n2,fun P h=>f1 _ (upd_fE h),
  fun h W η=>funext fun a=>congrArg (W.A a && ·) ((m1 (upd_le h) W _).trans (congrArg (dnT W (I W) f) (upd_mean h (Int.lt_succ _) η _))),fun h=>hsucc (k1 (upd_hE h h2))⟩
theorem spQuant {any:Bool} {f:TT} (hf:SpT M I f p q F) (hq:(Ln.mk 0 1).le q = true):SpT M I (.quant any v f) ((Ln.mk 0 1).add p).inc q.inc (F + 14):=fun m c s l cl ρ cn cL hm hc hM he h1 h2 hl=>by
 rw [at_inc,at_inc,at_add,at1] at hl ⊢
 obtain ⟨n,hn⟩:=fuel hm
 have n1:=at_nn (p:=p) h1
 have n2:=at_nn (p:=q) h2
 have hq:=at_le hq h2
 rw [at1] at hq
 have li:=hl.inn
 have hd:=decls_ok (n:=n + 3) (v:=v) hc he.toEnvL (s:=s.inn) (li.h1 n1) (Int.le_trans (Int.add_le_add_left hq _) li.ht) li.ct (li.c9 (Int.add_nonneg (by decide) n1))
 obtain ⟨e,s1,r1,t1,f1,m1,k1⟩:=hf (n + 11) c s.inn.frs _ _ _ cn cL (hn _) hc hM (envR_V (v:=v) (k:=s.inn.ct + 1) he h1 h2) h1 h2 li.frs
 exact ⟨.quant any v (s.inn.ct + 1) e,_,truth_step (n:=n + 12) (hl.h1 (Int.add_nonneg (by decide) n1)) (hl.h2 n2) (to_quant (n:=n + 3) hd r1),Tg.step (((Tg.frs s.inn).mono (Int.le_refl _) hq).trans t1) n2,fun P h=>f1 _ (upd_fE h),
  fun h W η=>congrArg (qnt W any) (funext fun a=>(m1 (upd_le h) W _).trans (congrArg (dnT W (I W) f) (upd_mean h (Int.lt_succ _) η _))),fun h=>hsucc (k1 (upd_hE h h2))⟩
theorem spIn {a b:ST} (ha:SpS M I a p1 q1 F1) (hb:SpS M I b p2 q2 F2) (g1:q1.le q = true) (g2:q2.le q = true) (hF:Nat.ble F2 F1 = true):SpT M I (.isin a b) (p1.add p2).inc q.inc (F1 + 14):=fun m c s l cl ρ cn cL hm hc hM he h1 h2 hl=>by
 rw [at_inc,at_inc,at_add] at hl ⊢
 obtain ⟨n,hn⟩:=fuel hm
 have n1:=at_nn (p:=p1) h1
 have n2:=at_nn (p:=q) h2
 have n3:=at_nn (p:=p2) h1
 have li:=hl.inn
 have g1:=at_le g1 h2
 have g2:=at_le g2 h2
 obtain ⟨e,s1,r1,t1,f1,m1,k1⟩:=ha (n + 11) c s.inn l cl ρ cn cL (hn _) hc hM he h1 h2 ((li.l n3).mono (Int.le_refl _) g1)
 obtain ⟨e2,s2,r2,t2,f2,m2,k2⟩:=hb (n + 10) c s1 l cl ρ cn cL (Nat.le_trans (Nat.le_of_ble_eq_true hF) (hn _)) hc hM he h1 h2 ((li.next t1).mono (Int.le_refl _) g2)
 exact ⟨.isin e e2,_,truth_step (n:=n + 12) (hl.h1 (Int.add_nonneg n1 n3)) (hl.h2 n2) (to_in (n:=n + 3) r1 r2),Tg.step ((t1.mono (Int.le_refl _) g1).trans (t2.mono (Int.le_refl _) g2)) n2,fun P h=>⟨f1 P h,f2 P h⟩,
  fun h W η=>c2 sub3 (m1 h W η) (m2 (all_mono t1.ct h) W η),fun h=>hmax (Int.le_trans (k1 h) g1) (Int.le_trans (k2 h) g2)⟩
theorem spOr {a b:TT} (ha:SpT M I a p1 q1 F1) (hb:SpT M I b p2 q2 F2) (g1:q1.le q = true) (g2:q2.le q = true) (hF:Nat.ble F2 F1 = true):SpT M I (.or a b) (p1.add p2).inc q.inc (F1 + 14):=fun m c s l cl ρ cn cL hm hc hM he h1 h2 hl=>by
 rw [at_inc,at_inc,at_add] at hl ⊢
 obtain ⟨n,hn⟩:=fuel hm
 have n1:=at_nn (p:=p1) h1
 have n2:=at_nn (p:=q) h2
 have n3:=at_nn (p:=p2) h1
 have li:=hl.inn
 have g1:=at_le g1 h2
 have g2:=at_le g2 h2
 obtain ⟨e,s1,r1,t1,f1,m1,k1⟩:=ha (n + 11) c s.inn l cl ρ cn cL (hn _) hc hM he h1 h2 ((li.l n3).mono (Int.le_refl _) g1)
 obtain ⟨e2,s2,r2,t2,f2,m2,k2⟩:=hb (n + 11) c s1 l cl ρ cn cL (Nat.le_trans (Nat.le_of_ble_eq_true hF) (hn _)) hc hM he h1 h2 ((li.next t1).mono (Int.le_refl _) g2)
 exact ⟨.or e e2,_,truth_step (n:=n + 12) (hl.h1 (Int.add_nonneg n1 n3)) (hl.h2 n2) (to_or (n:=n + 3) r1 r2),Tg.step ((t1.mono (Int.le_refl _) g1).trans (t2.mono (Int.le_refl _) g2)) n2,fun P h=>⟨f1 P h,f2 P h⟩,
  fun h W η=>orE (m1 h W η) (m2 (all_mono t1.ct h) W η),fun h=>hmax (Int.le_trans (k1 h) g1) (Int.le_trans (k2 h) g2)⟩
theorem spSome {a:ST} (ha:SpS M I a p q F):SpT M I (.some a) p.inc q.inc (F + 14):=fun m c s l cl ρ cn cL hm hc hM he h1 h2 hl=>by
 rw [at_inc,at_inc] at hl ⊢
 obtain ⟨n,hn⟩:=fuel hm
 obtain ⟨e,s1,r1,t1,f1,m1,k1⟩:=ha (n + 12) c s.inn l cl ρ cn cL (hn _) hc hM he h1 h2 hl.inn
 exact ⟨.some e,_,truth_step (n:=n + 12) (hl.h1 (at_nn h1)) (hl.h2 (at_nn h2)) (to_some (n:=n + 4) r1),t1.step (at_nn h2),f1,fun h W η=>congrArg d3.any (m1 h W η),fun h=>hsucc (k1 h)⟩
theorem spNot {a:TT} (ha:SpT M I a p q F):SpT M I (.not a) p.inc q.inc (F + 14):=fun m c s l cl ρ cn cL hm hc hM he h1 h2 hl=>by
 rw [at_inc,at_inc] at hl ⊢
 obtain ⟨n,hn⟩:=fuel hm
 obtain ⟨e,s1,r1,t1,f1,m1,k1⟩:=ha (n + 12) c s.inn l cl ρ cn cL (hn _) hc hM he h1 h2 hl.inn
 exact ⟨.not e,_,truth_step (n:=n + 12) (hl.h1 (at_nn h1)) (hl.h2 (at_nn h2)) (to_not (n:=n + 4) r1),t1.step (at_nn h2),f1,fun h W η=>congrArg not (m1 h W η),fun h=>hsucc (k1 h)⟩
end
section
variable {M:Md} {I I':Wd -> Itp} {p p1 p2 pb q q1 q2 qb K J:Ln} {F F1 F2 F3:Nat} {l cl:List (Nm × PV)} {ρ:Bool -> CE} {cn cL kn kL:Int} {v:Bool} {N N1 N2 L L1 L2:Int} {s s1 s2:OS} {m:Nat} {c:OG} {a b:ST}
inductive Mea (m:Nat) (c:OG) (s:OS) (l:List (Nm × PV)) (ρ:Bool -> CE) (cL:Int) (I:Wd -> Itp) (a:ST) (N L:Int):Prop
 | mk (e:CE) (s1:OS) (x y:Int) (r:Ev (m + 10) 239 [.reg 6,nS a,.dct l] (gO c s) (.tup [pE e,.tup [.int x,.int y]]) (gO c s1)) (g:Tg s s1 N L) (x0:0 <= x) (x1:x <= N) (y0:0 <= y) (y1:y <= L)
  (f:∀ P,(∀ v,fE P (ρ v)) -> fE P e) (d:(∀ v,fE (leP s.ct) (ρ v)) -> ∀ W η,eE W e η = dnS W (I W) a fun v=>eE W (ρ v) η) (k:(∀ v,(hE (ρ v):Int) <= cL) -> (hE e:Int) <= L)
theorem Tg.mea (t:Tg { s with pk:=s.ht } s1 N L) (h:0 <= L):Tg s (s.mea s1) N L:=by
 obtain ⟨a1,a2,a3,a4,a5,a6,a7⟩:=t
 have a5:s1.pk <= s.ht \/ s1.pk <= s.ht + L:=a5
 have q:=mx_s s.pk s1.pk
 have a5:s1.pk <= s.ht + L:=a5.elim (fun x=>Int.le_trans x (addr h)) id
 refine ⟨a1,a2,a3,show s.pk <= mx s.pk s1.pk from ?_,show mx s.pk s1.pk <= s.pk \/ mx s.pk s1.pk <= s.ht + L from ?_,a6,a7⟩
 ·generalize mx s.pk s1.pk = z at q; cases q with | l h=>exact Int.le_refl _ | r h=>exact Int.le_of_lt h
 ·generalize mx s.pk s1.pk = z at q; cases q with | l h=>exact .inl (Int.le_refl _) | r h=>exact .inr a5
theorem spMea (ha:SpS M I a p1 q1 F1) (hm:F1 <= m + 8) (hc:c.ok) (hM:c.M = M) (he:EnvR l cl ρ cn cL) (h1:1 <= cn) (h2:1 <= cL) (hl:Lim s (p1.at cn) (q1.at cL)):Mea m c s l ρ cL I a (p1.at cn) (q1.at cL):=by
 obtain ⟨e,s1,r1,t1,f1,m1,k1⟩:=ha (m + 8) c { s with pk:=s.ht } l cl ρ cn cL hm hc hM he h1 h2 ⟨hl.sp,hl.ht,hl.ct,hl.ct1⟩
 have n2:=at_nn (p:=q1) h2
 have a1:s.sp <= s1.sp:=t1.sp
 have a2:s1.sp <= s.sp + p1.at cn:=t1.sp1
 have a3:s1.ht = s.ht:=t1.ht
 have a4:s.ht <= s1.pk:=t1.pk
 have a5:s1.pk <= s.ht \/ s1.pk <= s.ht + q1.at cL:=t1.pk1
 exact ⟨e,s.mea s1,_,_,measured_ok he.toEnvN (fun v=>⟨_,he.v v⟩) r1,t1.mea n2,Int.sub_nonneg_of_le a1,Int.sub_left_le_of_le_add a2,by rw [a3]; exact Int.sub_nonneg_of_le a4,
  by rw [a3]; exact Int.sub_left_le_of_le_add (a5.elim (fun x=>Int.le_trans x (addr n2)) id),f1,m1,k1⟩
inductive EnvO (m:Nat) (c:OG) (s:OS) (l:List (Nm × PV)) (ρ:Bool -> CE) (cL:Int) (I:Wd -> Itp) (a b:ST) (N L kn kL:Int) (w:W3):Prop
 | mk (e f:CE) (s2:OS) (E El:List (Nm × PV)) (r:Ev (m + 11) 293 [.reg 6,.str w.tx,.tup [nS a,nS b],.dct l] (gO c s) (.dct E) (gO c s2)) (g:Tg s s2 N L) (env:EnvR E El (fun u=>if u = w.par c.M then e else f) kn kL)
  (fr:∀ P,(∀ v,fE P (ρ v)) -> ∀ u,fE P (if u = w.par c.M then e else f)) (d:(∀ v,fE (leP s.ct) (ρ v)) -> ∀ W η,(fun u=>eE W (if u = w.par c.M then e else f) η) = fun u=>if u = w.par c.M then dnS W (I W) a fun v=>eE W (ρ v) η else dnS W (I W) b fun v=>eE W (ρ v) η)
  (k:(∀ v,(hE (ρ v):Int) <= cL) -> ∀ u,(hE (if u = w.par c.M then e else f):Int) <= kL)
theorem spEnv (w:W3) (ha:SpS M I a p1 q1 F1) (hb:SpS M I b p2 q2 F2) (hm1:F1 <= m + 8) (hm2:F2 <= m + 8) (hc:c.ok) (hM:c.M = M) (he:EnvR l cl ρ cn cL) (h1:1 <= cn) (h2:1 <= cL)
  (hl:Lim s (p1.at cn + p2.at cn) L) (g1:q1.at cL <= L) (g2:q2.at cL <= L) (k1:p1.at cn <= kn) (k2:p2.at cn <= kn) (k3:q1.at cL <= kL) (k4:q2.at cL <= kL):EnvO m c s l ρ cL I a b (p1.at cn + p2.at cn) L kn kL w:=by
 have n3:=at_nn (p:=p2) h1
 obtain ⟨e,s1,x,y,r1,t1,x0,x1,y0,y1,f1,m1,hk1⟩:=spMea ha hm1 (hc.ext (X:=[.dict []]) (fun zq=>rfl)) hM he h1 h2 ((hl.l n3).mono (Int.le_refl _) g1)
 obtain ⟨f,s2,z,t,r2,t2,z0,z1,u0,u1,f2,m2,hk2⟩:=spMea hb hm2 (hc.ext (X:=[.dict [(vn (w.par c.M),.tup [.int x,.int y])]]) (fun zq=>rfl)) hM he h1 h2 ((hl.next t1).mono (Int.le_refl _) g2)
 refine ⟨e,f,s2,_,_,call_env_ok w r1 r2 hc (fun m=>pE_lo m e) (fun m=>pE_lo m f) (fun zq=>rfl) (fun zq=>rfl),(t1.mono (Int.le_refl _) g1).trans (t2.mono (Int.le_refl _) g2),
  envR_C x0 (Int.le_trans x1 k1) y0 (Int.le_trans y1 k3) z0 (Int.le_trans z1 k2) u0 (Int.le_trans u1 k4),fun P h u=>?_,fun h W η=>funext fun u=>?_,fun h u=>?_⟩
 ·refine Decidable.byCases (fun z:u = w.par c.M=>?_) fun z=>?_
  ·rw [if_pos z]; exact f1 P h
  ·rw [if_neg z]; exact f2 P h
 ·refine Decidable.byCases (fun z:u = w.par c.M=>?_) fun z=>?_
  ·rw [if_pos z,if_pos z]; exact m1 h W η
  ·rw [if_neg z,if_neg z]; exact m2 (all_mono t1.ct h) W η
 ·refine Decidable.byCases (fun z:u = w.par c.M=>?_) fun z=>?_
  ·rw [if_pos z]; exact Int.le_trans (hk1 h) k3
  ·rw [if_neg z]; exact Int.le_trans (hk2 h) k4
structure Fits (p1 p2 q1 q2 qb K J q:Ln) (F1 F2 F3 F:Nat):Prop where
 a:p1.le K = true
 b:p2.le K = true
 k:K.pos = true
 c:q1.le J = true
 d:q2.le J = true
 j:J.pos = true
 e:q1.le q = true
 f:q2.le q = true
 g:(qb.comp J).le q = true
 x:Nat.ble F1 F = true
 y:Nat.ble F2 F = true
 z:Nat.ble F3 F = true
theorem spG {k:Bool} (ha:SpS M I a p1 q1 F1) (hb:SpS M I b p2 q2 F2) (hg:SpS M I' M.g pb qb F3) (hI:∀ W x y,(I W).g x y = dnS W (I' W) M.g fun w=>if w = M.gp then x else y) (ft:Fits p1 p2 q1 q2 qb K J q F1 F2 F3 F) :
  SpS M I (.g a b k) ((p1.add p2).add (pb.comp K)).inc q.inc (F + 14):=fun m c s l cl ρ cn cL hm hc hM he h1 h2 hl=>by
 rw [at_inc,at_inc,at_add,at_add,at_comp] at hl ⊢
 obtain ⟨n,hn⟩:=fuel hm
 have hk:=at_pos ft.k h1
 have hj:=at_pos ft.j h2
 have n1:=at_nn (p:=p1) h1
 have n3:=at_nn (p:=p2) h1
 have n4:=at_nn (p:=pb) hk
 have n2:=at_nn (p:=q) h2
 have li:=hl.inn
 subst hM
 obtain ⟨e,f,s2,E,El,r1,t1,he2,f1,m1,k1⟩:=spEnv .g ha hb (m:=n) (kn:=K.at cn) (kL:=J.at cL) (Nat.le_trans (Nat.le_of_ble_eq_true ft.x) (hn _)) (Nat.le_trans (Nat.le_of_ble_eq_true ft.y) (hn _)) hc rfl he h1 h2 (li.l n4) (at_le ft.e h2) (at_le ft.f h2) (at_le ft.a h1) (at_le ft.b h1) (at_le ft.c h2) (at_le ft.d h2)
 have g3:qb.at (J.at cL) <= q.at cL:=at_comp (p:=qb) (q:=J) ▸ at_le ft.g h2
 obtain ⟨e3,s3,r3,t3,f3,m3,k3⟩:=hg (n + 11) c s2 E El _ _ _ (Nat.le_trans (Nat.le_of_ble_eq_true ft.z) (hn _)) hc rfl he2 hk hj ((li.next t1).mono (Int.le_refl _) g3)
 exact ⟨e3,_,expr_step (n:=n + 12) (hl.h1 (Int.add_nonneg (Int.add_nonneg n1 n3) n4)) (hl.h2 n2) (eo_call (n:=n) he.toEnvN r1 r3),Tg.step (t1.trans (t3.mono (Int.le_refl _) g3)) n2,fun P h=>f3 P (f1 P h),
  fun h W η=>((m3 (all_mono t1.ct (f1 _ h)) W η).trans (congrArg (dnS W (I' W) c.M.g) (m1 h W η))).trans (hI W _ _).symm,fun h=>Int.le_trans (Int.le_trans (k3 (k1 h)) g3) (Int.le_add_of_nonneg_left (by decide))⟩
noncomputable def W3.ofQ (q:Bool):W3:=cond q .q .p
theorem spCall {z k:Bool} (ha:SpS M I a p1 q1 F1) (hb:SpS M I b p2 q2 F2) (hg:SpT M I' (if z then M.q else M.p) pb qb F3) (hI:∀ W x y,(I W).c z x y = dnT W (I' W) (if z then M.q else M.p) fun w=>if w = (W3.ofQ z).par M then x else y) (ft:Fits p1 p2 q1 q2 qb K J q F1 F2 F3 F) :
  SpT M I (.call z a b k) ((p1.add p2).add (pb.comp K)).inc q.inc (F + 14):=fun m c s l cl ρ cn cL hm hc hM he h1 h2 hl=>by
 rw [at_inc,at_inc,at_add,at_add,at_comp] at hl ⊢
 obtain ⟨n,hn⟩:=fuel hm
 have hk:=at_pos ft.k h1
 have hj:=at_pos ft.j h2
 have n1:=at_nn (p:=p1) h1
 have n3:=at_nn (p:=p2) h1
 have n4:=at_nn (p:=pb) hk
 have n2:=at_nn (p:=q) h2
 have li:=hl.inn
 subst hM
 obtain ⟨e,f,s2,E,El,r1,t1,he2,f1,m1,k1⟩:=spEnv (W3.ofQ z) ha hb (m:=n + 1) (kn:=K.at cn) (kL:=J.at cL) (Nat.le_trans (Nat.le_of_ble_eq_true ft.x) (hn 9)) (Nat.le_trans (Nat.le_of_ble_eq_true ft.y) (hn 9)) hc rfl he h1 h2 (li.l n4) (at_le ft.e h2) (at_le ft.f h2) (at_le ft.a h1) (at_le ft.b h1) (at_le ft.c h2) (at_le ft.d h2)
 have g3:qb.at (J.at cL) <= q.at cL:=at_comp (p:=qb) (q:=J) ▸ at_le ft.g h2
 obtain ⟨e3,s3,r3,t3,f3,m3,k3⟩:=hg (n + 12) c s2 E El _ _ _ (Nat.le_trans (Nat.le_of_ble_eq_true ft.z) (hn _)) hc rfl he2 hk hj ((li.next t1).mono (Int.le_refl _) g3)
 have r1:Ev (n + 12) 293 [.reg 6,.str (ws z),.tup [nS a,nS b],.dct l] (gO c s.inn) (.dct E) (gO c s2):=by cases z <;> exact r1
 exact ⟨e3,_,truth_step (n:=n + 12) (hl.h1 (Int.add_nonneg (Int.add_nonneg n1 n3) n4)) (hl.h2 n2) (to_call (n:=n + 1) he.toEnvN r1 r3),Tg.step (t1.trans (t3.mono (Int.le_refl _) g3)) n2,fun P h=>f3 P (f1 P h),
  fun h W η=>((m3 (all_mono t1.ct (f1 _ h)) W η).trans (congrArg (dnT W (I' W) _) (m1 h W η))).trans (hI W _ _).symm,fun h=>Int.le_trans (Int.le_trans (k3 (k1 h)) g3) (Int.le_add_of_nonneg_left (by decide))⟩
end
section
inductive GS:Bool -> Nat -> ST -> Prop where
 | name {b d} (v):GS b d (.name v)
 | whole {b d}:GS b d .whole
 | ledn {b d} (v):GS b d (.led (.name v))
 | ledw {b d}:GS b d (.led .whole)
 | both {b d x y}:GS b 0 x -> GS b d y -> GS b (d + 1) (.both x y)
 | g {d x y} (k):GS false d x -> GS true 0 y -> GS true (d + 1) (.g x y k)
 | thoseI {b d x y} (v):GS false 0 x -> GS false 0 y -> GS b (d + 1) (.those v (.isin x y))
 | thoseS {b d x} (v):GS false 0 x -> GS b (d + 1) (.those v (.some x))
inductive GT:Nat -> Nat -> TT -> Prop where
 | isin {c d x y}:GS (decide (0 < c)) (min d 1) x -> GS (decide (0 < c)) 0 y -> GT c d (.isin x y)
 | some {c d x}:GS (decide (0 < c)) (min d 1) x -> GT c d (.some x)
 | not {c d f}:GT c d f -> GT c (d + 1) (.not f)
 | or {c d f g}:GT c d f -> GT c 0 g -> GT c (d + 1) (.or f g)
 | call {c d x y} (q k):(if q then 3 else 2) <= c -> GS true 1 x -> GS false 0 y -> GT c (d + 1) (.call q x y k)
 | quant {c d f} (a v):GT c d f -> GT c (d + 1) (.quant a v f)
variable {M:Md} {I I' I'':Wd -> Itp} {b:Bool} {t:ST} {f:TT} {c:Nat}
theorem gs0 (h:GS b 0 t):SpS M I t ⟨1,3⟩ ⟨1,2⟩ 28:=by
 cases h with
 | name v=>exact (spName v).mono rfl rfl rfl
 | whole=>exact spWhole.mono rfl rfl rfl
 | ledn v=>exact spLed (spName v) rfl
 | ledw=>exact (spLed spWhole rfl).mono rfl rfl rfl
theorem gsI {x y:ST} {v:Bool} (h1:GS false 0 x) (h2:GS false 0 y):SpS M I (.those v (.isin x y)) ⟨2,9⟩ ⟨1,4⟩ 56:=spThose (spIn (q:=⟨1,2⟩) (gs0 h1) (gs0 h2) rfl rfl rfl) rfl
theorem gsS {x:ST} {v:Bool} (h1:GS false 0 x):SpS M I (.those v (.some x)) ⟨2,9⟩ ⟨1,4⟩ 56:=(spThose (spSome (gs0 h1)) rfl).mono rfl rfl rfl
theorem gsB {x y:ST} {b':Bool} (h1:GS b 0 x) (h2:GS b' 0 y):SpS M I (.both x y) ⟨2,9⟩ ⟨1,4⟩ 56:=(spBoth (q:=⟨1,2⟩) (gs0 h1) (gs0 h2) rfl rfl rfl).mono rfl rfl rfl
theorem gsF1 (h:GS false 1 t):SpS M I t ⟨2,9⟩ ⟨1,4⟩ 56:=by
 cases h with
 | name v=>exact (gs0 (GS.name (b:=false) v)).mono rfl rfl rfl
 | whole=>exact (gs0 (GS.whole (b:=false))).mono rfl rfl rfl
 | ledn v=>exact (gs0 (GS.ledn (b:=false) v)).mono rfl rfl rfl
 | ledw=>exact (gs0 (GS.ledw (b:=false))).mono rfl rfl rfl
 | both h1 h2=>exact gsB h1 h2
 | thoseI v h1 h2=>exact gsI h1 h2
 | thoseS v h1=>exact gsS h1
theorem gsF2 (h:GS false 2 t):SpS M I t ⟨3,13⟩ ⟨1,5⟩ 70:=by
 cases h with
 | name v=>exact (gs0 (GS.name (b:=false) v)).mono rfl rfl rfl
 | whole=>exact (gs0 (GS.whole (b:=false))).mono rfl rfl rfl
 | ledn v=>exact (gs0 (GS.ledn (b:=false) v)).mono rfl rfl rfl
 | ledw=>exact (gs0 (GS.ledw (b:=false))).mono rfl rfl rfl
 | both h1 h2=>exact spBoth (q:=⟨1,4⟩) (gs0 h1) (gsF1 h2) rfl rfl rfl
 | thoseI v h1 h2=>exact (gsI h1 h2).mono rfl rfl rfl
 | thoseS v h1=>exact (gsS h1).mono rfl rfl rfl
section
variable (hg:GS false 2 M.g) (hI:∀ W x y,(I W).g x y = dnS W (I' W) M.g fun w=>if w = M.gp then x else y)
include hg hI
theorem gsT1 (h:GS true 1 t):SpS M I t ⟨5,29⟩ ⟨1,8⟩ 84:=by
 cases h with
 | name v=>exact (gs0 (GS.name (b:=false) v)).mono rfl rfl rfl
 | whole=>exact (gs0 (GS.whole (b:=false))).mono rfl rfl rfl
 | ledn v=>exact (gs0 (GS.ledn (b:=false) v)).mono rfl rfl rfl
 | ledw=>exact (gs0 (GS.ledw (b:=false))).mono rfl rfl rfl
 | both h1 h2=>exact (gsB h1 h2).mono rfl rfl rfl
 | g k h1 h2=>exact spG (K:=⟨1,3⟩) (J:=⟨1,2⟩) (q:=⟨1,7⟩) (F:=70) (gs0 h1) (gs0 h2) (gsF2 (I:=I') hg) hI ⟨rfl,rfl,rfl,rfl,rfl,rfl,rfl,rfl,rfl,rfl,rfl,rfl⟩
 | thoseI v h1 h2=>exact (gsI h1 h2).mono rfl rfl rfl
 | thoseS v h1=>exact (gsS h1).mono rfl rfl rfl
theorem gsX (h:GS b 1 t):SpS M I t ⟨5,29⟩ ⟨1,8⟩ 84:=by
 cases b
 ·exact (gsF1 h).mono rfl rfl rfl
 ·exact gsT1 hg hI h
omit hg hI in
theorem gt0 (h:GT c 0 f):SpT M I f ⟨2,7⟩ ⟨1,3⟩ 42:=by
 cases h with
 | isin h1 h2=>exact spIn (q:=⟨1,2⟩) (gs0 h1) (gs0 h2) rfl rfl rfl
 | some h1=>exact (spSome (gs0 h1)).mono rfl rfl rfl
theorem gtI {x y:ST} {b':Bool} (h1:GS b 1 x) (h2:GS b' 0 y):SpT M I (.isin x y) ⟨6,33⟩ ⟨1,9⟩ 98:=spIn (q:=⟨1,8⟩) (gsX hg hI h1) (gs0 h2) rfl rfl rfl
theorem gtS {x:ST} (h1:GS b 1 x):SpT M I (.some x) ⟨6,33⟩ ⟨1,9⟩ 98:=(spSome (gsX hg hI h1)).mono rfl rfl rfl
omit hg hI in
theorem gtN0 (h:GT c 0 f):SpT M I (.not f) ⟨6,33⟩ ⟨1,9⟩ 98:=(spNot (gt0 h)).mono rfl rfl rfl
omit hg hI in
theorem gtO0 {g:TT} (h:GT c 0 f) (h2:GT c 0 g):SpT M I (.or f g) ⟨6,33⟩ ⟨1,9⟩ 98:=(spOr (q:=⟨1,3⟩) (gt0 h) (gt0 h2) rfl rfl rfl).mono rfl rfl rfl
omit hg hI in
theorem gtQ0 {a v:Bool} (h:GT c 0 f):SpT M I (.quant a v f) ⟨6,33⟩ ⟨1,9⟩ 98:=(spQuant (gt0 h) rfl).mono rfl rfl rfl
theorem gt11 (h:GT 1 1 f):SpT M I f ⟨6,33⟩ ⟨1,9⟩ 98:=by
 cases h with
 | isin h1 h2=>exact gtI hg hI h1 h2
 | some h1=>exact gtS hg hI h1
 | not h1=>exact gtN0 h1
 | or h1 h2=>exact gtO0 h1 h2
 | call q k hc=>cases q <;> exact absurd hc (by decide)
 | quant a v h1=>exact gtQ0 h1
theorem gt12 (h:GT 1 2 f):SpT M I f ⟨8,41⟩ ⟨1,10⟩ 112:=by
 cases h with
 | isin h1 h2=>exact (gtI hg hI h1 h2).mono rfl rfl rfl
 | some h1=>exact (gtS hg hI h1).mono rfl rfl rfl
 | not h1=>exact (spNot (gt11 hg hI h1)).mono rfl rfl rfl
 | or h1 h2=>exact spOr (q:=⟨1,9⟩) (gt11 hg hI h1) (gt0 h2) rfl rfl rfl
 | call q k hc=>cases q <;> exact absurd hc (by decide)
 | quant a v h1=>exact (spQuant (gt11 hg hI h1) rfl).mono rfl rfl rfl
end
section
variable (hg:GS false 2 M.g) (hI:∀ W x y,(I W).g x y = dnS W (I' W) M.g fun w=>if w = M.gp then x else y)
 (hp:GT 1 2 M.p) (hI2:∀ W x y,(I'' W).g x y = dnS W (I' W) M.g fun w=>if w = M.gp then x else y) (hIp:∀ W x y,(I W).c false x y = dnT W (I'' W) M.p fun w=>if w = M.pp then x else y)
include hg hI hp hI2 hIp
theorem gtP {x y:ST} {k:Bool} (h1:GS true 1 x) (h2:SpS M I y ⟨5,29⟩ ⟨1,8⟩ 84):SpT M I (.call false x y k) ⟨50,340⟩ ⟨1,19⟩ 126 :=
 (spCall (z:=false) (K:=⟨5,29⟩) (J:=⟨1,8⟩) (q:=⟨1,18⟩) (F:=112) (I':=I'') (gsT1 hg hI h1) h2 (gt12 hg hI2 hp) hIp ⟨rfl,rfl,rfl,rfl,rfl,rfl,rfl,rfl,rfl,rfl,rfl,rfl⟩).mono rfl rfl rfl
theorem gt21 (h:GT 2 1 f):SpT M I f ⟨50,340⟩ ⟨1,19⟩ 126:=by
 cases h with
 | isin h1 h2=>exact (gtI hg hI h1 h2).mono rfl rfl rfl
 | some h1=>exact (gtS hg hI h1).mono rfl rfl rfl
 | not h1=>exact (gtN0 h1).mono rfl rfl rfl
 | or h1 h2=>exact (gtO0 h1 h2).mono rfl rfl rfl
 | call q k hc h1 h2 =>
  cases q
  ·exact gtP hg hI hp hI2 hIp h1 ((gs0 h2).mono rfl rfl rfl)
  ·exact absurd hc (by decide)
 | quant a v h1=>exact (gtQ0 h1).mono rfl rfl rfl
theorem gt22 (h:GT 2 2 f):SpT M I f ⟨52,348⟩ ⟨1,20⟩ 140:=by
 cases h with
 | isin h1 h2=>exact (gtI hg hI h1 h2).mono rfl rfl rfl
 | some h1=>exact (gtS hg hI h1).mono rfl rfl rfl
 | not h1=>exact (spNot (gt21 hg hI hp hI2 hIp h1)).mono rfl rfl rfl
 | or h1 h2=>exact spOr (q:=⟨1,19⟩) (gt21 hg hI hp hI2 hIp h1) (gt0 h2) rfl rfl rfl
 | call q k hc h1 h2 =>
  cases q
  ·exact (gtP hg hI hp hI2 hIp h1 ((gs0 h2).mono rfl rfl rfl)).mono rfl rfl rfl
  ·exact absurd hc (by decide)
 | quant a v h1=>exact (spQuant (gt21 hg hI hp hI2 hIp h1) rfl).mono rfl rfl rfl
end
structure Md.ok (M:Md):Prop where
 g:GS false 2 M.g
 p:GT 1 2 M.p
 q:GT 2 2 M.q
noncomputable def Id0:Itp:=⟨fun zq zq zq=>false,fun zq zq zq=>false⟩
noncomputable def Ig (M:Md) (W:Wd):Itp:=⟨fun x y=>dnS W Id0 M.g fun w=>if w = M.gp then x else y,fun zq zq zq=>false⟩
noncomputable def Ip (M:Md) (W:Wd):Itp:=⟨(Ig M W).g,fun zq x y=>dnT W (Ig M W) M.p fun w=>if w = M.pp then x else y⟩
noncomputable def Iq (M:Md) (W:Wd):Itp:=⟨(Ig M W).g,fun q x y=>if q then dnT W (Ip M W) M.q fun w=>if w = M.qp then x else y else (Ip M W).c false x y⟩
inductive Cor1:TT -> Prop where
 | call (q k) {x y}:GS true 1 x -> GS true 1 y -> Cor1 (.call q x y k)
inductive Cor2:TT -> Prop where
 | yes {u}:Cor1 u -> Cor2 u
 | no {u}:Cor1 u -> Cor2 (.not u)
inductive Cor3:TT -> Prop where
 | one {u}:Cor2 u -> Cor3 u
 | or {u h}:Cor2 u -> GT 3 1 h -> Cor3 (.or u h)
section
variable (hM:M.ok)
include hM
theorem spCQ {x y:ST} (q k:Bool) (h1:GS true 1 x) (h2:GS true 1 y):SpT M (Iq M) (.call q x y k) ⟨270,1950⟩ ⟨1,29⟩ 154:=by
 have e1:SpS M (Iq M) x ⟨5,29⟩ ⟨1,8⟩ 84:=gsT1 (I':=fun zq=>Id0) hM.g (fun zq zq zq=>rfl) h1
 have e2:SpS M (Iq M) y ⟨5,29⟩ ⟨1,8⟩ 84:=gsT1 (I':=fun zq=>Id0) hM.g (fun zq zq zq=>rfl) h2
 cases q
 ·exact (gtP (I:=Iq M) (I':=fun zq=>Id0) (I'':=Ig M) (k:=k) hM.g (fun zq zq zq=>rfl) hM.p (fun zq zq zq=>rfl) (fun zq zq zq=>rfl) h1 e2).mono rfl rfl rfl
 ·exact (spCall (z:=true) (K:=⟨5,29⟩) (J:=⟨1,8⟩) (q:=⟨1,28⟩) (F:=140) (I':=Ip M) e1 e2
   (gt22 (I':=fun zq=>Id0) (I'':=Ig M) hM.g (fun zq zq zq=>rfl) hM.p (fun zq zq zq=>rfl) (fun zq zq zq=>rfl) hM.q) (fun zq zq zq=>rfl) ⟨rfl,rfl,rfl,rfl,rfl,rfl,rfl,rfl,rfl,rfl,rfl,rfl⟩).mono rfl rfl rfl
theorem spC1 {t:TT} (h:Cor1 t):SpT M (Iq M) t ⟨270,1950⟩ ⟨1,29⟩ 154:=by cases h with | call q k h1 h2=>exact spCQ hM q k h1 h2
theorem spC2 {t:TT} (h:Cor2 t):SpT M (Iq M) t ⟨270,1951⟩ ⟨1,30⟩ 168:=by
 cases h with
 | yes h=>exact (spC1 hM h).mono rfl rfl rfl
 | no h=>exact spNot (spC1 hM h)
theorem spG3 {t:TT} (h:GT 3 1 t):SpT M (Iq M) t ⟨270,1951⟩ ⟨1,30⟩ 168:=by
 have hI:∀ W x y,(Iq M W).g x y = dnS W ((fun zq=>Id0) W) M.g fun w=>if w = M.gp then x else y:=fun zq zq zq=>rfl
 cases h with
 | isin h1 h2=>exact (gtI hM.g hI h1 h2).mono rfl rfl rfl
 | some h1=>exact (gtS hM.g hI h1).mono rfl rfl rfl
 | not h1=>exact (gtN0 h1).mono rfl rfl rfl
 | or h1 h2=>exact (gtO0 h1 h2).mono rfl rfl rfl
 | call q k hc h1 h2 =>
  refine (spCQ hM q k h1 ?_).mono rfl rfl rfl
  cases h2 with
  | name v=>exact .name v
  | whole=>exact .whole
  | ledn v=>exact .ledn v
  | ledw=>exact .ledw
 | quant a v h1=>exact (gtQ0 h1).mono rfl rfl rfl
theorem spCore3 {t:TT} (h:Cor3 t):SpT M (Iq M) t ⟨540,3950⟩ ⟨1,31⟩ 182:=by
 cases h with
 | one h=>exact (spC2 hM h).mono rfl rfl rfl
 | or h1 h2=>exact (spOr (q:=⟨1,30⟩) (spC2 hM h1) (spG3 hM h2) rfl rfl rfl).mono rfl rfl rfl
noncomputable def σ2 (x y:Int):Bool -> Se:=fun w=>if w then single y else single x
omit hM in
theorem envL0:EnvL [] [] where
 A:=rfl
 f:=rfl
 w:=fun zq=>rfl
 cost:=rfl
 sh:=.nil
 lo:=fun zq=>rfl
 len:=Nat.le_refl 3
inductive TopO (m:Nat) (c:OG) (a b:Bool) (t:TT):Prop
 | mk (e:CF) (s':OS) (r:Ev m 300 [.reg 6,nT (.quant a false (.quant b true t)),.dct []] (gO c ⟨0,0,0,0⟩) (pF e) (gO c s')) (f:fF (fun zq zq=>False) e) (k:hF e <= 40) (d:∀ W η,eF W e η = qnt W a fun x=>qnt W b fun y=>dnT W (Iq c.M W) t (σ2 x y))
theorem top_ok {t:TT} (h:Cor3 t) (a b:Bool) {c:OG} (hc:c.ok) (hcM:c.M = M) (m:Nat) (hm:190 <= m):TopO (m + 6) c a b t:=by
 subst hcM
 let s0:OS:=⟨0,0,0,0⟩
 let s1:=s0.inn.frs
 let s2:=s1.inn.frs
 obtain ⟨n,rfl⟩:∃ n,m = n + 8:=⟨m - 8,by omega⟩
 have hd1:=decls_ok (n:=n + 3) (v:=false) hc envL0 (s:=s0.inn) (by decide) (by decide) (by decide) (by decide)
 have e1:=envV_ok (v:=false) (k:=s0.inn.ct + 1) envL0
 have hd2:=decls_ok (n:=n) (v:=true) hc e1 (s:=s1.inn) (by decide) (by decide) (by decide) (by decide)
 have e2:EnvR (envV (envV [] [] false (s0.inn.ct + 1)) (cut false []) true (s1.inn.ct + 1)) (cut true (cut false [])) (fun w=>if w then .var true (s1.inn.ct + 1) else .var false (s0.inn.ct + 1)) 1 1:={
  toEnvL:=envV_ok e1
  v:=fun w=>by cases w <;> rfl
  c:=fun w=>⟨1,1,by cases w <;> rfl,by decide,by decide,by decide,by decide⟩ }
 obtain ⟨e,s3,r3,t3,f3,m3,k3⟩:=spCore3 hM h (n + 8) c s2 _ _ _ 1 1 (by omega) hc rfl e2 (by decide) (by decide) ⟨by decide,by decide,by decide,by decide⟩
 refine ⟨.quant a false (s0.inn.ct + 1) (.quant b true (s1.inn.ct + 1) e),_,truth_step (n:=n + 12) (s2:=s3.out) (by decide) (by decide) (to_quant (n:=n + 3) hd1 (truth_step (n:=n + 9) (s:=s1) (s2:=s3) (by decide) (by decide) (to_quant (n:=n) hd2 r3))),?_,?_,fun W η=>?_⟩
 ·refine f3 _ fun v=>?_
  cases v
  ·exact .inl (.inr ⟨rfl,rfl⟩)
  ·exact .inr ⟨rfl,rfl⟩
 ·have h3:(hF e:Int) <= 32:=k3 fun v=>by cases v <;> exact Int.le_refl 1
  show hF e + 1 + 1 <= 40
  omega
 ·refine congrArg (qnt W a) (funext fun x=>congrArg (qnt W b) (funext fun y=>?_))
  refine (m3 (fun v=>by cases v <;> exact Int.le_of_lt_add_one (by decide)) W _).trans (congrArg (dnT W (Iq c.M W) t) (funext fun w=>?_))
  cases w <;> rfl
end
end
section
noncomputable def gF (cs:List Int) (T:Gs) (k:Int):Gs:=.dict [(k_cells,.lst (cs.map .int)),(k_spot,.int k)] :: T
variable {cs:List Int} {T:Gs} {k:Int} {n:Nat}
inductive DrO (cs:List Int) (T:Gs) (k w:Int):Prop
 | mk (r:Int) (h0:0 <= r) (h1:r < w) (d:∀ n,Ev (n + 1) 804 [.reg 0,.int w] (gF cs T k) (.int r) (gF cs T (k + 1)))
theorem map_len (hcs:cs.length <= 60):decide ((cs.map PV.int).length < 2 ^ 62) = true:=decide_eq_true (by rw [List.length_map]; exact Nat.lt_of_le_of_lt hcs (by decide))
theorem idx_ok {α:Type} {f:α -> PV} {l:List α} {i:Int} (h0:0 <= i) (h1:i < l.length):∃ x,idxP (l.map f) i = some (f x):=by
 have hm:i.toNat < l.length:=by omega
 refine ⟨l[i.toNat],?_⟩
 unfold idxP
 rw [decide_eq_true h0,List.getElem?_map,List.getElem?_eq_getElem hm]
 rfl
theorem draw_ok (hcs:cs.length <= 60) (w:Int) (hw:0 < w) (h0:0 <= k) (h1:k <= 1000):DrO cs T k w:=by
 refine Decidable.byCases (fun h:k < ((cs.map PV.int).length:Int)=>?_) fun h=>?_
 ·obtain ⟨x,hx⟩:=idx_ok (f:=PV.int) (l:=cs) h0 (by rwa [List.length_map] at h)
  refine ⟨x.fmod w,Int.fmod_nonneg_of_pos _ hw,Int.fmod_lt_of_pos _ hw,fun n Q q=>?_⟩
  refine c_draw (bq.mk rfl ?_)
  conv=>whnf
  refine bq.mk (map_len hcs) ?_
  conv=>whnf
  refine cT (decide_eq_true h) ?_
  conv=>whnf
  refine bq.mk (decide_eq_true (show -(2 ^ 62) <= k /\ k < 2 ^ 62 by omega)) ?_
  refine oq.mk hx ?_
  conv=>whnf
  exact bq.mk (decide_eq_true (show w ≠ 0 by omega)) q
 ·refine ⟨(((13 * k * k + 5 * k + 3 * ((cs.map PV.int).length:Int) + 1).fmod 83).fmod w),Int.fmod_nonneg_of_pos _ hw,Int.fmod_lt_of_pos _ hw,fun n Q q=>?_⟩
  refine c_draw (bq.mk rfl ?_)
  conv=>whnf
  refine bq.mk (map_len hcs) ?_
  conv=>whnf
  refine cF (decide_eq_false h) ?_
  conv=>whnf
  refine bq.mk (decide_eq_true (show -(2 ^ 64) < 13 * k /\ 13 * k < 2 ^ 64 by omega)) ?_
  conv=>whnf
  refine bq.mk (map_len hcs) ?_
  conv=>whnf
  exact bq.mk (decide_eq_true (show w ≠ 0 by omega)) q
inductive Bit:Int -> Prop | z:Bit 0 | o:Bit 1
theorem bit {r:Int} (h0:0 <= r) (h1:r < 2):Bit r:=by
 refine Decidable.byCases (fun h:r = 0=>?_) fun h=>?_
 ·subst h; exact .z
 ·obtain rfl:r = 1:=by omega
  exact .o
structure Bd (k D j:Int):Prop where
 lo:k <= j
 hi:j <= k + D
section
variable {k D E m j j':Int}
theorem Bd.start:Bd k 0 k:=⟨Int.le_refl _,Int.le_of_eq (Int.add_zero _).symm⟩
theorem Bd.pos (b:Bd k D j) (h0:0 <= k):0 <= j:=Int.le_trans h0 b.lo
theorem Bd.room (b:Bd k D j) (h:k + m <= 900) (e:D + E <= m:=by decide):j + E <= 900:=by
 refine Int.le_trans (Int.add_le_add_right b.hi E) (Int.le_trans ?_ h)
 rw [Int.add_assoc]; exact Int.add_le_add_left e k
theorem Bd.draw (b:Bd k D j) (h:k + m <= 900) (e:D + 0 <= m:=by decide):j <= 1000:=Int.le_trans (Int.add_zero j ▸ b.room h e) (by decide)
theorem Bd.next (b:Bd k D j) (h1:j <= j') (h2:j' <= j + E) {F:Int} (e:D + E <= F:=by decide):Bd k F j':=⟨Int.le_trans b.lo h1,by
 refine Int.le_trans h2 (Int.le_trans (Int.add_le_add_right b.hi E) ?_)
 rw [Int.add_assoc]; exact Int.add_le_add_left e k⟩
theorem Bd.one (b:Bd k D j) {F:Int} (e:D + 1 <= F:=by decide):Bd k F (j + 1):=b.next (Int.le_of_lt (Int.lt_succ j)) (Int.le_refl _) e
theorem Bd.up (b:Bd k D j) {F:Int} (e:D + 0 <= F:=by decide):Bd k F j:=b.next (Int.le_refl _) (Int.le_of_eq (Int.add_zero _).symm) e
end
noncomputable def nmL (ns:List Bool):PV:=.lst (ns.map fun v=>.str (vn v))
theorem names_ok {ns:List Bool} {r:Int} (h0:0 <= r) (h1:r < ns.length):∃ v,idxP (ns.map fun v=>PV.str (vn v)) r = some (.str (vn v)):=idx_ok h0 h1
end
section
variable {cs:List Int} {T:Gs} {k:Int} {ns:List Bool} {n:Nat}
structure NsOk (ns:List Bool) (n:Nat):Prop where
 ne:ns ≠ []
 len:ns.length + n <= 100
inductive R4:Int -> Prop | a:R4 0 | b:R4 1 | c:R4 2 | d:R4 3
theorem r4 {r:Int} (h0:0 <= r) (h1:r < 4):R4 r:=by
 obtain ⟨n,rfl⟩:=Int.eq_ofNat_of_zero_le h0
 match n,h1 with
 | 0,_=>exact .a
 | 1,_=>exact .b
 | 2,_=>exact .c
 | 3,_=>exact .d
 | n + 4,h=>exact absurd h (by omega)
inductive DsO (cs:List Int) (T:Gs) (ns:List Bool) (b:Bool) (c:Int) (d:Nat) (D:Int) (F:Nat) (k:Int):Prop
 | mk (t:ST) (k':Int) (g:GS b d t) (h:k <= k') (h':k' <= k + D) (r:∀ m,F <= m -> Ev m 811 [.reg 0,nmL ns,.int c,.int d] (gF cs T k) (tS t) (gF cs T k'))
noncomputable def DrS (cs:List Int) (T:Gs) (ns:List Bool) (b:Bool) (c:Int) (d:Nat) (D:Int) (F:Nat):Prop:=∀ k,0 <= k -> k + D <= 900 -> DsO cs T ns b c d D F k
structure NmF (ns:List Bool):Prop where
 l:decide ((ns.map fun v=>PV.str (vn v)).length < 2 ^ 62) = true
 p:0 < ((ns.map fun v=>PV.str (vn v)).length:Int)
 z:decide (((ns.map fun v=>PV.str (vn v)).length:Int) ≠ 0) = true
 s:((ns.map fun v=>PV.str (vn v)).length:Int) <= 100
theorem NsOk.f (h:NsOk ns n):NmF ns:=by
 have e:(ns.map fun v=>PV.str (vn v)).length = ns.length:=List.length_map ..
 have p:=List.length_pos_iff.mpr h.ne
 have l:=h.len
 refine ⟨decide_eq_true ?_,?_,decide_eq_true ?_,?_⟩ <;> rw [e] <;> omega
theorem nm_at {r:Int} (h0:0 <= r) (h1:r < ((ns.map fun v=>PV.str (vn v)).length:Int)):∃ v,idxP (ns.map fun v=>PV.str (vn v)) r = some (.str (vn v)):=idx_ok h0 (by rwa [List.length_map] at h1)
theorem okI_of {r L:Int} (h0:0 <= r) (h1:r < L) (h2:L <= 100):okI r = true:=decide_eq_true ⟨Int.le_trans (by decide) h0,Int.lt_trans h1 (Int.lt_of_le_of_lt h2 (by decide))⟩
noncomputable def SetR:DS:=(dSeq
  (dIf (dAnd (dB (dBin fLt (dName 4) (dConst (PV.int 2)))) (dAnd (dB (dBin fNe (dName 1) (dFr (dLst dNil)))) dTrue))
   (dSeq
    (dRet
     (dTup
      (dCons (dConst (PV.str k_name))
       (dCons (dSub (dNameH 1) (dBin fMod (dBin fAdd (dName 4) (dCall 804 (dCons (dName 0) (dCons (dLen (dNameH 1)) dNil)))) (dLen (dNameH 1)))) dNil))))
    dSkip)
   dSkip)
  (dSeq (dIf (dB (dBin fLt (dName 4) (dConst (PV.int 3)))) (dSeq (dRet (dTup (dCons (dConst (PV.str k_whole)) dNil))) dSkip) dSkip)
   (dSeq
    (dIf (dB (dBin fEq (dName 4) (dConst (PV.int 3))))
     (dSeq
      (dRet
       (dTup
        (dCons (dConst (PV.str k_led))
         (dCons
          (dIte (dB (dBin fNe (dName 1) (dFr (dLst dNil))))
           (dTup (dCons (dConst (PV.str k_name)) (dCons (dSub (dNameH 1) (dCall 804 (dCons (dName 0) (dCons (dLen (dNameH 1)) dNil)))) dNil)))
           (dTup (dCons (dConst (PV.str k_whole)) dNil)))
          dNil))))
      dSkip)
     dSkip)
    (dSeq
     (dIf (dB (dBin fEq (dName 4) (dConst (PV.int 4))))
      (dSeq
       (dRet
        (dTup
         (dCons (dConst (PV.str k_both))
          (dCons (dCall 811 (dCons (dName 0) (dCons (dName 1) (dCons (dName 2) (dCons (dConst (PV.int 0)) dNil)))))
           (dCons (dCall 811 (dCons (dName 0) (dCons (dName 1) (dCons (dName 2) (dCons (dBin fSub (dName 3) (dConst (PV.int 1))) dNil))))) dNil)))))
       dSkip)
      dSkip)
     (dSeq
      (dIf (dAnd (dB (dBin fEq (dName 4) (dConst (PV.int 5)))) (dAnd (dB (dBin fGt (dName 2) (dConst (PV.int 0)))) dTrue))
       (dSeq
        (dRet
         (dTup
          (dCons (dConst (PV.str k_g))
           (dCons (dCall 811 (dCons (dName 0) (dCons (dName 1) (dCons (dConst (PV.int 0)) (dCons (dBin fSub (dName 3) (dConst (PV.int 1))) dNil)))))
            (dCons (dCall 811 (dCons (dName 0) (dCons (dName 1) (dCons (dName 2) (dCons (dConst (PV.int 0)) dNil)))))
             (dCons (dCall 804 (dCons (dName 0) (dCons (dConst (PV.int 2)) dNil))) dNil))))))
        dSkip)
       dSkip)
      (dSeq (dLet 5 (dSub (dOf (dConst (PV.str k_xy))) (dCall 804 (dCons (dName 0) (dCons (dConst (PV.int 2)) dNil)))))
       (dSeq
        (dRet
         (dTup
          (dCons (dConst (PV.str k_those))
           (dCons (dName 5)
            (dCons
             (dCall 818
              (dCons (dName 0)
               (dCons (dFr (dAddL (dOf (dName 1)) (dOf (dFr (dLst (dCons (dName 5) dNil))))))
                (dCons (dConst (PV.int 0)) (dCons (dConst (PV.int 0)) dNil)))))
             dNil)))))
        dSkip)))))))
noncomputable def FrS (ns:List Bool) (c d r:Int):Fr:=[.val (.reg 0),.val (nmL ns),.val (.int c),.val (.int d),.val (.int r),.unset]
inductive LrO (cs:List Int) (T:Gs) (ns:List Bool) (b:Bool) (c:Int) (d:Nat) (D:Int) (F:Nat) (r k:Int):Prop
 | mk (t:ST) (k':Int) (g:GS b d t) (h:k <= k') (h':k' <= k + D) (x:∀ n Q,F <= n + 1 -> Q (tS t) (gF cs T k') -> SetR (orc (n + 1)) (FrS ns c d r) (gF cs T k) (kBody Q))
variable {b:Bool} {c:Int} {d F:Nat} {D:Int}
theorem LrO.mono {r:Int} {F':Nat} {D':Int} (h:LrO cs T ns b c d D F r k) (hD:D <= D') (hF:F <= F'):LrO cs T ns b c d D' F' r k:=by
 obtain ⟨t,k',g,a,a',x⟩:=h
 exact ⟨t,k',g,a,Int.le_trans a' (Int.add_le_add_left hD _),fun n Q hn=>x n Q (Nat.le_trans hF hn)⟩
theorem way01 {r:Int} (hcs:cs.length <= 60) (hn:NsOk ns 0) (hr:Bit r) (h0:0 <= k) (h1:k <= 1000):LrO cs T ns b c d 1 0 r k:=by
 have N:=hn.f
 obtain ⟨r2,hr2,hr2',d2⟩:=draw_ok hcs _ N.p h0 h1 (T:=T)
 have q1:0 <= (r + r2).fmod ((List.map (fun v=>PV.str (vn v)) ns).length:Int):=Int.fmod_nonneg_of_pos _ N.p
 have q2:=Int.fmod_lt_of_pos (r + r2) N.p
 obtain ⟨v,hv⟩:=nm_at q1 q2
 cases ns with
 | nil=>exact absurd rfl hn.ne
 | cons b0 ns =>
  refine ⟨.name v,k + 1,.name v,addr (by decide),Int.le_refl _,fun n Q zq q=>?_⟩
  cases hr <;> (
   conv=>whnf
   refine bq.mk N.l (d2 n _ ?_)
   conv=>whnf
   refine bq.mk N.l ?_
   conv=>whnf
   exact bq.mk (okI_of q1 q2 N.s) (oq.mk hv q))
theorem way2 (hn:NsOk ns 0):LrO cs T ns b c d 0 0 2 k:=by
 cases ns with
 | nil=>exact absurd rfl hn.ne
 | cons b0 ns=>exact ⟨.whole,k,.whole,Int.le_refl _,addr (Int.le_refl 0),fun n Q zq q=>q⟩
theorem way3 (hcs:cs.length <= 60) (hn:NsOk ns 0) (h0:0 <= k) (h1:k <= 1000):LrO cs T ns b c d 1 0 3 k:=by
 have N:=hn.f
 obtain ⟨r2,hr2,hr2',d2⟩:=draw_ok hcs _ N.p h0 h1 (T:=T)
 obtain ⟨v,hv⟩:=nm_at hr2 hr2'
 cases ns with
 | nil=>exact absurd rfl hn.ne
 | cons b0 ns =>
  refine ⟨.led (.name v),k + 1,.ledn v,addr (by decide),Int.le_refl _,fun n Q zq q=>?_⟩
  conv=>whnf
  refine bq.mk N.l (d2 n _ ?_)
  conv=>whnf
  exact bq.mk (okI_of hr2 hr2' N.s) (oq.mk hv q)
theorem of_way0 {r:Int} (d1:∀ n,Ev (n + 1) 804 [.reg 0,.int 4] (gF cs T k) (.int r) (gF cs T (k + 1))) (h:LrO cs T ns b c 0 D F r (k + 1)):DsO cs T ns b c 0 (D + 1) (F + 2) k:=by
 obtain ⟨t,k',g,a,a',x⟩:=h
 refine ⟨t,k',g,Int.le_trans (addr (by decide)) a,by omega,fun m hm Q q=>?_⟩
 obtain ⟨n,rfl⟩:=Nat.exists_eq_add_of_le hm
 rw [show F + 2 + n = (F + n) + 1 + 1 by omega]
 exact c_lset (bq.mk rfl (d1 _ _ (x (F + n) Q (by omega) q)))
theorem of_way {r:Int} (d1:∀ n,Ev (n + 1) 804 [.reg 0,.int 7] (gF cs T k) (.int r) (gF cs T (k + 1))) (h:LrO cs T ns b c (d + 1) D F r (k + 1)):DsO cs T ns b c (d + 1) (D + 1) (F + 2) k:=by
 obtain ⟨t,k',g,a,a',x⟩:=h
 refine ⟨t,k',g,Int.le_trans (addr (by decide)) a,by omega,fun m hm Q q=>?_⟩
 obtain ⟨n,rfl⟩:=Nat.exists_eq_add_of_le hm
 rw [show F + 2 + n = (F + n) + 1 + 1 by omega]
 refine c_lset (bq.mk rfl ?_)
 conv=>whnf
 exact cT (decide_eq_true (show (0:Int) < ((d + 1:Nat):Int) by omega)) (d1 _ _ (x (F + n) Q (by omega) q))
theorem set0 (hcs:cs.length <= 60) (hn:NsOk ns 0) (b:Bool) (c:Int):DrS cs T ns b c 0 2 2:=fun k h0 h1=>by
 obtain ⟨r,hr,hr',d1⟩:=draw_ok hcs 4 (by decide) h0 (by omega) (T:=T)
 refine of_way0 (D:=1) (F:=0) d1 ?_
 cases r4 hr hr' with
 | a=>exact way01 hcs hn .z (by omega) (by omega)
 | b=>exact way01 hcs hn .o (by omega) (by omega)
 | c=>exact (way2 hn).mono (by decide) (Nat.le_refl 0)
 | d=>exact way3 hcs hn (by omega) (by omega)
end
section
variable {cs:List Int} {T:Gs} {k:Int} {ns:List Bool} {n:Nat}
theorem Ev.args {f:Addr} {a a':List PV} {G G':Gs} {r:PV} (h:Ev n f a' G r G') (e:a = a'):Ev n f a G r G':=e ▸ h
inductive DtO (cs:List Int) (T:Gs) (ns:List Bool) (c d:Nat) (D:Int) (F:Nat) (k:Int):Prop
 | mk (t:TT) (k':Int) (g:GT c d t) (h:k <= k') (h':k' <= k + D) (r:∀ m,F <= m -> Ev m 818 [.reg 0,nmL ns,.int c,.int d] (gF cs T k) (tT t) (gF cs T k'))
noncomputable def DrT (cs:List Int) (T:Gs) (ns:List Bool) (c d:Nat) (D:Int) (F:Nat):Prop:=∀ k,0 <= k -> k + D <= 900 -> DtO cs T ns c d D F k
theorem DrS.mono {b:Bool} {c:Int} {d F F':Nat} {D D':Int} (h:DrS cs T ns b c d D F) (hD:D <= D') (hF:F <= F'):DrS cs T ns b c d D' F':=fun k h0 h1=>by
 obtain ⟨t,k',g,a,a',x⟩:=h k h0 (Int.le_trans (Int.add_le_add_left hD _) h1)
 exact ⟨t,k',g,a,Int.le_trans a' (Int.add_le_add_left hD _),fun m hm=>x m (Nat.le_trans hF hm)⟩
theorem DrT.mono {c d F F':Nat} {D D':Int} (h:DrT cs T ns c d D F) (hD:D <= D') (hF:F <= F'):DrT cs T ns c d D' F':=fun k h0 h1=>by
 obtain ⟨t,k',g,a,a',x⟩:=h k h0 (Int.le_trans (Int.add_le_add_left hD _) h1)
 exact ⟨t,k',g,a,Int.le_trans a' (Int.add_le_add_left hD _),fun m hm=>x m (Nat.le_trans hF hm)⟩
noncomputable def TruR:DS:=(dSeq
  (dIf (dB (dBin fEq (dName 4) (dConst (PV.int 0))))
   (dSeq
    (dRet
     (dTup
      (dCons (dConst (PV.str k_in))
       (dCons (dCall 811 (dCons (dName 0) (dCons (dName 1) (dCons (dName 2) (dCons (dBin fMin (dName 3) (dConst (PV.int 1))) dNil)))))
        (dCons (dCall 811 (dCons (dName 0) (dCons (dName 1) (dCons (dName 2) (dCons (dConst (PV.int 0)) dNil))))) dNil)))))
    dSkip)
   dSkip)
  (dSeq
   (dIf (dB (dBin fEq (dName 4) (dConst (PV.int 1))))
    (dSeq
     (dRet
      (dTup
       (dCons (dConst (PV.str k_some))
        (dCons (dCall 811 (dCons (dName 0) (dCons (dName 1) (dCons (dName 2) (dCons (dBin fMin (dName 3) (dConst (PV.int 1))) dNil))))) dNil))))
     dSkip)
    dSkip)
   (dSeq
    (dIf (dB (dBin fEq (dName 4) (dConst (PV.int 2))))
     (dSeq
      (dRet
       (dTup
        (dCons (dConst (PV.str k_not))
         (dCons (dCall 818 (dCons (dName 0) (dCons (dName 1) (dCons (dName 2) (dCons (dBin fSub (dName 3) (dConst (PV.int 1))) dNil))))) dNil))))
      dSkip)
     dSkip)
    (dSeq
     (dIf (dB (dBin fEq (dName 4) (dConst (PV.int 3))))
      (dSeq
       (dRet
        (dTup
         (dCons (dConst (PV.str k_or))
          (dCons (dCall 818 (dCons (dName 0) (dCons (dName 1) (dCons (dName 2) (dCons (dBin fSub (dName 3) (dConst (PV.int 1))) dNil)))))
           (dCons (dCall 818 (dCons (dName 0) (dCons (dName 1) (dCons (dName 2) (dCons (dConst (PV.int 0)) dNil))))) dNil)))))
       dSkip)
      dSkip)
     (dSeq
      (dIf (dAnd (dB (dBin fGt (dName 4) (dConst (PV.int 5)))) (dAnd (dB (dBin fGt (dName 2) (dConst (PV.int 1)))) dTrue))
       (dSeq (dLet 5 (dSub (dOf (dConst (PV.str k_pq))) (dCall 804 (dCons (dName 0) (dCons (dBin fSub (dName 2) (dConst (PV.int 1))) dNil)))))
        (dSeq
         (dRet
          (dTup
           (dCons (dName 5)
            (dCons
             (dCall 811 (dCons (dName 0) (dCons (dName 1) (dCons (dBin fMin (dName 2) (dConst (PV.int 1))) (dCons (dConst (PV.int 1)) dNil)))))
             (dCons (dCall 811 (dCons (dName 0) (dCons (dName 1) (dCons (dConst (PV.int 0)) (dCons (dConst (PV.int 0)) dNil)))))
              (dCons (dCall 804 (dCons (dName 0) (dCons (dConst (PV.int 2)) dNil))) dNil))))))
         dSkip))
       dSkip)
      (dSeq (dLet 6 (dSub (dOf (dConst (PV.str k_xy))) (dCall 804 (dCons (dName 0) (dCons (dConst (PV.int 2)) dNil)))))
       (dSeq
        (dRet
         (dTup
          (dCons (dIte (dB (dBin fEq (dBin fMod (dName 4) (dConst (PV.int 2))) (dConst (PV.int 0)))) (dConst (PV.str k_each)) (dConst (PV.str k_any)))
           (dCons (dName 6)
            (dCons
             (dCall 818
              (dCons (dName 0)
               (dCons (dFr (dAddL (dOf (dName 1)) (dOf (dFr (dLst (dCons (dName 6) dNil))))))
                (dCons (dName 2) (dCons (dBin fSub (dName 3) (dConst (PV.int 1))) dNil)))))
             dNil)))))
        dSkip)))))))
noncomputable def FrT (ns:List Bool) (c d r:Int):Fr:=[.val (.reg 0),.val (nmL ns),.val (.int c),.val (.int d),.val (.int r),.unset,.unset]
inductive TrO (cs:List Int) (T:Gs) (ns:List Bool) (c d:Nat) (D:Int) (F:Nat) (r k:Int):Prop
 | mk (t:TT) (k':Int) (g:GT c d t) (h:k <= k') (h':k' <= k + D) (x:∀ n Q,F <= n + 1 -> Q (tT t) (gF cs T k') -> TruR (orc (n + 1)) (FrT ns c d r) (gF cs T k) (kBody Q))
variable {c d F:Nat} {D:Int}
theorem TrO.mono {r:Int} {F':Nat} {D':Int} (h:TrO cs T ns c d D F r k) (hD:D <= D') (hF:F <= F'):TrO cs T ns c d D' F' r k:=by
 obtain ⟨t,k',g,a,a',x⟩:=h
 exact ⟨t,k',g,a,Int.le_trans a' (Int.add_le_add_left hD _),fun n Q hn=>x n Q (Nat.le_trans hF hn)⟩
theorem min1 {d:Nat}:cond (decide ((1:Int) < (d:Int))) 1 (d:Int) = ((min d 1:Nat):Int):=by
 refine Decidable.byCases (fun h:(1:Int) < d=>?_) fun h=>?_
 ·rw [decide_eq_true h]; show (1:Int) = _; omega
 ·rw [decide_eq_false h]; show (d:Int) = _; omega
theorem args4 {a b c:PV} {x y:Int} (e:x = y):[a,b,c,PV.int x] = [a,b,c,PV.int y]:=by rw [e]
theorem tway0 (hcs:cs.length <= 60) (hn:NsOk ns 0) (hA:DrS cs T ns (decide (0 < c)) c (min d 1) D F) (hF:2 <= F) (h0:0 <= k) (hD:0 <= D) (h1:k + (D + 2) <= 900):TrO cs T ns c d (D + 2) F 0 k:=by
 obtain ⟨t1,k1,g1,a1,a2,r1⟩:=hA k h0 (by omega)
 obtain ⟨t2,k2,g2,a3,a4,r2⟩:=set0 hcs hn (T:=T) (decide (0 < c)) c k1 (by omega) (by omega)
 exact ⟨.isin t1 t2,k2,.isin g1 g2,Int.le_trans a1 a3,by omega,fun n Q hn q=>((r1 (n + 1) hn).args (args4 min1)) _ (r2 (n + 1) (Nat.le_trans hF hn) _ q)⟩
theorem tway1 (hA:DrS cs T ns (decide (0 < c)) c (min d 1) D F) (h0:0 <= k) (h1:k + D <= 900):TrO cs T ns c d D F 1 k:=by
 obtain ⟨t1,k1,g1,a1,a2,r1⟩:=hA k h0 h1
 exact ⟨.some t1,k1,.some g1,a1,a2,fun n Q hn q=>((r1 (n + 1) hn).args (args4 min1)) _ q⟩
theorem sub1 {d:Nat}:((d + 1:Nat):Int) - 1 = (d:Int):=by omega
theorem tway2 (h:DrT cs T ns c d D F) (h0:0 <= k) (h1:k + D <= 900):TrO cs T ns c (d + 1) D F 2 k:=by
 obtain ⟨t1,k1,g1,a1,a2,r1⟩:=h k h0 h1
 exact ⟨.not t1,k1,.not g1,a1,a2,fun n Q hn q=>((r1 (n + 1) hn).args (args4 sub1)) _ q⟩
theorem tof0 {r:Int} (d1:∀ n,Ev (n + 1) 804 [.reg 0,.int 2] (gF cs T k) (.int r) (gF cs T (k + 1))) (h:TrO cs T ns c 0 D F r (k + 1)):DtO cs T ns c 0 (D + 1) (F + 2) k:=by
 obtain ⟨t,k',g,a,a',x⟩:=h
 refine ⟨t,k',g,Int.le_trans (addr (by decide)) a,by omega,fun m hm Q q=>?_⟩
 obtain ⟨n,rfl⟩:=Nat.exists_eq_add_of_le hm
 rw [show F + 2 + n = (F + n) + 1 + 1 by omega]
 exact c_ltruth (bq.mk rfl (d1 _ _ (x (F + n) Q (by omega) q)))
theorem tofS {r:Int} (d1:∀ n,Ev (n + 1) 804 [.reg 0,.int 8] (gF cs T k) (.int r) (gF cs T (k + 1))) (h:TrO cs T ns c (d + 1) D F r (k + 1)):DtO cs T ns c (d + 1) (D + 1) (F + 2) k:=by
 obtain ⟨t,k',g,a,a',x⟩:=h
 refine ⟨t,k',g,Int.le_trans (addr (by decide)) a,by omega,fun m hm Q q=>?_⟩
 obtain ⟨n,rfl⟩:=Nat.exists_eq_add_of_le hm
 rw [show F + 2 + n = (F + n) + 1 + 1 by omega]
 refine c_ltruth (bq.mk rfl ?_)
 conv=>whnf
 exact cT (decide_eq_true (show (0:Int) < ((d + 1:Nat):Int) by omega)) (d1 _ _ (x (F + n) Q (by omega) q))
theorem truth0 (hcs:cs.length <= 60) (hn:NsOk ns 0) (c:Nat):DrT cs T ns c 0 5 4:=fun k h0 h1=>by
 obtain ⟨r,hr,hr',d1⟩:=draw_ok hcs 2 (by decide) h0 (by omega) (T:=T)
 refine tof0 (D:=4) (F:=2) d1 ?_
 cases bit hr hr' with
 | z=>exact tway0 hcs hn (D:=2) (F:=2) (set0 hcs hn _ _) (Nat.le_refl 2) (by omega) (by decide) (by omega)
 | o=>exact (tway1 (D:=2) (F:=2) (set0 hcs hn _ _) (by omega) (by omega)).mono (by decide) (Nat.le_refl 2)
theorem tway3 (hcs:cs.length <= 60) (hn:NsOk ns 0) (h:DrT cs T ns c d D F) (hF:4 <= F) (hD:0 <= D) (h0:0 <= k) (h1:k + (D + 5) <= 900):TrO cs T ns c (d + 1) (D + 5) F 3 k:=by
 obtain ⟨t1,k1,g1,a1,a2,r1⟩:=h k h0 (by omega)
 obtain ⟨t2,k2,g2,a3,a4,r2⟩:=truth0 hcs hn (T:=T) c k1 (by omega) (by omega)
 exact ⟨.or t1 t2,k2,.or g1 g2,Int.le_trans a1 a3,by omega,fun n Q hn q=>((r1 (n + 1) hn).args (args4 sub1)) _ (r2 (n + 1) (Nat.le_trans hF hn) _ q)⟩
end
section
variable {cs:List Int} {T:Gs} {k:Int} {ns:List Bool} {n:Nat} {b:Bool} {c:Int} {d F:Nat} {D:Int}
theorem way4 (hcs:cs.length <= 60) (hn:NsOk ns 0) (hA:DrS cs T ns b c d D F) (hF:2 <= F) (hD:0 <= D) (h0:0 <= k) (h1:k + (D + 2) <= 900):LrO cs T ns b c (d + 1) (D + 2) F 4 k:=by
 obtain ⟨t1,k1,g1,a1,a2,r1⟩:=set0 hcs hn (T:=T) b c k h0 (by omega)
 obtain ⟨t2,k2,g2,a3,a4,r2⟩:=hA k1 (by omega) (by omega)
 cases ns with
 | nil=>exact absurd rfl hn.ne
 | cons b0 ns=>exact ⟨.both t1 t2,k2,.both g1 g2,Int.le_trans a1 a3,by omega,fun n Q hn q=>(r1 (n + 1) (Nat.le_trans hF hn)) _ (((r2 (n + 1) hn).args (args4 sub1)) _ q)⟩
theorem way5 (hcs:cs.length <= 60) (hn:NsOk ns 0) (hc:0 < c) (hB:DrS cs T ns false 0 d D F) (hF:2 <= F) (hD:0 <= D) (h0:0 <= k) (h1:k + (D + 3) <= 900):LrO cs T ns true c (d + 1) (D + 3) F 5 k:=by
 obtain ⟨t1,k1,g1,a1,a2,r1⟩:=hB k h0 (by omega)
 obtain ⟨t2,k2,g2,a3,a4,r2⟩:=set0 hcs hn (T:=T) true c k1 (by omega) (by omega)
 obtain ⟨r3,h3,h3',d3⟩:=draw_ok hcs 2 (k:=k2) (by decide) (by omega) (by omega) (T:=T)
 cases ns with
 | nil=>exact absurd rfl hn.ne
 | cons b0 ns =>
  cases bit h3 h3' with
  | z =>
   refine ⟨.g t1 t2 false,k2 + 1,.g false g1 g2,by omega,by omega,fun n Q hn q=>?_⟩
   conv=>whnf
   exact cT (decide_eq_true hc) (((r1 (n + 1) hn).args (args4 sub1)) _ ((r2 (n + 1) (Nat.le_trans hF hn)) _ (d3 n _ q)))
  | o =>
   refine ⟨.g t1 t2 true,k2 + 1,.g true g1 g2,by omega,by omega,fun n Q hn q=>?_⟩
   conv=>whnf
   exact cT (decide_eq_true hc) (((r1 (n + 1) hn).args (args4 sub1)) _ ((r2 (n + 1) (Nat.le_trans hF hn)) _ (d3 n _ q)))
theorem GS_those {b:Bool} {d:Nat} {v:Bool} {t:TT} (h:GT 0 0 t):GS b (d + 1) (.those v t):=by
 cases h with
 | isin h1 h2=>exact .thoseI v h1 h2
 | some h1=>exact .thoseS v h1
theorem NsOk.less {a b:Nat} (h:NsOk ns a) (hb:b <= a):NsOk ns b:=⟨h.ne,Nat.le_trans (Nat.add_le_add_left hb _) h.len⟩
theorem NsOk.more {a:Nat} (h:NsOk ns (a + 1)) (v:Bool):NsOk (ns ++ [v]) a:=⟨List.append_ne_nil_of_right_ne_nil _ (List.cons_ne_nil _ _),by have:=h.len; rw [List.length_append,List.length_singleton]; omega⟩
theorem nm_add (h:NmF ns):decide ((ns.map fun v=>PV.str (vn v)).length + 1 <= 1000000) = true:=decide_eq_true (by have:=h.s; omega)
theorem argsN {v:Bool} {a b c:PV}:[a,PV.lst ((ns.map fun v=>PV.str (vn v)) ++ [.str (vn v)]),b,c] = [a,nmL (ns ++ [v]),b,c]:=by unfold nmL; rw [List.map_append]; rfl
inductive Th (c:Int):Int -> Prop | five (h:decide (0 < c) = false):Th c 5 | six:Th c 6
theorem way6 {r:Int} (hr:Th c r) (hcs:cs.length <= 60) (hn:NsOk ns 1) (h0:0 <= k) (h1:k + 6 <= 900):LrO cs T ns b c (d + 1) 6 4 r k:=by
 have N:=hn.f
 obtain ⟨r3,h3,h3',d3⟩:=draw_ok hcs 2 (by decide) h0 (by omega) (T:=T)
 cases bit h3 h3' with
 | z =>
  obtain ⟨t1,k1,g1,a1,a2,q1⟩:=truth0 (ns:=ns ++ [false]) hcs (hn.more false) 0 (k + 1) (by omega) (by omega) (T:=T)
  cases ns with
  | nil=>exact absurd rfl hn.ne
  | cons b0 ns =>
   refine ⟨.those false t1,k1,GS_those g1,by omega,by omega,fun n Q hn q=>?_⟩
   cases hr with
   | five h =>
    conv=>whnf
    refine cF h (d3 n _ ?_)
    conv=>whnf
    exact bq.mk (nm_add N) (((q1 (n + 1) hn).args argsN) _ q)
   | six =>
    conv=>whnf
    refine d3 n _ ?_
    conv=>whnf
    exact bq.mk (nm_add N) (((q1 (n + 1) hn).args argsN) _ q)
 | o =>
  obtain ⟨t1,k1,g1,a1,a2,q1⟩:=truth0 (ns:=ns ++ [true]) hcs (hn.more true) 0 (k + 1) (by omega) (by omega) (T:=T)
  cases ns with
  | nil=>exact absurd rfl hn.ne
  | cons b0 ns =>
   refine ⟨.those true t1,k1,GS_those g1,by omega,by omega,fun n Q hn q=>?_⟩
   cases hr with
   | five h =>
    conv=>whnf
    refine cF h (d3 n _ ?_)
    conv=>whnf
    exact bq.mk (nm_add N) (((q1 (n + 1) hn).args argsN) _ q)
   | six =>
    conv=>whnf
    refine d3 n _ ?_
    conv=>whnf
    exact bq.mk (nm_add N) (((q1 (n + 1) hn).args argsN) _ q)
inductive R8:Int -> Prop | a:R8 0 | b:R8 1 | c:R8 2 | d:R8 3 | e:R8 4 | f:R8 5 | g:R8 6 | h:R8 7
theorem r8 {r:Int} (h0:0 <= r) (h1:r < 8):R8 r:=by
 obtain ⟨n,rfl⟩:=Int.eq_ofNat_of_zero_le h0
 match n,h1 with
 | 0,_=>exact .a
 | 1,_=>exact .b
 | 2,_=>exact .c
 | 3,_=>exact .d
 | 4,_=>exact .e
 | 5,_=>exact .f
 | 6,_=>exact .g
 | 7,_=>exact .h
 | n + 8,h=>exact absurd h (by omega)
theorem setS (hcs:cs.length <= 60) (hn:NsOk ns 1) (c:Nat) (hD:2 <= D) (hF:4 <= F) (hA:DrS cs T ns (decide (0 < c)) c d D F) (hB:DrS cs T ns false 0 d D F):DrS cs T ns (decide (0 < c)) c (d + 1) (D + 6) (F + 2):=fun k h0 h1=>by
 have hn0:NsOk ns 0:=hn.less (Nat.zero_le _)
 obtain ⟨r,hr,hr',d1⟩:=draw_ok hcs 7 (by decide) h0 (by omega) (T:=T)
 rw [show D + 6 = (D + 5) + 1 by omega]
 refine of_way (D:=D + 5) (F:=F) d1 ?_
 cases r8 hr (Int.lt_trans hr' (by decide)) with
 | a=>exact (way01 hcs hn0 .z (by omega) (by omega)).mono (by omega) (Nat.zero_le _)
 | b=>exact (way01 hcs hn0 .o (by omega) (by omega)).mono (by omega) (Nat.zero_le _)
 | c=>exact (way2 hn0).mono (by omega) (Nat.zero_le _)
 | d=>exact (way3 hcs hn0 (by omega) (by omega)).mono (by omega) (Nat.zero_le _)
 | e=>exact (way4 hcs hn0 hA (by omega) (by omega) (by omega) (by omega)).mono (by omega) (Nat.le_refl _)
 | f =>
  refine Decidable.byCases (fun h:0 < c=>?_) fun h=>?_
  ·rw [decide_eq_true h]
   exact (way5 hcs hn0 (by omega) hB (by omega) (by omega) (by omega) (by omega)).mono (by omega) (Nat.le_refl _)
  ·exact (way6 (.five (decide_eq_false (by omega))) hcs hn (by omega) (by omega)).mono (by omega) hF
 | g=>exact (way6 .six hcs hn (by omega) (by omega)).mono (by omega) hF
 | h=>exact absurd hr' (by decide)
theorem set1 (hcs:cs.length <= 60) (hn:NsOk ns 1) (c:Nat):DrS cs T ns (decide (0 < c)) c 1 8 6 :=
 setS hcs hn c (D:=2) (F:=4) (Int.le_refl 2) (Nat.le_refl 4) ((set0 hcs (hn.less (Nat.zero_le _)) _ _).mono (Int.le_refl 2) (by decide)) ((set0 hcs (hn.less (Nat.zero_le _)) _ _).mono (Int.le_refl 2) (by decide))
theorem set2 (hcs:cs.length <= 60) (hn:NsOk ns 1):DrS cs T ns false 0 2 14 8 :=
 setS hcs hn 0 (D:=8) (F:=6) (by decide) (by decide) (set1 hcs hn 0) (set1 hcs hn 0)
end
section
variable {cs:List Int} {T:Gs} {k:Int} {ns:List Bool} {n:Nat} {c d F:Nat} {D:Int}
theorem args5 {a b:PV} {x y z w:Int} (e:x = z) (e2:y = w):[a,b,PV.int x,PV.int y] = [a,b,PV.int z,PV.int w]:=by rw [e,e2]
inductive Cl:Int -> Prop | six:Cl 6 | seven:Cl 7
inductive PQ (c:Nat):Int -> Bool -> Prop | p:PQ c 0 false | q (h:3 <= c):PQ c 1 true
theorem pq {r:Int} (hc3:c <= 3) (h0:0 <= r) (h1:r < (c:Int) - 1):∃ q,PQ c r q:=by
 cases bit h0 (Int.lt_of_lt_of_le h1 (by omega)) with
 | z=>exact ⟨false,.p⟩
 | o=>exact ⟨true,.q (by omega)⟩
theorem min1c (h:1 < c):cond (decide ((1:Int) < (c:Int))) 1 (c:Int) = ((1:Nat):Int):=by rw [decide_eq_true (by omega)]; rfl
theorem twayC {r:Int} (hr:Cl r) (hcs:cs.length <= 60) (hn:NsOk ns 1) (hc:1 < c) (hc3:c <= 3) (h0:0 <= k) (h1:k + 12 <= 900):TrO cs T ns c (d + 1) 12 6 r k:=by
 have hn0:NsOk ns 0:=hn.less (Nat.zero_le _)
 obtain ⟨r2,h2,h2',d2⟩:=draw_ok hcs ((c:Int) - 1) (by omega) h0 (by omega) (T:=T)
 obtain ⟨q,hq⟩:=pq hc3 h2 h2'
 obtain ⟨t1,k1,g1,a1,a2,r1⟩:=set1 hcs hn 1 (k + 1) (by omega) (by omega) (T:=T)
 obtain ⟨t2,k2,g2,a3,a4,r2'⟩:=set0 hcs hn0 (T:=T) false 0 k1 (by omega) (by omega)
 obtain ⟨r3,h3,h3',d3⟩:=draw_ok hcs 2 (by decide) (k:=k2) (by omega) (by omega) (T:=T)
 have hc':decide ((1:Int) < (c:Int)) = true:=decide_eq_true (by omega)
 refine ⟨.call q t1 t2 (cond (decide (r3 = 0)) false true),k2 + 1,.call q _ (by cases hq with | p=>exact hc | q h=>exact h) g1 g2,by omega,by omega,fun n Q hn q'=>?_⟩
 have m1:6 <= n + 1:=hn
 cases bit h3 h3' with
 | z =>
  cases hq with
  | p=>cases hr <;> ((conv=>whnf); exact cT hc' (d2 n _ (((r1 (n + 1) m1).args (args5 (min1c hc) rfl)) _ (r2' (n + 1) (Nat.le_trans (by decide) m1) _ (d3 n _ q')))))
  | q h=>cases hr <;> ((conv=>whnf); exact cT hc' (d2 n _ (((r1 (n + 1) m1).args (args5 (min1c hc) rfl)) _ (r2' (n + 1) (Nat.le_trans (by decide) m1) _ (d3 n _ q')))))
 | o =>
  cases hq with
  | p=>cases hr <;> ((conv=>whnf); exact cT hc' (d2 n _ (((r1 (n + 1) m1).args (args5 (min1c hc) rfl)) _ (r2' (n + 1) (Nat.le_trans (by decide) m1) _ (d3 n _ q')))))
  | q h=>cases hr <;> ((conv=>whnf); exact cT hc' (d2 n _ (((r1 (n + 1) m1).args (args5 (min1c hc) rfl)) _ (r2' (n + 1) (Nat.le_trans (by decide) m1) _ (d3 n _ q')))))
theorem argsQ {v:Bool} {a b:PV} {x y:Int} (e:x = y):[a,PV.lst ((ns.map fun v=>PV.str (vn v)) ++ [.str (vn v)]),b,.int x] = [a,nmL (ns ++ [v]),b,.int y]:=by rw [e,argsN]
inductive Qu (c:Nat):Int -> Bool -> Prop | four:Qu c 4 false | five:Qu c 5 true | six (h:decide ((1:Int) < (c:Int)) = false):Qu c 6 false | seven (h:decide ((1:Int) < (c:Int)) = false):Qu c 7 true
theorem twayQ {r:Int} {a:Bool} {j:Nat} (hr:Qu c r a) (hcs:cs.length <= 60) (hn:NsOk ns (j + 1)) (ih:∀ ns,NsOk ns j -> DrT cs T ns c d D F) (hD:0 <= D) (h0:0 <= k) (h1:k + (D + 1) <= 900):TrO cs T ns c (d + 1) (D + 1) F r k:=by
 have N:=hn.f
 obtain ⟨r3,h3,h3',d3⟩:=draw_ok hcs 2 (by decide) h0 (by omega) (T:=T)
 cases bit h3 h3' with
 | z =>
  obtain ⟨t1,k1,g1,a1,a2,q1⟩:=ih (ns ++ [false]) (hn.more false) (k + 1) (by omega) (by omega)
  refine ⟨.quant a false t1,k1,.quant a false g1,by omega,by omega,fun n Q hn q=>?_⟩
  cases hr with
  | four =>
       conv=>whnf
       refine d3 n _ ?_
       conv=>whnf
       exact bq.mk (nm_add N) (((q1 (n + 1) hn).args (argsQ sub1)) _ q)
  | five =>
       conv=>whnf
       refine d3 n _ ?_
       conv=>whnf
       exact bq.mk (nm_add N) (((q1 (n + 1) hn).args (argsQ sub1)) _ q)
  | six h =>
        conv=>whnf
        refine cF h (d3 n _ ?_)
        conv=>whnf
        exact bq.mk (nm_add N) (((q1 (n + 1) hn).args (argsQ sub1)) _ q)
  | seven h =>
         conv=>whnf
         refine cF h (d3 n _ ?_)
         conv=>whnf
         exact bq.mk (nm_add N) (((q1 (n + 1) hn).args (argsQ sub1)) _ q)
 | o =>
  obtain ⟨t1,k1,g1,a1,a2,q1⟩:=ih (ns ++ [true]) (hn.more true) (k + 1) (by omega) (by omega)
  refine ⟨.quant a true t1,k1,.quant a true g1,by omega,by omega,fun n Q hn q=>?_⟩
  cases hr with
  | four =>
       conv=>whnf
       refine d3 n _ ?_
       conv=>whnf
       exact bq.mk (nm_add N) (((q1 (n + 1) hn).args (argsQ sub1)) _ q)
  | five =>
       conv=>whnf
       refine d3 n _ ?_
       conv=>whnf
       exact bq.mk (nm_add N) (((q1 (n + 1) hn).args (argsQ sub1)) _ q)
  | six h =>
        conv=>whnf
        refine cF h (d3 n _ ?_)
        conv=>whnf
        exact bq.mk (nm_add N) (((q1 (n + 1) hn).args (argsQ sub1)) _ q)
  | seven h =>
         conv=>whnf
         refine cF h (d3 n _ ?_)
         conv=>whnf
         exact bq.mk (nm_add N) (((q1 (n + 1) hn).args (argsQ sub1)) _ q)
theorem truthS (hcs:cs.length <= 60) (c:Nat) (hc3:c <= 3) {j:Nat} (hD:5 <= D) (hF:6 <= F) (hj:1 <= j) (ih:∀ ns,NsOk ns j -> DrT cs T ns c d D F) (ns:List Bool) (hn:NsOk ns (j + 1)):DrT cs T ns c (d + 1) (D + 13) (F + 2):=fun k h0 h1=>by
 have hn0:NsOk ns 0:=hn.less (Nat.zero_le _)
 have hn1:NsOk ns 1:=hn.less (Nat.le_add_left _ _)
 have hnj:NsOk ns j:=hn.less (Nat.le_succ _)
 obtain ⟨r,hr,hr',d1⟩:=draw_ok hcs 8 (by decide) h0 (by omega) (T:=T)
 have hA:DrS cs T ns (decide (0 < c)) c (min (d + 1) 1) 8 6:=by rw [show min (d + 1) 1 = 1 by omega]; exact set1 hcs hn1 c
 rw [show D + 13 = (D + 12) + 1 by omega]
 refine tofS (D:=D + 12) (F:=F) d1 ?_
 have hlt:¬ 1 < c -> decide ((1:Int) < (c:Int)) = false:=fun h=>decide_eq_false (by omega)
 cases r8 hr hr' with
 | a=>exact (tway0 hcs hn0 hA (by decide) (by omega) (by decide) (by omega)).mono (by omega) hF
 | b=>exact (tway1 hA (by omega) (by omega)).mono (by omega) hF
 | c=>exact (tway2 (ih ns hnj) (by omega) (by omega)).mono (by omega) (Nat.le_refl _)
 | d=>exact (tway3 hcs hn0 (ih ns hnj) (by omega) (by omega) (by omega) (by omega)).mono (by omega) (Nat.le_refl _)
 | e=>exact (twayQ .four hcs hn ih (by omega) (by omega) (by omega)).mono (by omega) (Nat.le_refl _)
 | f=>exact (twayQ .five hcs hn ih (by omega) (by omega) (by omega)).mono (by omega) (Nat.le_refl _)
 | g =>
  refine Decidable.byCases (fun h:1 < c=>?_) fun h=>?_
  ·exact (twayC .six hcs hn1 h hc3 (by omega) (by omega)).mono (by omega) hF
  ·exact (twayQ (.six (hlt h)) hcs hn ih (by omega) (by omega) (by omega)).mono (by omega) (Nat.le_refl _)
 | h =>
  refine Decidable.byCases (fun h:1 < c=>?_) fun h=>?_
  ·exact (twayC .seven hcs hn1 h hc3 (by omega) (by omega)).mono (by omega) hF
  ·exact (twayQ (.seven (hlt h)) hcs hn ih (by omega) (by omega) (by omega)).mono (by omega) (Nat.le_refl _)
end
section
variable {cs:List Int} {T:Gs} {k:Int} {n:Nat}
noncomputable def b2i (b:Bool):Int:=if b then 1 else 0
theorem two {r:Int} (h0:0 <= r) (h1:r < 2):∃ b,r = b2i b:=by cases bit h0 h1 with | z=>exact ⟨false,rfl⟩ | o=>exact ⟨true,rfl⟩
theorem ok_b (b:Bool):okI (b2i b) = true:=by cases b <;> rfl
theorem ea_b (b:Bool):idxP [PV.str k_each,PV.str k_any] (b2i b) = some (.str (qst b)):=by cases b <;> rfl
theorem ok_s (b:Bool):decide (0 <= b2i b /\ b2i b < 2 ^ 62) = true:=by cases b <;> rfl
noncomputable def pqc (q:Bool):Nat:=cond q 113 112
theorem pq_s (q:Bool):k_pq[(b2i q).toNat]? = some (pqc q):=by cases q <;> rfl
inductive GoO (cs:List Int) (T:Gs) (k:Int):Prop
 | mk (a b:Bool) (t:TT) (k':Int) (c:Cor3 t) (h:k <= k') (h':k' <= k + 60) (r:∀ m,22 <= m -> Ev m 849 [.reg 0] (gF cs T k) (tT (.quant a false (.quant b true t))) (gF cs T k'))
theorem goal_ok (hcs:cs.length <= 60) (k:Int) (h0:0 <= k) (h1:k + 60 <= 900):GoO cs T k:=by
 have b0:Bd k 0 k:=.start
 obtain ⟨_,x1,x2,da⟩:=draw_ok hcs 2 (by decide) h0 (b0.draw h1) (T:=T)
 obtain ⟨a,rfl⟩:=two x1 x2
 have b1:Bd k 1 (k + 1):=b0.one
 obtain ⟨_,x1,x2,db⟩:=draw_ok hcs 2 (by decide) (b1.pos h0) (b1.draw h1) (T:=T)
 obtain ⟨b,rfl⟩:=two x1 x2
 have b2:Bd k 2 (k + 1 + 1):=b1.one
 obtain ⟨_,x1,x2,dw⟩:=draw_ok hcs 2 (by decide) (b2.pos h0) (b2.draw h1) (T:=T)
 obtain ⟨q,rfl⟩:=two x1 x2
 have hn:NsOk [false,true] 1:=⟨List.cons_ne_nil _ _,by decide⟩
 have hn2:NsOk [false,true] 2:=⟨List.cons_ne_nil _ _,by decide⟩
 have b3:Bd k 3 (k + 1 + 1 + 1):=b2.one
 obtain ⟨t1,k1,g1,a1,a2,r1⟩:=set1 hcs hn 1 (k + 1 + 1 + 1) (b3.pos h0) (b3.room h1) (T:=T)
 have b4:Bd k 11 k1:=b3.next a1 a2
 obtain ⟨t2,k2,g2,a3,a4,r2⟩:=set1 hcs hn 1 k1 (b4.pos h0) (b4.room h1) (T:=T)
 have b5:Bd k 19 k2:=b4.next a3 a4
 obtain ⟨_,x1,x2,df⟩:=draw_ok hcs 2 (by decide) (b5.pos h0) (b5.draw h1) (T:=T)
 obtain ⟨f,rfl⟩:=two x1 x2
 have b6:Bd k 20 (k2 + 1):=b5.one
 obtain ⟨_,x1,x2,dn⟩:=draw_ok hcs 2 (by decide) (b6.pos h0) (b6.draw h1) (T:=T)
 obtain ⟨nn,rfl⟩:=two x1 x2
 have b7:Bd k 21 (k2 + 1 + 1):=b6.one
 obtain ⟨qo,x1,x2,dox⟩:=draw_ok hcs 3 (by decide) (b7.pos h0) (b7.draw h1) (T:=T)
 have hT:DrT cs T [false,true] 3 1 18 8:=truthS hcs 3 (by decide) (d:=0) (j:=1) (F:=6) (D:=5) (by decide) (by decide) (by decide) (fun ns h=>(truth0 hcs (h.less (Nat.zero_le _)) 3).mono (by decide) (by decide)) _ hn2
 have b8:Bd k 22 (k2 + 1 + 1 + 1):=b7.one
 obtain ⟨t3,k3,g3,a5,a6,r3⟩:=hT (k2 + 1 + 1 + 1) (b8.pos h0) (b8.room h1)
 have b9:Bd k 60 (cond (qo == 0) k3 (k2 + 1 + 1 + 1)):=by cases qo == 0 with | true=>exact b8.next a5 a6 | false=>exact b8.up
 have c1:Cor1 (.call q t1 t2 f):=.call q f g1 g2
 have c2:Cor2 (cond nn (.not (.call q t1 t2 f)) (.call q t1 t2 f)):=by cases nn with | false=>exact .yes c1 | true=>exact .no c1
 have start:∀ n,21 <= n + 1 -> ∀ Q,Q (tT (.quant a false (.quant b true (cond (qo == 0) (.or (cond nn (.not (.call q t1 t2 f)) (.call q t1 t2 f)) t3) (cond nn (.not (.call q t1 t2 f)) (.call q t1 t2 f)))))) (gF cs T (cond (qo == 0) k3 (k2 + 1 + 1 + 1))) ->
   (orc (n + 2)).c 849 [.reg 0] (gF cs T k) Q:=fun n hm Q h=>by
  have m6:6 <= n + 1:=Nat.le_trans (by decide) hm
  have m8:8 <= n + 1:=Nat.le_trans (by decide) hm
  refine c_lgoal (bq.mk rfl ?_)
  conv=>whnf
  refine da n _ ?_
  conv=>whnf
  refine bq.mk (ok_b a) (oq.mk (ea_b a) ?_)
  conv=>whnf
  refine db n _ ?_
  conv=>whnf
  refine bq.mk (ok_b b) (oq.mk (ea_b b) ?_)
  conv=>whnf
  refine dw n _ ?_
  conv=>whnf
  refine bq.mk (ok_s q) (oq.mk (pq_s q) ?_)
  conv=>whnf
  refine r1 (n + 1) m6 _ ?_
  conv=>whnf
  refine r2 (n + 1) m6 _ ?_
  conv=>whnf
  refine df n _ ?_
  conv=>whnf
  refine dn n _ ?_
  cases nn with
  | false =>
   conv=>whnf
   refine dox n _ ?_
   conv=>whnf
   cases e:qo == 0 with
   | true=>rw [e] at h; exact r3 (n + 1) m8 _ (by cases q <;> exact h)
   | false=>rw [e] at h; cases q <;> exact h
  | true =>
   conv=>whnf
   refine dox n _ ?_
   conv=>whnf
   cases e:qo == 0 with
   | true=>rw [e] at h; exact r3 (n + 1) m8 _ (by cases q <;> exact h)
   | false=>rw [e] at h; cases q <;> exact h
 refine ⟨a,b,cond (qo == 0) (.or (cond nn (.not (.call q t1 t2 f)) (.call q t1 t2 f)) t3) (cond nn (.not (.call q t1 t2 f)) (.call q t1 t2 f)),cond (qo == 0) k3 (k2 + 1 + 1 + 1),?_,b9.lo,b9.hi,fun m hm Q h=>?_⟩
 ·cases qo == 0 with | true=>exact .or c2 g3 | false=>exact .one c2
 ·obtain ⟨n,rfl⟩:=Nat.exists_eq_add_of_le' (Nat.le_trans (by decide:2 <= 22) hm)
  exact start n (Nat.le_of_succ_le_succ hm) Q h
end
section
mutual
noncomputable def hS:ST -> Nat
 | .name _=>1
 | .whole=>1
 | .led s=>hS s + 1
 | .both s t=>hS s + hS t + 1
 | .g s t _=>hS s + hS t + 1
 | .those _ f=>hT f + 1
noncomputable def hT:TT -> Nat
 | .isin s t=>hS s + hS t + 1
 | .some s=>hS s + 1
 | .not f=>hT f + 1
 | .or f g=>hT f + hT g + 1
 | .call _ s t _=>hS s + hS t + 1
 | .quant _ _ f=>hT f + 1
end
variable {G:Gs}
theorem ldecl_ok (n:Nat) (v:Bool):Ev (n + 1) 825 [.str (vn v)] G (decl v) G:=fun Q h=>c_ldecl h
inductive Suc (a:Nat):Nat -> Prop | mk (m:Nat) (h:a <= m):Suc a (m + 1)
theorem suc {a n:Nat} (h:a + 1 <= n):Suc a n:=by
 obtain ⟨k,rfl⟩:=Nat.exists_eq_add_of_le h
 rw [Nat.add_right_comm]
 exact .mk _ (Nat.le_add_right _ _)
theorem lel {a b c:Nat} (h:a + b <= c):a <= c:=Nat.le_trans (Nat.le_add_right _ _) h
theorem ler {a b c:Nat} (h:a + b <= c):b <= c:=Nat.le_trans (Nat.le_add_left _ _) h
mutual
theorem nodeS_ok:∀ (t:ST) (n:Nat),hS t <= n -> Ev (n + 1) 832 [tS t] G (nS t) G
 | .name v,n,h=>fun Q q=>c_lnode q
 | .whole,n,h=>fun Q q=>c_lnode q
 | .led s,n,h=>fun Q q=>by cases suc h with | mk m j=>exact c_lnode (nodeS_ok s m j _ q)
 | .both s t,n,h=>fun Q q=>by cases suc h with | mk m j=>exact c_lnode (nodeS_ok s m (lel j) _ (nodeS_ok t m (ler j) _ q))
 | .g s t k,n,h=>fun Q q=>by cases suc h with | mk m j=>cases k <;> exact c_lnode (nodeS_ok s m (lel j) _ (nodeS_ok t m (ler j) _ q))
 | .those v f,n,h=>fun Q q=>by cases suc h with | mk m j=>exact c_lnode (ldecl_ok m v _ (nodeT_ok f m j _ q))
theorem nodeT_ok:∀ (t:TT) (n:Nat),hT t <= n -> Ev (n + 1) 832 [tT t] G (nT t) G
 | .isin s t,n,h=>fun Q q=>by cases suc h with | mk m j=>exact c_lnode (nodeS_ok s m (lel j) _ (nodeS_ok t m (ler j) _ q))
 | .some s,n,h=>fun Q q=>by cases suc h with | mk m j=>exact c_lnode (nodeS_ok s m j _ q)
 | .not s,n,h=>fun Q q=>by cases suc h with | mk m j=>exact c_lnode (nodeT_ok s m j _ q)
 | .or s t,n,h=>fun Q q=>by cases suc h with | mk m j=>exact c_lnode (nodeT_ok s m (lel j) _ (nodeT_ok t m (ler j) _ q))
 | .call w s t k,n,h=>fun Q q=>by cases suc h with | mk m j=>cases w <;> cases k <;> exact c_lnode (nodeS_ok s m (lel j) _ (nodeS_ok t m (ler j) _ q))
 | .quant a v f,n,h=>fun Q q=>by cases suc h with | mk m j=>cases a <;> exact c_lnode (ldecl_ok m v _ (nodeT_ok f m j _ q))
end
end
section
noncomputable def sv (s:Se):PV:=.lst ((d3.filter s).map .int)
variable {G:Gs} {n m:Nat} {a:Int} {L M:List Int}
theorem all_int:∀ L:List Int,(L.map PV.int).all isIntP = true
 | []=>rfl
 | _ :: L=>all_int L
theorem any_int:∀ L:List Int,(L.map PV.int).any (eqIntP a) = decide (a ∈ L)
 | []=>(decide_eq_false (List.not_mem_nil)).symm
 | b :: L=>by
  show ((b == a) || (L.map PV.int).any (eqIntP a)) = _
  rw [any_int L]
  refine Decidable.byCases (fun h:b = a=>?_) fun h=>?_
  ·subst h; rw [beq_self_eq_true,decide_eq_true List.mem_cons_self]; rfl
  ·rw [beq_eq_false_iff_ne.mpr h,Bool.false_or]
   exact decide_eq_decide.mpr ⟨fun x=>List.mem_cons_of_mem _ x,fun x=>(List.mem_cons.mp x).resolve_left (Ne.symm h)⟩
theorem mem_d3 (h:a ∈ d3):a = 0 \/ a = 1 \/ a = 2:=by
 cases h with
 | head=>exact .inl rfl
 | tail _ h=>cases h with
  | head=>exact .inr (.inl rfl)
  | tail _ h=>cases h with
   | head=>exact .inr (.inr rfl)
   | tail _ h=>cases h
theorem filter_len (s:Se):(d3.filter s).length <= 3:=List.length_filter_le s d3
theorem lwith_ok (l:List (Nm × PV)) (k:Nm) (p:PV) (hl:l.length <= 100):Ev (n + 1) 839 [.dct l,.str k,p] G (.dct (putD l k p)) G:=fun Q h=>by
 refine c_lwith (bq.mk rfl (bq.mk (decide_eq_true (Nat.le_trans hl (by decide))) ?_))
 conv=>whnf
 exact bq.mk (decide_eq_true (Nat.le_trans hl (by decide))) h
noncomputable def FrV (w:PV) (v:Bool) (tf:PV) (l:List (Nm × PV)) (wd:PV) (e:Fr):Fr:=.val (.tup [w,.str (vn v),tf]) :: .val (.dct l) :: .val wd :: e
theorem keepQ {w tf wd:PV} {v:Bool} {l:List (Nm × PV)} {P:Int -> Bool} {x3 x4 x5 x6 x7 x8 x9:LV} {K:List PV -> Fr -> Gs -> Prop} (hl:l.length <= 100) (L:List Int) (acc:List PV) (x:LV) (h:∀ a ∈ L,Ev (n + 1) 844 [tf,.dct (putD l (vn v) (.lst [.int a])),wd] G (.bool (P a)) G) (hlen:acc.length + L.length <= 1000) (q:∀ fr,K (acc ++ (L.filter P).map .int) fr G) :
  foldC (dStep (orc (n + 1)) (aName 11) (dT (dCall 844 (dCons (dSub (dNameH 0) (dConst (PV.int 2))) (dCons (dCall 839 (dCons (dName 1) (dCons (dSub (dNameH 0) (dConst (PV.int 1))) (dCons (dFr (dLst (dCons (dName 11) dNil))) dNil)))) (dCons (dName 2) dNil))))) (dNext (orc (n + 1)) (dName 11) [])) (L.map .int) acc (FrV w v tf l wd [x3,x4,x5,x6,x7,x8,x9,.unset,x]) G K :=
 fold_gen (F:=fun x=>FrV w v tf l wd [x3,x4,x5,x6,x7,x8,x9,.unset,x]) (g:=fun a=>.val (.int a)) (c:=PV.int) (f:=PV.int) (P:=P) (fun a x K h=>h) L acc x (fun a ha K k=>lwith_ok l (vn v) (.lst [.int a]) hl _ (h a ha _ k)) (fun a ha K k=>k) hlen fun x=>q _
section
variable {o:Orc} {y0 y1 y2 y3 y4 y5 y6 y7 y8 y9:LV} {K:List PV -> Fr -> Gs -> Prop}
theorem keepIn (L:List Int) (acc:List PV) (x:LV) (hlen:acc.length + L.length <= 1000) (q:∀ fr,K (acc ++ (L.filter fun a=>!decide (a ∈ M)).map .int) fr G) :
  foldC (dStep o (aName 11) (dB (dBinH fNotIn (dName 11) (dNameH 9))) (dNext o (dName 11) [])) (L.map .int) acc [y0,y1,y2,y3,y4,y5,y6,y7,y8,.val (.lst (M.map .int)),.unset,x] G K :=
 fold_gen (F:=fun x=>[y0,y1,y2,y3,y4,y5,y6,y7,y8,.val (.lst (M.map .int)),.unset,x]) (g:=fun a=>.val (.int a)) (c:=PV.int) (f:=PV.int) (P:=fun a=>!decide (a ∈ M)) (fun a x K h=>h) L acc x (fun a zq K k=>by
  have e:(!((M.map PV.int).any (eqIntP a))) = !decide (a ∈ M):=by rw [any_int]
  rw [<- e] at k
  exact bq.mk (all_int M) k) (fun a ha K k=>k) hlen fun x=>q _
noncomputable def prL (prs:List (Int × Int)):List PV:=prs.map fun p=>.tup [.int p.1,.int p.2]
theorem keepLed (L:List (Int × Int)) (acc:List PV) (x z:LV) (hlen:acc.length + L.length <= 1000) (q:∀ fr,K (acc ++ ((L.filter fun p=>decide (p.1 ∈ M)).map (fun q=>q.2)).map .int) fr G) :
  foldC (dStep o (aTup 2 (aCons (aName 11) (aCons (aName 12) aNil))) (dB (dBinH fIn (dName 11) (dNameH 8))) (dNext o (dName 12) [])) (prL L) acc [y0,y1,y2,y3,y4,y5,y6,y7,.val (.lst (M.map .int)),y9,.unset,x,z] G K :=
 fold_gen (α:=Int × Int) (β:=LV × LV) (F:=fun x=>[y0,y1,y2,y3,y4,y5,y6,y7,.val (.lst (M.map .int)),y9,.unset,x.1,x.2]) (g:=fun p=>(.val (.int p.1),.val (.int p.2))) (c:=fun p=>.tup [.int p.1,.int p.2]) (f:=fun p=>.int p.2) (P:=fun p=>decide (p.1 ∈ M)) (fun a x K h=>h) L acc (x,z) (fun p zq K k=>by
  rw [<- any_int] at k
  exact bq.mk (all_int M) k) (fun a ha K k=>k) hlen fun x=>by have:=q [y0,y1,y2,y3,y4,y5,y6,y7,.val (.lst (M.map .int)),y9,.unset,x.1,x.2]; rw [List.map_map] at this; exact this
end
theorem lit_ok:∀ {L:List Int} {K:List Int -> Prop},(∀ a ∈ L,d012.contains a = true) -> K L -> litInts (L.map .int) K
 | [],_,_,q=>q
 | a :: L,K,h,q=>bq.mk (h a List.mem_cons_self) (lit_ok (L:=L) (K:=fun r=>K (a :: r)) (fun b hb=>h b (List.mem_cons_of_mem _ hb)) q)
theorem sort_ok {Q:CV -> Prop} (h:∀ a ∈ L,d012.contains a = true) (q:Q (.l ((upTo3 L).map .int))):fSortS (.lst (L.map .int)) Q:=lit_ok (K:=fun ks=>Q (.l ((upTo3 ks).map .int))) h q
end
section
structure WL (wl:List (Nm × PV)) (W:Wd) (prs:List (Int × Int)) (M:Md):Prop where
 A:fd wl k_A = some (sv W.A)
 f:fd wl k_f = some (.lst (prL prs))
 g:fd wl k_g = some (.tup [parP M.gp,tS M.g])
 p:fd wl k_p = some (.tup [parP M.pp,tT M.p])
 q:fd wl k_q = some (.tup [parP M.qp,tT M.q])
 R:∀ a b,W.R a b = decide ((a,b) ∈ prs)
 in3:∀ p ∈ prs,p.1 ∈ d3 /\ p.2 ∈ d3
 len:prs.length <= 9
structure EnvW (l:List (Nm × PV)) (σ:Bool -> Se):Prop where
 v:∀ v,fd l (vn v) = some (sv (σ v))
 len:l.length <= 90
theorem EnvW.put {l:List (Nm × PV)} {σ:Bool -> Se} (h:EnvW l σ) (v:Bool) (s:Se):EnvW (putD l (vn v) (sv s)) (upd σ v s) where
 v:=fun w=>by
  rw [fd_put]; unfold upd
  refine Decidable.byCases (fun e:w = v=>?_) fun e=>?_
  ·subst e; rw [beq_self_eq_true,if_pos rfl]; rfl
  ·rw [if_neg e,show (vn v == vn w) = false by cases v <;> cases w <;> first | rfl | exact absurd rfl e]; exact h.v w
 len:=by rw [put_len,hasK_of (h.v v)]; exact h.len
theorem sv_single {a:Int} (h:a ∈ d3):sv (single a) = .lst [.int a]:=by
 rcases mem_d3 h with rfl | rfl | rfl <;> rfl
noncomputable def VS (G:Gs) (wl:List (Nm × PV)) (W:Wd) (I:Itp) (t:ST) (F:Nat):Prop:=∀ l σ m,EnvW l σ -> F <= m -> Ev m 844 [tS t,.dct l,.dct wl] G (sv (dnS W I t σ)) G
noncomputable def VT (G:Gs) (wl:List (Nm × PV)) (W:Wd) (I:Itp) (t:TT) (F:Nat):Prop:=∀ l σ m,EnvW l σ -> F <= m -> Ev m 844 [tT t,.dct l,.dct wl] G (.bool (dnT W I t σ)) G
variable {G:Gs} {wl:List (Nm × PV)} {W:Wd} {prs:List (Int × Int)} {M:Md} {I I':Itp} {F:Nat}
theorem VS.mono {t:ST} {F F':Nat} (h:VS G wl W I t F) (hF:F <= F'):VS G wl W I t F':=fun l σ m he hm=>h l σ m he (Nat.le_trans hF hm)
theorem VT.mono {t:TT} {F F':Nat} (h:VT G wl W I t F) (hF:F <= F'):VT G wl W I t F':=fun l σ m he hm=>h l σ m he (Nat.le_trans hF hm)
theorem vsName (v:Bool):VS G wl W I (.name v) (F + 1):=fun l σ m he hm Q q=>by
 cases suc hm with
 | mk n h =>
  refine c_lvalue (bq.mk rfl ?_)
  conv=>whnf
  exact oq.mk (he.v v) q
theorem vsWhole (hw:WL wl W prs M):VS G wl W I .whole (F + 1):=fun l σ m he hm Q q=>by
 cases suc hm with
 | mk n h =>
  refine c_lvalue (bq.mk rfl ?_)
  conv=>whnf
  exact oq.mk hw.A q
theorem led_eq (hw:WL wl W prs M) (s:Se):upTo3 ((prs.filter fun p=>decide (p.1 ∈ d3.filter s)).map (fun q=>q.2)) = d3.filter (img W s):=by
 refine List.filter_congr fun b hb=>?_
 have e:img W s b = decide (b ∈ (prs.filter fun p=>decide (p.1 ∈ d3.filter s)).map (fun q=>q.2)):=by
  rw [Bool.eq_iff_iff]
  unfold img
  simp only [List.any_eq_true,Bool.and_eq_true,hw.R,decide_eq_true_eq,List.mem_map,List.mem_filter]
  constructor
  ·rintro ⟨a,h1,h2,h3⟩
   exact ⟨(a,b),⟨h3,h1,h2⟩,rfl⟩
  ·rintro ⟨⟨a,b'⟩,⟨h1,h2,h3⟩,rfl⟩
   exact ⟨a,h2,h3,h1⟩
 rw [e,List.contains_eq_mem]
theorem d3_has {a:Int} (h:a ∈ d3):d012.contains a = true:=by rcases mem_d3 h with rfl | rfl | rfl <;> rfl
theorem vsLed (hw:WL wl W prs M) {s:ST} (hs:VS G wl W I s F):VS G wl W I (.led s) (F + 1):=fun l σ m he hm Q q=>by
 cases suc hm with
 | mk n h =>
  refine c_lvalue (bq.mk rfl (hs l σ n he h _ ?_))
  conv=>whnf
  refine oq.mk hw.f ?_
  refine keepLed (M:=d3.filter (dnS W I s σ)) prs [] .unset .unset (Nat.le_trans (Nat.le_of_eq (Nat.zero_add _)) (Nat.le_trans hw.len (by decide))) fun fr=>?_
  conv=>whnf
  refine lit_ok (L:=(prs.filter fun p=>decide (p.1 ∈ d3.filter (dnS W I s σ))).map (fun q=>q.2)) (fun a ha=>?_) ?_
  ·obtain ⟨p,hp,rfl⟩:=List.mem_map.mp ha
   exact d3_has (hw.in3 p (List.mem_filter.mp hp).1).2
  ·have e:sv (dnS W I (.led s) σ) = .lst ((upTo3 ((prs.filter fun p=>decide (p.1 ∈ d3.filter (dnS W I s σ))).map (fun q=>q.2))).map .int):=by rw [led_eq hw]; rfl
   rw [e] at q
   exact q
end
section
set_option maxHeartbeats 0
variable {G:Gs} {wl:List (Nm × PV)} {W:Wd} {prs:List (Int × Int)} {M:Md} {I I':Itp} {F F2:Nat}
theorem keep_all (A P:Se):decide (((d3.filter A).filter P).length = (d3.filter A).length) = d3.all fun a=>!A a || P a:=by
 rw [Bool.eq_iff_iff,decide_eq_true_eq,List.length_filter_eq_length_iff,List.all_eq_true]
 constructor
 ·intro h a ha
  cases hA:A a
  ·rfl
  ·simpa using h a (List.mem_filter.mpr ⟨ha,hA⟩)
 ·intro h a ha
  obtain ⟨h1,h2⟩:=List.mem_filter.mp ha
  simpa [h2] using h a h1
theorem keep_any (A P:Se):(!((d3.filter A).filter P).isEmpty) = d3.any fun a=>A a && P a:=by
 rw [Bool.eq_iff_iff,List.any_eq_true]
 constructor
 ·intro h
  have:(d3.filter A).filter P ≠ []:=by intro e; rw [e] at h; simp at h
  obtain ⟨a,ha⟩:=List.exists_mem_of_ne_nil _ this
  obtain ⟨h1,h2⟩:=List.mem_filter.mp ha
  obtain ⟨h3,h4⟩:=List.mem_filter.mp h1
  exact ⟨a,h3,by simp [h2,h4]⟩
 ·rintro ⟨a,h1,h2⟩
  simp only [Bool.and_eq_true] at h2
  have:a ∈ (d3.filter A).filter P:=List.mem_filter.mpr ⟨List.mem_filter.mpr ⟨h1,h2.1⟩,h2.2⟩
  cases h:(d3.filter A).filter P with
  | nil=>rw [h] at this; cases this
  | cons=>rfl
theorem keep_in (s t:Se):((d3.filter s).filter fun a=>!decide (a ∈ d3.filter t)).isEmpty = sub3 s t:=by
 unfold sub3
 rw [Bool.eq_iff_iff,List.isEmpty_iff,List.filter_eq_nil_iff,List.all_eq_true]
 constructor
 ·intro h a ha
  cases hA:s a
  ·rfl
  ·have:=h a (List.mem_filter.mpr ⟨ha,hA⟩)
   simp [ha] at this
   simpa using this
 ·intro h a ha
  obtain ⟨h1,h2⟩:=List.mem_filter.mp ha
  have:=h a h1
  simp [h2] at this
  simp [h1,this]
theorem Suc2 {a n:Nat} (h:a + 2 <= n):∃ m,n = m + 2 /\ a <= m:=by
 obtain ⟨k,rfl⟩:=Nat.exists_eq_add_of_le h
 exact ⟨a + k,by omega,Nat.le_add_right _ _⟩
theorem int62 {L:List Int} (h:L.length <= 3):decide ((L.map PV.int).length < 2 ^ 62) = true:=decide_eq_true (by rw [List.length_map]; exact Nat.lt_of_le_of_lt h (by decide))
theorem hf_put {f:TT} {v:Bool} {l:List (Nm × PV)} {σ:Bool -> Se} {n:Nat} (hf:VT G wl W I f F) (he:EnvW l σ) (h:F <= n):∀ a ∈ d3.filter W.A,Ev n 844 [tT f,.dct (putD l (vn v) (.lst [.int a])),.dct wl] G (.bool (dnT W I f (upd σ v (single a)))) G:=fun a ha=>by
 have:=hf _ _ n (he.put v (single a)) h
 rwa [sv_single (List.mem_filter.mp ha).1] at this
theorem len0 (s:Se):([]:List PV).length + (d3.filter s).length <= 1000:=Nat.le_trans (Nat.add_le_add_left (filter_len s) _) (by decide)
theorem vsThose (hw:WL wl W prs M) {v:Bool} {f:TT} (hf:VT G wl W I f F):VS G wl W I (.those v f) (F + 2):=fun l σ m he hm Q q=>by
 obtain ⟨n,rfl,h⟩:=Suc2 hm
 have e:(d3.filter W.A).filter (fun a=>dnT W I f (upd σ v (single a))) = d3.filter (dnS W I (.those v f) σ):=by
  rw [List.filter_filter]
  exact List.filter_congr fun a zq=>Bool.and_comm _ _
 refine c_lvalue (bq.mk rfl ?_)
 conv=>whnf
 refine oq.mk hw.A ?_
 conv=>whnf
 refine keepQ (w:=.str k_those) (tf:=tT f) (wd:=.dct wl) (v:=v) (l:=l) (x3:=.val (.str k_those)) (x4:=.unset) (x5:=.unset) (x6:=.unset) (x7:=.unset) (x8:=.unset) (x9:=.unset) (P:=fun a=>dnT W I f (upd σ v (single a))) (Nat.le_trans he.len (by decide)) (d3.filter W.A) [] .unset (hf_put (v:=v) (n:=n + 1) hf he (Nat.le_add_right_of_le h)) (len0 W.A) fun fr=>?_
 rw [e]
 exact q
theorem vq (hw:WL wl W prs M) {any v:Bool} {f:TT} {l:List (Nm × PV)} {P:Int -> Bool} {n:Nat} (hl:l.length <= 90) (h:∀ a ∈ d3.filter W.A,Ev (n + 1) 844 [tT f,.dct (putD l (vn v) (.lst [.int a])),.dct wl] G (.bool (P a)) G) :
  Ev (n + 2) 844 [tT (.quant any v f),.dct l,.dct wl] G (.bool (qnt W any P)) G:=fun Q q=>by
 have f1:((d3.filter W.A).filter P).length <= 3:=Nat.le_trans (List.length_filter_le _ _) (filter_len _)
 refine c_lvalue (bq.mk rfl ?_)
 cases any with
 | false =>
  conv=>whnf
  refine oq.mk hw.A ?_
  conv=>whnf
  refine keepQ (w:=.str k_each) (tf:=tT f) (wd:=.dct wl) (v:=v) (l:=l) (x3:=.val (.str k_each)) (x4:=.unset) (x5:=.unset) (x6:=.unset) (x7:=.unset) (x8:=.unset) (x9:=.unset) (P:=P) (Nat.le_trans hl (by decide)) (d3.filter W.A) [] .unset h (len0 W.A) fun fr=>?_
  conv=>whnf
  refine bq.mk (int62 f1) ?_
  conv=>whnf
  refine oq.mk hw.A ?_
  conv=>whnf
  refine bq.mk (int62 (filter_len _)) ?_
  have e:((([] ++ List.map PV.int ((d3.filter W.A).filter P)).length:Int) == ((List.map PV.int (d3.filter W.A)).length:Int)) = qnt W false P:=by
   refine Eq.trans ?_ (keep_all W.A P)
   rw [List.nil_append,List.length_map,List.length_map,Bool.eq_iff_iff,beq_iff_eq,decide_eq_true_iff]
   exact Int.ofNat_inj
  rw [<- e] at q
  exact q
 | true =>
  conv=>whnf
  refine oq.mk hw.A ?_
  conv=>whnf
  refine keepQ (w:=.str k_any) (tf:=tT f) (wd:=.dct wl) (v:=v) (l:=l) (x3:=.val (.str k_any)) (x4:=.unset) (x5:=.unset) (x6:=.unset) (x7:=.unset) (x8:=.unset) (x9:=.unset) (P:=P) (Nat.le_trans hl (by decide)) (d3.filter W.A) [] .unset h (len0 W.A) fun fr=>?_
  have e:(!((d3.filter W.A).filter P).isEmpty) = qnt W true P:=keep_any W.A _
  rw [<- e] at q
  generalize ((d3.filter W.A).filter P) = L at q
  cases L <;> exact q
theorem vtQuant (hw:WL wl W prs M) {any v:Bool} {f:TT} (hf:VT G wl W I f F):VT G wl W I (.quant any v f) (F + 2):=fun l σ m he hm=>by
 obtain ⟨n,rfl,h⟩:=Suc2 hm
 exact vq hw he.len (hf_put (v:=v) (n:=n + 1) hf he (Nat.le_add_right_of_le h))
end
section
set_option maxHeartbeats 0
variable {G:Gs} {wl:List (Nm × PV)} {W:Wd} {prs:List (Int × Int)} {M:Md} {I I':Itp} {F F2:Nat}
theorem both_eq (s t:Se):upTo3 (d3.filter s ++ d3.filter t) = d3.filter fun a=>s a || t a :=
 List.filter_congr fun b hb=>by
  rw [List.contains_eq_mem,Bool.eq_iff_iff,decide_eq_true_eq,List.mem_append,List.mem_filter,List.mem_filter,Bool.or_eq_true]
  exact ⟨Or.imp And.right And.right,Or.imp (And.intro hb) (And.intro hb)⟩
theorem d3_all {s:Se} {a:Int} (h:a ∈ d3.filter s):d012.contains a = true:=d3_has (List.mem_filter.mp h).1
theorem vsBoth {s t:ST} (hs:VS G wl W I s F) (ht:VS G wl W I t F):VS G wl W I (.both s t) (F + 1):=fun l σ m he hm Q q=>by
 cases suc hm with
 | mk n h =>
  refine c_lvalue (bq.mk rfl (hs l σ n he h _ (ht l σ n he h _ ?_)))
  conv=>whnf
  have l3:((d3.filter (dnS W I s σ)).map PV.int).length + ((d3.filter (dnS W I t σ)).map PV.int).length <= 1000000:=by rw [List.length_map,List.length_map]; exact Nat.le_trans (Nat.add_le_add (filter_len _) (filter_len _)) (by decide)
  refine bq.mk (decide_eq_true l3) ?_
  rw [<- List.map_append]
  conv=>whnf
  refine lit_ok (fun a ha=>(List.mem_append.mp ha).elim d3_all d3_all) ?_
  have e:sv (dnS W I (.both s t) σ) = .lst ((upTo3 (d3.filter (dnS W I s σ) ++ d3.filter (dnS W I t σ))).map .int):=by rw [both_eq]; rfl
  rw [e] at q
  exact q
theorem vtIn {s t:ST} (hs:VS G wl W I s F) (ht:VS G wl W I t F):VT G wl W I (.isin s t) (F + 1):=fun l σ m he hm Q q=>by
 cases suc hm with
 | mk n h =>
  refine c_lvalue (bq.mk rfl (hs l σ n he h _ (ht l σ n he h _ ?_)))
  conv=>whnf
  refine keepIn (M:=d3.filter (dnS W I t σ)) (d3.filter (dnS W I s σ)) [] .unset (len0 _) fun fr=>?_
  have e:(([] ++ ((d3.filter (dnS W I s σ)).filter fun a=>!decide (a ∈ d3.filter (dnS W I t σ))).map PV.int)).isEmpty = dnT W I (.isin s t) σ:=by
   refine Eq.trans ?_ (keep_in (dnS W I s σ) (dnS W I t σ))
   rw [List.nil_append,List.isEmpty_map]
  rw [<- e] at q
  exact q
theorem any_ne (s:Se):(!((d3.filter s).map PV.int).isEmpty) = d3.any s:=by
 rw [List.isEmpty_map]
 exact keep_any (fun zq=>true) s
theorem vtSome {s:ST} (hs:VS G wl W I s F):VT G wl W I (.some s) (F + 1):=fun l σ m he hm Q q=>by
 cases suc hm with
 | mk n h =>
  have e:(!((d3.filter (dnS W I s σ)).map PV.int).isEmpty) = dnT W I (.some s) σ:=any_ne _
  rw [<- e] at q
  exact c_lvalue (bq.mk rfl (hs l σ n he h _ q))
theorem vtNot {f:TT} (hf:VT G wl W I f F):VT G wl W I (.not f) (F + 1):=fun l σ m he hm Q q=>by
 cases suc hm with
 | mk n h=>exact c_lvalue (bq.mk rfl (hf l σ n he h _ q))
theorem vtOr {f g:TT} (hf:VT G wl W I f F) (hg:VT G wl W I g F):VT G wl W I (.or f g) (F + 1):=fun l σ m he hm Q q=>by
 cases suc hm with
 | mk n h =>
  have r1:=hf l σ n he h
  have q:Q (.bool (dnT W I f σ || dnT W I g σ)) G:=q
  generalize dnT W I f σ = b at r1 q
  cases b <;> exact c_lvalue (bq.mk rfl (r1 _ (hg l σ n he h _ q)))
noncomputable def callL (b:Bool) (s t:Se):List (Nm × PV):=putD (putD [] (vn b) (sv s)) (vn !b) (sv t)
theorem callL_ok (b:Bool) (s t:Se):EnvW (callL b s t) (fun w=>if w = b then s else t) where
 v:=fun w=>by cases b <;> cases w <;> rfl
 len:=by cases b <;> exact Nat.le_of_ble_eq_true rfl
theorem vsG (hw:WL wl W prs M) {s t:ST} {k:Bool} (hs:VS G wl W I s F) (ht:VS G wl W I t F) (hg:VS G wl W I' M.g F) (hI:∀ x y,I.g x y = dnS W I' M.g fun w=>if w = M.gp then x else y):VS G wl W I (.g s t k) (F + 1):=fun l σ m he hm Q q=>by
 cases suc hm with
 | mk n h =>
  have q:Q (sv (I.g (dnS W I s σ) (dnS W I t σ))) G:=q
  rw [hI] at q
  exact c_lvalue (bq.mk rfl (oq.mk hw.g (hs l σ n he h _ (ht l σ n he h _ (hg _ _ n (callL_ok M.gp (dnS W I s σ) (dnS W I t σ)) h _ q)))))
theorem vtCall (hw:WL wl W prs M) {s t:ST} {q k:Bool} (hs:VS G wl W I s F) (ht:VS G wl W I t F) (hg:VT G wl W I' (if q then M.q else M.p) F) (hI:∀ x y,I.c q x y = dnT W I' (if q then M.q else M.p) fun w=>if w = (if q then M.qp else M.pp) then x else y):VT G wl W I (.call q s t k) (F + 1):=fun l σ m he hm Q z=>by
 cases suc hm with
 | mk n h =>
  have z:Q (.bool (I.c q (dnS W I s σ) (dnS W I t σ))) G:=z
  rw [hI] at z
  cases q with
  | false=>exact c_lvalue (bq.mk rfl (oq.mk hw.p (hs l σ n he h _ (ht l σ n he h _ (hg _ _ n (callL_ok M.pp (dnS W I s σ) (dnS W I t σ)) h _ z)))))
  | true=>exact c_lvalue (bq.mk rfl (oq.mk hw.q (hs l σ n he h _ (ht l σ n he h _ (hg _ _ n (callL_ok M.qp (dnS W I s σ) (dnS W I t σ)) h _ z)))))
end
section
set_option maxHeartbeats 0
variable {G:Gs} {wl:List (Nm × PV)} {W:Wd} {prs:List (Int × Int)} {M:Md} {I I':Itp} {F F2 a d:Nat}
theorem upS (h:a <= 4):F + a <= F + (4 + 3 * d):=Nat.add_le_add_left (Nat.le_trans h (Nat.le_add_right _ _)) F
theorem upS1 (h:a <= 3):F + (4 + 3 * d) + a <= F + (4 + 3 * (d + 1)):=Nat.add_le_add_left h (F + (4 + 3 * d))
theorem upT (h:a <= 8):F + a <= F + (8 + 2 * d):=Nat.add_le_add_left (Nat.le_trans h (Nat.le_add_right _ _)) F
theorem upT1 (h:a <= 2):F + (8 + 2 * d) + a <= F + (8 + 2 * (d + 1)):=Nat.add_le_add_left h (F + (8 + 2 * d))
theorem upM:F + (4 + 3 * min d 1) <= F + 7:=Nat.add_le_add_left (Nat.add_le_add_left (Nat.mul_le_mul_left 3 (Nat.min_le_right d 1)) 4) F
theorem vGS (hw:WL wl W prs M) {b:Bool} {t:ST} (h:GS b d t) (hc:b = true -> VS G wl W I' M.g F /\ ∀ x y,I.g x y = dnS W I' M.g fun w=>if w = M.gp then x else y):VS G wl W I t (F + (4 + 3 * d)):=by
 induction h with
 | name v=>exact (vsName v).mono (upS (a:=1) (by decide))
 | whole=>exact (vsWhole hw).mono (upS (a:=1) (by decide))
 | ledn v=>exact (vsLed hw (vsName v)).mono (upS (a:=2) (by decide))
 | ledw=>exact (vsLed hw (vsWhole hw)).mono (upS (a:=2) (by decide))
 | both _ _ ih1 ih2=>exact (vsBoth ((ih1 hc).mono (upS (Nat.le_refl 4))) (ih2 hc)).mono (upS1 (by decide))
 | g k _ _ ih1 ih2=>exact (vsG hw (ih1 fun h=>nomatch h) ((ih2 hc).mono (upS (Nat.le_refl 4))) ((hc rfl).1.mono (Nat.le_add_right _ _)) (hc rfl).2).mono (upS1 (by decide))
 | thoseI v _ _ ih1 ih2=>exact (vsThose hw (vtIn ((ih1 fun h=>nomatch h).mono (upS (Nat.le_refl 4))) ((ih2 fun h=>nomatch h).mono (upS (Nat.le_refl 4))))).mono (upS1 (Nat.le_refl 3))
 | thoseS v _ ih1=>exact (vsThose hw (vtSome ((ih1 fun h=>nomatch h).mono (upS (Nat.le_refl 4))))).mono (upS1 (Nat.le_refl 3))
theorem vGT (hw:WL wl W prs M) {c:Nat} {t:TT} (h:GT c d t) {I1:Bool -> Itp} (hg:VS G wl W I' M.g F /\ ∀ x y,I.g x y = dnS W I' M.g fun w=>if w = M.gp then x else y)
  (hc:∀ q:Bool,(if q then 3 else 2) <= c -> VT G wl W (I1 q) (if q then M.q else M.p) F /\ ∀ x y,I.c q x y = dnT W (I1 q) (if q then M.q else M.p) fun w=>if w = (if q then M.qp else M.pp) then x else y):VT G wl W I t (F + (8 + 2 * d)):=by
 induction h with
 | isin h1 h2=>exact (vtIn ((vGS hw h1 fun zq=>hg).mono upM) ((vGS hw h2 fun zq=>hg).mono (Nat.add_le_add_left (by decide) F))).mono (upT (Nat.le_refl 8))
 | some h1=>exact (vtSome ((vGS hw h1 fun zq=>hg).mono upM)).mono (upT (Nat.le_refl 8))
 | not _ ih=>exact (vtNot ih).mono (upT1 (by decide))
 | or _ _ ih1 ih2=>exact (vtOr ih1 (ih2.mono (upT (Nat.le_refl 8)))).mono (upT1 (by decide))
 | call q k hq h1 h2=>exact (vtCall hw (F:=F + 7) (vGS hw h1 fun zq=>hg) ((vGS (F:=F) (I':=I') hw h2 fun h=>nomatch h).mono (Nat.add_le_add_left (by decide) F)) ((hc q hq).1.mono (Nat.le_add_right _ _)) (hc q hq).2).mono (upT (Nat.le_refl 8))
 | quant a v _ ih=>exact (vtQuant hw ih).mono (upT1 (by decide))
theorem vCore (hw:WL wl W prs M) (hM:M.ok) {t:TT} (h:Cor3 t):VT G wl W (Iq M W) t 60:=by
 have g0:VS G wl W Id0 M.g 10:=vGS (F:=0) (I':=Id0) hw hM.g fun h=>nomatch h
 have p0:VT G wl W (Ig M W) M.p 22:=vGT (F:=10) (I1:=fun zq=>Id0) (I':=Id0) hw hM.p ⟨g0,fun zq zq=>rfl⟩ fun q hq=>by cases q <;> exact absurd hq (by decide)
 have q0:VT G wl W (Ip M W) M.q 34:=vGT (F:=22) (I1:=fun zq=>Ig M W) (I':=Id0) hw hM.q ⟨g0.mono (by decide),fun zq zq=>rfl⟩ fun q hq=>by
  cases q
  ·exact ⟨p0,fun zq zq=>rfl⟩
  ·exact absurd hq (by decide)
 have hc:∀ q:Bool,VT G wl W ((fun q=>if q then Ip M W else Ig M W) q) (if q then M.q else M.p) 34 /\ ∀ x y,(Iq M W).c q x y = dnT W ((fun q:Bool=>if q then Ip M W else Ig M W) q) (if q then M.q else M.p) fun w=>if w = (if q then M.qp else M.pp) then x else y:=fun q=>by
  cases q
  ·exact ⟨p0.mono (by decide),fun zq zq=>rfl⟩
  ·exact ⟨q0,fun zq zq=>rfl⟩
 have hg:VS G wl W Id0 M.g 34 /\ ∀ x y,(Iq M W).g x y = dnS W Id0 M.g fun w=>if w = M.gp then x else y:=⟨g0.mono (by decide),fun zq zq=>rfl⟩
 have c1:∀ {t},Cor1 t -> VT G wl W (Iq M W) t 42:=fun h=>by
  cases h with
  | call q k h1 h2=>exact vtCall hw (F:=41) (vGS (F:=34) hw h1 fun zq=>hg) (vGS (F:=34) hw h2 fun zq=>hg) ((hc q).1.mono (by decide)) (hc q).2
 have c2:∀ {t},Cor2 t -> VT G wl W (Iq M W) t 44:=fun h=>by
  cases h with
  | yes h=>exact (c1 h).mono (by decide)
  | no h=>exact (vtNot (c1 h)).mono (by decide)
 cases h with
 | one h=>exact (c2 h).mono (by decide)
 | or h1 h2=>exact (vtOr (c2 h1) (vGT (F:=34) hw h2 hg fun q zq=>hc q)).mono (by decide)
theorem σ2_env {l:List (Nm × PV)} {a b:Int} (ha:a ∈ d3) (hb:b ∈ d3):EnvW (putD (putD [] (vn false) (.lst [.int a])) (vn true) (.lst [.int b])) (σ2 a b) where
 v:=fun w=>by rw [<- sv_single ha,<- sv_single hb]; cases w <;> rfl
 len:=Nat.le_of_ble_eq_true rfl
theorem value_top (hw:WL wl W prs M) (hM:M.ok) {t:TT} (h:Cor3 t) (a b:Bool) (m:Nat) (hm:70 <= m) :
  Ev m 844 [tT (.quant a false (.quant b true t)),.dct [],.dct wl] G (.bool (qnt W a fun x=>qnt W b fun y=>dnT W (Iq M W) t (σ2 x y))) G:=by
 obtain ⟨n,rfl,_⟩:=Suc2 (a:=68) hm
 obtain ⟨n,rfl⟩:=Nat.exists_eq_add_of_le' (show 1 <= n by omega)
 refine vq hw (by decide) fun x hx=>vq hw (Nat.le_of_ble_eq_true rfl) fun y hy=>?_
 exact vCore hw hM h _ _ _ (σ2_env (l:=wl) (List.mem_filter.mp hx).1 (List.mem_filter.mp hy).1) (by omega)
end
section
set_option maxHeartbeats 0
variable {G:Gs} {n:Nat} {L:List Int} {a:Int}
noncomputable def t1 (a:Int):PV:=.tup [.int a]
noncomputable def tl (L:List Int):List PV:=L.map t1
noncomputable def prT (a:Int):PV:=.tup [t1 a,.bool true]
noncomputable def ks (L:List Int):List (List Int):=keysOf (L.map fun a=>[a])
noncomputable def tv (s:Se):PV:=.tup (tl (d3.filter s))
theorem fPairsT_pl:∀ {L:List Int} {K:List (List Int) -> Prop},K (L.map fun a=>[a]) -> fPairsT (L.map prT) K
 | [],_,h=>h
 | a :: L,K,h=>fPairsT_pl (L:=L) (K:=fun r=>K ([a] :: r)) h
inductive KsO (L:List Int):Prop | mk (U:List Int) (e:ks L = U.map fun a=>[a]) (m:∀ a,a ∈ U ↔ a ∈ L):KsO L
theorem any_one {U:List Int}:((U.map fun a=>[a]).any fun x=>x == [a]) = decide (a ∈ U):=by
 rw [List.any_map,Bool.eq_iff_iff,List.any_eq_true,decide_eq_true_eq]
 exact ⟨fun ⟨x,h,e⟩=>(List.cons.inj (beq_iff_eq.mp e)).1 ▸ h,fun h=>⟨a,h,beq_iff_eq.mpr rfl⟩⟩
theorem ks_ok (L:List Int):KsO L:=by
 have h:∀ (L acc:List Int),∃ U:List Int,(L.map fun a=>[a]).foldl putKey (acc.map fun a=>[a]) = U.map (fun a=>[a]) /\ ∀ a,a ∈ U ↔ a ∈ acc \/ a ∈ L:=by
  intro L
  induction L with
  | nil=>exact fun acc=>⟨acc,rfl,fun a=>⟨.inl,fun h=>h.elim id fun h=>nomatch h⟩⟩
  | cons b L ih =>
   intro acc
   show ∃ U:List Int,(L.map fun a=>[a]).foldl putKey (putKey (acc.map fun a=>[a]) [b]) = _ /\ _
   unfold putKey
   rw [any_one]
   refine Decidable.byCases (fun hb:b ∈ acc=>?_) fun hb=>?_
   ·rw [decide_eq_true hb]
    obtain ⟨U,h1,h2⟩:=ih acc
    exact ⟨U,h1,fun a=>(h2 a).trans ⟨.imp id (.tail _),fun h=>h.elim .inl fun h=>(List.mem_cons.mp h).elim (fun e=>.inl (e ▸ hb)) .inr⟩⟩
   ·rw [decide_eq_false hb]
    obtain ⟨U,h1,h2⟩:=ih (acc ++ [b])
    refine ⟨U,(congrArg (List.foldl putKey · _) List.map_append.symm).trans h1,fun a=>?_⟩
    rw [h2,List.mem_append,List.mem_singleton,List.mem_cons,or_assoc]
 obtain ⟨U,h1,h2⟩:=h L []
 exact ⟨U,h1,fun a=>(h2 a).trans ⟨fun h=>h.elim (fun h=>nomatch h) id,.inr⟩⟩
theorem ones_ok:∀ {U:List Int} {K:List Int -> Prop},(∀ a ∈ U,a ∈ d3) -> K U -> oneInts (U.map fun a=>[a]) K
 | [],_,_,h=>h
 | a :: U,K,hd,h=>bq.mk (d3_has (hd a (.head _))) (ones_ok (U:=U) (K:=fun r=>K (a :: r)) (fun b hb=>hd b (.tail _ hb)) h)
theorem len1k {m:Nat} (h:m <= 3):m <= 1000:=Nat.le_trans h (by decide)
theorem set_of_ok {p:PV} (L:List Int) (hp:pvQ p = some (tl L)) (hd:∀ a ∈ L,a ∈ d3) (hl:L.length <= 900) {s:Se} (hs:∀ a ∈ d3,decide (a ∈ L) = s a):Ev (n + 1) 477 [p] G (tv s) G:=fun Q q=>by
 obtain ⟨U,h1,h2⟩:=ks_ok L
 refine c_set_of (bq.mk rfl ?_)
 conv=>whnf
 refine oq.mk hp ?_
 refine fold_map (F:=fun x=>[.val p,.unset,x]) (g:=fun a=>.val (t1 a)) (c:=t1) (f:=prT) (fun a x K h=>h) L .unset (fun a ha K h=>h) (Nat.le_trans hl (by decide)) fun x=>?_
 refine fPairsT_pl (L:=L) (bq.mk (decide_eq_true (by rw [List.length_map]; exact hl)) ?_)
 show oneInts (ks L) _
 rw [h1]
 refine ones_ok (fun a ha=>hd a ((h2 a).mp ha)) ?_
 have e:upTo3 U = d3.filter s:=List.filter_congr fun a ha=>by rw [List.contains_eq_mem,<- hs a ha]; exact decide_eq_decide.mpr (h2 a)
 refine bq.mk (decide_eq_true ?_) ?_
 ·rw [e,List.length_map]; exact Nat.le_trans (filter_len s) (by decide)
 ·rw [e]; exact q
theorem mem_d3f {s:Se} (h:a ∈ d3.filter s):a ∈ d3:=(List.mem_filter.mp h).1
theorem tl_len (s:Se):(tl (d3.filter s)).length <= 3:=by unfold tl; rw [List.length_map]; exact filter_len s
end
section
set_option maxHeartbeats 0
variable {G:Gs} {n:Nat} {L:List Int} {a:Int}
theorem union_ok (s t:Se):Ev (n + 2) 494 [tv s,tv t] G (tv fun a=>s a || t a) G:=fun Q q=>by
 have l6:(tl (d3.filter s)).length + (tl (d3.filter t)).length <= 6:=Nat.add_le_add (tl_len s) (tl_len t)
 refine c_union (bq.mk rfl ?_)
 conv=>whnf
 refine bq.mk (decide_eq_true (Nat.le_trans l6 (by decide))) ?_
 refine set_of_ok (p:=.tup (tl (d3.filter s) ++ tl (d3.filter t))) (d3.filter s ++ d3.filter t) (congrArg some List.map_append.symm) (fun a ha=>(List.mem_append.mp ha).elim mem_d3f mem_d3f) (by rw [List.length_append]; exact Nat.le_trans (Nat.add_le_add (filter_len s) (filter_len t)) (by decide)) (fun a ha=>?_) _ q
 rw [Bool.eq_iff_iff,decide_eq_true_eq,List.mem_append,List.mem_filter,List.mem_filter,Bool.or_eq_true]
 exact ⟨Or.imp And.right And.right,Or.imp (And.intro ha) (And.intro ha)⟩
theorem minus_ok (s t:Se):Ev (n + 1) 504 [tv s,tv t] G (.tup (tl ((d3.filter s).filter fun a=>!decide (a ∈ d3.filter t)))) G:=fun Q q=>by
 obtain ⟨U,h1,h2⟩:=ks_ok (d3.filter t)
 refine c_minus (bq.mk rfl ?_)
 conv=>whnf
 refine fold_map (F:=fun x=>[.val (tv s),.val (tv t),.unset,.unset,x]) (g:=fun a=>.val (t1 a)) (c:=t1) (f:=prT) (fun a x K h=>h) (d3.filter t) .unset (fun a ha K h=>h) (len1k (filter_len t)) fun x=>?_
 refine fPairsT_pl (bq.mk (decide_eq_true (by rw [List.length_map]; exact Nat.le_trans (filter_len t) (by decide))) ?_)
 show kSeq _ _ _ _ [.val (tv s),.val (tv t),.val (.tdc (ks (d3.filter t)))] _
 conv=>whnf
 refine fold_gen (F:=fun x=>[.val (tv s),.val (tv t),.val (.tdc (ks (d3.filter t))),.unset,x]) (g:=fun a=>.val (t1 a)) (c:=t1) (f:=t1) (P:=fun a=>!decide (a ∈ d3.filter t)) (fun a x K h=>h) (d3.filter s) [] .unset (fun a ha K h=>?_) (fun a ha K h=>h) (Nat.le_trans (Nat.le_of_eq (Nat.zero_add _)) (len1k (filter_len s))) fun x=>?_
 ·have e:(!((ks (d3.filter t)).any fun x=>x == [a])) = !decide (a ∈ d3.filter t):=by rw [h1,any_one,decide_eq_decide.mpr (h2 a)]
  rw [<- e] at h
  exact h
 ·refine bq.mk (decide_eq_true ?_) q
  show (([]:List PV) ++ _).length <= _
  rw [List.nil_append,List.length_map]
  exact Nat.le_trans (List.length_filter_le _ _) (Nat.le_trans (filter_len s) (by decide))
theorem within_ok (s t:Se):Ev (n + 2) 511 [tv s,tv t] G (.bool (sub3 s t)) G:=fun Q q=>by
 have e:(tl ((d3.filter s).filter fun a=>!decide (a ∈ d3.filter t))).isEmpty = sub3 s t:=by
  unfold tl
  rw [List.isEmpty_map]
  exact keep_in s t
 rw [<- e] at q
 exact c_is_within (bq.mk rfl (minus_ok s t _ q))
end
section
set_option maxHeartbeats 0
variable {G:Gs} {n:Nat} {E:List (Int × Nat)} {Ls:List (List Int)}
noncomputable def eD (g:Nat) (E:List (Int × Nat)):List (Int × PV):=E.map fun e=>(e.1,.reg (g + 1 + e.2))
noncomputable def gJ (G:Gs) (E:List (Int × Nat)) (Ls:List (List Int)):Gs:=G ++ (.idict (eD G.length E) :: Ls.map fun c=>.list (tl c))
theorem gJ_len:(gJ G E Ls).length = G.length + 1 + Ls.length:=by unfold gJ; rw [List.length_append,List.length_cons,List.length_map,Nat.add_assoc,Nat.add_comm 1]
theorem gJ_get0:(gJ G E Ls)[G.length]? = some (.idict (eD G.length E)):=by unfold gJ; rw [List.getElem?_append_right (Nat.le_refl _),Nat.sub_self]; rfl
theorem gJ_app:gJ G E Ls ++ [.list []] = gJ G E (Ls ++ [[]]):=by unfold gJ; rw [List.append_assoc,List.map_append]; rfl
theorem gJ_at {j:Nat}:G.length + 1 + j - G.length = j + 1:=by rw [Nat.add_assoc,Nat.add_sub_cancel_left,Nat.add_comm]
theorem gJ_get {j:Nat} {c:List Int} (h:Ls[j]? = some c):(gJ G E Ls)[G.length + 1 + j]? = some (.list (tl c)):=by
 unfold gJ
 rw [List.getElem?_append_right (Nat.le_trans (Nat.le_add_right _ 1) (Nat.le_add_right _ _)),gJ_at,List.getElem?_cons_succ,List.getElem?_map,h]; rfl
theorem gJ_set {j:Nat} {c:List Int}:(gJ G E Ls).set (G.length + 1 + j) (.list (tl c)) = gJ G E (Ls.set j c):=by
 unfold gJ
 rw [List.set_append_right _ _ (Nat.le_trans (Nat.le_add_right _ 1) (Nat.le_add_right _ _)),gJ_at,List.set_cons_succ,List.map_set]
theorem gJ_setE {E':List (Int × Nat)}:(gJ G E Ls).set G.length (.idict (eD G.length E')) = gJ G E' Ls:=by
 unfold gJ
 rw [List.set_append_right _ _ (Nat.le_refl _),Nat.sub_self]; rfl
theorem fd_map {α β:Type} (g:α -> β) (a:Int):∀ E:List (Int × α),fd (E.map fun e=>(e.1,g e.2)) a = (fd E a).map g
 | []=>rfl
 | e :: E=>by
  show cond (e.1 == a) (some (g e.2)) (fd (E.map _) a) = (cond (e.1 == a) (some e.2) (fd E a)).map g
  rw [fd_map g a E]
  cases e.1 == a <;> rfl
theorem fd_snoc {α:Type} (a b:Int) (j:α):∀ E:List (Int × α),fd (E ++ [(a,j)]) b = (fd E b).or (cond (a == b) (some j) none)
 | []=>rfl
 | e :: E=>by
  show cond (e.1 == b) (some e.2) (fd (E ++ [(a,j)]) b) = (cond (e.1 == b) (some e.2) (fd E b)).or _
  rw [fd_snoc a b j E]
  cases e.1 == b <;> rfl
theorem eD_app (g:Nat) (E:List (Int × Nat)) (a:Int) (j:Nat):eD g E ++ [(a,.reg (g + 1 + j))] = eD g (E ++ [(a,j)]):=by unfold eD; rw [List.map_append]; rfl
theorem tl_snoc (c:List Int) (b:Int):tl c ++ [.tup [.int b]] = tl (c ++ [b]):=by unfold tl; rw [List.map_append]; rfl
noncomputable def bsOf (P:List (Int × Int)) (a:Int):List Int:=(P.filter fun p=>p.1 == a).map (fun q=>q.2)
theorem bsOf_snoc (P:List (Int × Int)) (a b x:Int):bsOf (P ++ [(a,b)]) x = bsOf P x ++ cond (a == x) [b] []:=by
 unfold bsOf
 rw [List.filter_append,List.map_append]
 refine congrArg _ ?_
 rw [List.filter_cons]
 show List.map _ (if (a == x) = true then _ else _) = _
 cases a == x <;> rfl
theorem bsOf_ne {P:List (Int × Int)} {a b x:Int} (h:a ≠ x):bsOf (P ++ [(a,b)]) x = bsOf P x:=by rw [bsOf_snoc,beq_eq_false_iff_ne.mpr h]; exact List.append_nil _
theorem bsOf_eq {P:List (Int × Int)} {a b:Int}:bsOf (P ++ [(a,b)]) a = bsOf P a ++ [b]:=by rw [bsOf_snoc,beq_self_eq_true]; rfl
theorem bsOf_len (P:List (Int × Int)) (a:Int):(bsOf P a).length <= P.length:=by unfold bsOf; rw [List.length_map]; exact List.length_filter_le _ _
structure JI (P:List (Int × Int)) (E:List (Int × Nat)) (Ls:List (List Int)):Prop where
 len:E.length <= Ls.length
 lsl:Ls.length = P.length
 inj:∀ a b j,fd E a = some j -> fd E b = some j -> a = b
 yes:∀ a j,fd E a = some j -> Ls[j]? = some (bsOf P a)
 no:∀ a,fd E a = none -> bsOf P a = []
 all:∀ e ∈ E,e.2 < Ls.length
variable {P:List (Int × Int)} {a b:Int} {j:Nat}
theorem JI.lt (h:JI P E Ls) (hf:fd E a = some j):j < Ls.length:=(List.getElem?_eq_some_iff.mp (h.yes a j hf)).1
theorem fd_new {x j:Nat} {z:Int} {o:Option Nat} (h:o.or (cond (a == z) (some x) none) = some j):o = some j \/ o = none /\ a = z /\ x = j:=by
 cases o with
 | some y=>exact .inl h
 | none =>
  cases e:a == z with
  | true=>rw [e] at h; cases h; exact .inr ⟨rfl,beq_iff_eq.mp e,rfl⟩
  | false=>rw [e] at h; cases h
theorem snoc_len {α β:Type} {l:List α} {m:List β} {x:α} {y:β} (h:l.length = m.length):(l ++ [x]).length = (m ++ [y]).length:=by rw [List.length_append,List.length_append,h]; rfl
theorem JI.new (h:JI P E Ls) (hf:fd E a = none):JI (P ++ [(a,b)]) (E ++ [(a,Ls.length)]) (Ls ++ [[b]]) where
 len:=by rw [List.length_append,List.length_append]; exact Nat.succ_le_succ h.len
 lsl:=snoc_len h.lsl
 inj:=fun x y j hx hy=>by
  rw [fd_snoc] at hx hy
  rcases fd_new hx with hx | ⟨hx,ex,jx⟩ <;> rcases fd_new hy with hy | ⟨hy,ey,jy⟩
  ·exact h.inj x y j hx hy
  ·exact absurd (jy ▸ h.lt hx) (Nat.lt_irrefl _)
  ·exact absurd (jx ▸ h.lt hy) (Nat.lt_irrefl _)
  ·exact ex.symm.trans ey
 yes:=fun x j hx=>by
  rw [fd_snoc] at hx
  rcases fd_new hx with hx | ⟨hx,ex,jx⟩
  ·rw [List.getElem?_append_left (h.lt hx),h.yes x j hx,bsOf_ne fun e=>by subst e; rw [hf] at hx; cases hx]
  ·subst ex; subst jx
   rw [List.getElem?_concat_length,bsOf_eq,h.no _ hf]; rfl
 no:=fun x hx=>by
  rw [fd_snoc] at hx
  cases e:fd E x with
  | some=>rw [e] at hx; cases hx
  | none =>
   rw [e] at hx
   rw [bsOf_ne fun q=>by subst q; rw [beq_self_eq_true] at hx; cases hx]
   exact h.no x e
 all:=fun e he=>by
  rw [List.length_append]
  refine (List.mem_append.mp he).elim (fun he=>Nat.lt_succ_of_lt (h.all e he)) fun he=>?_
  rw [List.mem_singleton.mp he]; exact Nat.lt_succ_self _
theorem JI.old (h:JI P E Ls) (hf:fd E a = some j):JI (P ++ [(a,b)]) E ((Ls ++ [[]]).set j (bsOf P a ++ [b])) where
 len:=by rw [List.length_set,List.length_append]; exact Nat.le_succ_of_le h.len
 lsl:=by rw [List.length_set]; exact snoc_len h.lsl
 inj:=h.inj
 yes:=fun x i hx=>by
  refine Decidable.byCases (fun e:j = i=>?_) fun e=>?_
  ·subst e
   cases h.inj _ _ _ hf hx
   rw [List.getElem?_set_self (by rw [List.length_append]; exact Nat.lt_succ_of_lt (h.lt hf)),bsOf_eq]
  ·rw [List.getElem?_set_ne e,List.getElem?_append_left (h.lt hx),h.yes x i hx,bsOf_ne fun q=>by subst q; exact e (Option.some.inj (hf.symm.trans hx))]
 no:=fun x hx=>by rw [bsOf_ne fun q=>by subst q; rw [hf] at hx; cases hx]; exact h.no x hx
 all:=fun e he=>by rw [List.length_set,List.length_append]; exact Nat.lt_succ_of_lt (h.all e he)
noncomputable def FrJ (G:Gs) (s t x:LV):Fr:=[s,t,.val (.reg G.length),x]
theorem idc_at {E:List (Int × Nat)}:rgPV (gJ G E Ls)[G.length]? = some (.idc (eD G.length E)):=by rw [gJ_get0]; rfl
theorem idx_at {E:List (Int × Nat)}:rgX (gJ G E Ls)[G.length]? = some (eD G.length E):=by rw [gJ_get0]; rfl
theorem sd_ok {o:Orc} {s t:LV} {K:PV -> Gs -> Prop} (h:JI P E Ls) (hP:P.length <= 100) (q:∀ E' Ls' j c,Ls'[j]? = some c -> c.length <= 100 -> JI (P ++ [(a,b)]) E' (Ls'.set j (c ++ [b])) -> K (.reg (G.length + 1 + j)) (gJ G E' Ls')) :
  dSetdef (dOf (dName 2)) (dCons (dSub (dNameH 3) (dConst (PV.int 0))) (dCons (dReg (dLst dNil)) dNil)) o (FrJ G s t (.val (.tup [.int a,.int b]))) (gJ G E Ls) K:=by
 refine oq.mk idc_at ?_
 conv=>whnf
 refine oq.mk (congrArg (fun g:Gs=>rgX g[G.length]?) gJ_app |>.trans idx_at) ?_
 conv=>whnf
 refine bq.mk (decide_eq_true (by unfold eD; rw [List.length_map]; exact Nat.le_trans h.len (Nat.le_trans (Nat.le_of_eq h.lsl) (Nat.le_trans hP (by decide))))) ?_
 unfold sdIn
 have e:=fd_map (fun j=>PV.reg (G.length + 1 + j)) a E
 cases hf:fd E a with
 | some j =>
  rw [hf] at e
  have e:fd (eD G.length E) a = some (.reg (G.length + 1 + j)):=e
  rw [e]
  show K _ (gJ G E Ls ++ [.list []])
  rw [gJ_app]
  exact q E (Ls ++ [[]]) j (bsOf P a) (by rw [List.getElem?_append_left (h.lt hf)]; exact h.yes a j hf) (Nat.le_trans (bsOf_len _ _) hP) (h.old hf)
 | none =>
  rw [hf] at e
  have e:fd (eD G.length E) a = none:=e
  rw [e]
  show K (.reg (gJ G E Ls).length) (List.set (gJ G E Ls ++ [.list []]) G.length (.idict (eD G.length E ++ [(a,.reg (gJ G E Ls).length)])))
  rw [gJ_app,gJ_len,eD_app,gJ_setE]
  refine q (E ++ [(a,Ls.length)]) (Ls ++ [[]]) Ls.length [] List.getElem?_concat_length (Nat.zero_le _) ?_
  rw [List.set_append_right _ _ (Nat.le_refl _),Nat.sub_self]
  exact h.new hf
noncomputable def jS:DS:=dSeq
     (dLm fAppend
      (dOf
       (dSetdef (dOf (dName 2)) (dCons (dSub (dNameH 3) (dConst (PV.int 0))) (dCons (dReg (dLst dNil)) dNil))))
      (dCons (dSlice (dName 3) (dPt1 (dConst (PV.int 1))) dPt0) dNil))
     dSkip
theorem join_step {o:Orc} {s t:LV} {Q:Flo -> Fr -> Gs -> Prop} (h:JI P E Ls) (hP:P.length <= 100) (q:∀ E' Ls',JI (P ++ [(a,b)]) E' Ls' -> Q .nx (FrJ G s t (.val (.tup [.int a,.int b]))) (gJ G E' Ls')) :
  jS o (FrJ G s t (.val (.tup [.int a,.int b]))) (gJ G E Ls) Q:=by
 unfold jS
 refine seq_go (sd_ok h hP fun E' Ls' j c hc hl hJ=>?_)
 have e:rgPV (gJ G E' Ls')[G.length + 1 + j]? = some (.lst (tl c)):=by rw [gJ_get hc]; rfl
 refine oq.mk e ?_
 conv=>whnf
 refine oq.mk e ?_
 refine bq.mk (decide_eq_true (by unfold tl; rw [List.length_map]; exact Nat.le_trans hl (by decide))) ?_
 have:=q E' _ hJ
 rw [<- gJ_set,<- tl_snoc] at this
 exact this
theorem join_fold {o:Orc} {s t:LV} {Q:Flo -> Fr -> Gs -> Prop}:∀ (R P:List (Int × Int)) (E:List (Int × Nat)) (Ls:List (List Int)) (x:LV),JI P E Ls -> P.length + R.length <= 100 -> (∀ E' Ls' x',JI (P ++ R) E' Ls' -> Q .nx (FrJ G s t x') (gJ G E' Ls')) ->
  foldS (dTurn o (aName 3) jS) (prL R) (FrJ G s t x) (gJ G E Ls) Q
 | [],P,E,Ls,x,h,_,q=>q E Ls x (by rw [List.append_nil]; exact h)
 | (a,b) :: R,P,E,Ls,x,h,hl,q=>by
  have hl:P.length + (R.length + 1) <= 100:=hl
  refine fold_go (fr':=FrJ G s t (.val (.tup [.int a,.int b]))) (fun K h=>h) (join_step h (Nat.le_trans (Nat.le_add_right _ _) hl) fun E' Ls' hJ=>kf_go (join_fold R _ E' Ls' _ hJ ?_ ?_))
  ·rw [List.length_append,List.length_singleton,Nat.add_assoc,Nat.add_comm 1]; exact hl
  ·rw [List.append_assoc]; exact q
end
section
set_option maxHeartbeats 0
variable {G:Gs} {n m:Nat} {E:List (Int × Nat)} {Ls:List (List Int)} {W:Wd} {prs:List (Int × Int)}
theorem tl_los (m:Nat):∀ L:List Int,PV.los m (tl L) = true
 | []=>rfl
 | _ :: L=>tl_los m L
theorem subi_map (m:Nat) (C:PV) (f:Nat -> PV):∀ E:List (Int × Nat),PV.subi m C (E.map fun e=>(e.1,f e.2)) = E.map fun e=>(e.1,PV.sub m C (f e.2))
 | []=>rfl
 | e :: E=>congrArg _ (subi_map m C f E)
theorem loi_map (m:Nat) (f:Nat -> PV):∀ E:List (Int × Nat),(∀ e ∈ E,(f e.2).lo m = true) -> PV.loi m (E.map fun e=>(e.1,f e.2)) = true
 | [],_=>rfl
 | e :: E,h=>aB (h e (.head _)) (loi_map m f E fun e he=>h e (.tail _ he))
noncomputable def subP (m:Nat):List (List Int) -> PV -> PV
 | [],p=>p
 | c :: R,p=>subP m R (PV.sub (m + (R.length + 1)) (.lst (tl c)) p)
theorem subP_lo {p:PV} (hp:Pure p):∀ R:List (List Int),subP m R p = p
 | []=>rfl
 | c :: R=>(congrArg (subP m R) (PV.sub_below (Nat.le_refl _) p (hp _))).trans (subP_lo hp R)
theorem subP_reg:∀ (R:List (List Int)) (j:Nat),j < R.length -> subP m R (.reg (m + 1 + j)) = .lst (tl (R.reverse.getD j []))
 | [],j,h=>nomatch h
 | c :: R,j,h=>by
  show subP m R (cond (m + 1 + j == m + (R.length + 1)) (.lst (tl c)) (.reg (m + 1 + j))) = _
  rw [List.reverse_cons,List.getD_eq_getElem?_getD]
  refine Decidable.byCases (fun e:j = R.length=>?_) fun e=>?_
  ·subst e
   rw [show (m + 1 + R.length == m + (R.length + 1)) = true from beq_iff_eq.mpr (by rw [Nat.add_assoc,Nat.add_comm 1])]
   refine (subP_lo (p:=.lst (tl c)) (fun m=>tl_los m c) R).trans ?_
   rw [<- List.length_reverse,List.getElem?_concat_length]; rfl
  ·have hj:j < R.length:=Nat.lt_of_le_of_ne (Nat.le_of_lt_succ h) e
   rw [show (m + 1 + j == m + (R.length + 1)) = false from beq_eq_false_iff_ne.mpr fun q=>e (by omega)]
   refine (subP_reg R j hj).trans ?_
   rw [List.getElem?_append_left (by rw [List.length_reverse]; exact hj),<- List.getD_eq_getElem?_getD]
theorem seal_step {g:RA} {Gr Gr':List RA} {C:PV} {j k:Nat} {fr fr':Fr} {Q:Fr -> Prop} (hc:g.content = some C) (hl:Gr.length = j) (lo:C.lo (m + j) = true) (e:Gr.map (RA.sub (m + j) C) = Gr') (e':fr.map (LV.sub (m + j) C) = fr') (h:sealR m k Gr' fr' Q):sealR m (k + 1) (g :: Gr) fr Q:=by
 subst hl; subst e; subst e'
 exact oq.mk hc (bq.mk lo h)
theorem ne_len {k:Nat}:(m == m + (k + 1)) = false:=beq_eq_false_iff_ne.mpr (by omega)
theorem seal_join {p:PV} (hp:Pure p) {Q:Fr -> Prop}:∀ (R:List (List Int)) (f:Nat -> PV) (k:Nat),R.length + 1 <= k -> (∀ e ∈ E,(subP m R (f e.2)).lo m = true) -> Q [.val p,.any,.val (.idc (E.map fun e=>(e.1,subP m R (f e.2)))),.any] ->
  sealR m k (R.map (fun c=>RA.list (tl c)) ++ [.idict (E.map fun e=>(e.1,f e.2))]) [.val p,.any,.val (.reg m),.any] Q
 | [],f,k + 1,_,hl,q=>by
  refine oq.mk rfl (bq.mk (loi_map m f E hl) (seal_nil ?_))
  show Q [.val (PV.sub m _ p),.any,.val (cond (m == m) _ _),.any]
  rw [PV.sub_below (Nat.le_refl _) p (hp _),beq_self_eq_true]
  exact q
 | c :: R,f,k + 1,hk,hl,q=>by
  have e1:(R.map (fun c=>RA.list (tl c)) ++ [RA.idict (E.map fun e=>(e.1,f e.2))]).length = R.length + 1:=by rw [List.length_append,List.length_map]; rfl
  have e2:(R.map (fun c=>RA.list (tl c)) ++ [RA.idict (E.map fun e=>(e.1,f e.2))]).map (RA.sub (m + (R.length + 1)) (.lst (tl c))) = R.map (fun c=>RA.list (tl c)) ++ [.idict (E.map fun e=>(e.1,PV.sub (m + (R.length + 1)) (.lst (tl c)) (f e.2)))]:=by
   rw [List.map_append,List.map_map]
   refine congr (congrArg _ (List.map_congr_left fun d zq=>congrArg RA.list (PV.subs_below (Nat.le_refl _) _ (tl_los _ d)))) ?_
   exact congrArg (fun l=>[RA.idict l]) (subi_map _ _ f E)
  have e3:[LV.val p,.any,.val (.reg m),.any].map (LV.sub (m + (R.length + 1)) (.lst (tl c))) = [.val p,.any,.val (.reg m),.any]:=by
   show [LV.val (PV.sub _ _ p),.any,.val (cond (m == m + (R.length + 1)) _ _),.any] = _
   rw [PV.sub_below (Nat.le_refl _) p (hp _),ne_len]; rfl
  exact seal_step rfl e1 (tl_los _ c) e2 e3 (seal_join hp R (fun j=>PV.sub (m + (R.length + 1)) (.lst (tl c)) (f j)) k (Nat.le_of_succ_le_succ hk) hl q)
noncomputable def deR:DE:=dBin fAdd (dSlice (dName 5) dPt0 (dPt1 (dU fNeg (dConst (PV.int 1))))) (dName 6)
noncomputable def dgR:Dg:=(dIv (dGet (dNameH 2) (dCons (dSub (dNameH 5) (dU fNeg (dConst (PV.int 1)))) (dCons (dFr (dLst dNil)) dNil))),aName 6,dTrue)
noncomputable def FrR (p:PV) (D:List (Int × PV)) (x y:LV):Fr:=[.val p,.any,.val (.idc D),.any,.unset,x,y]
theorem rest_ok {o:Orc} {p:PV} {D:List (Int × PV)} {bs:Int -> List Int} {K:List PV -> Fr -> Gs -> Prop} (hb:∀ a,(fd D a).getD (.lst []) = .lst (tl (bs a))) (hl:∀ a,(bs a).length <= 9):∀ (L:List Int) (acc:List PV) (x y:LV),acc.length + 9 * L.length <= 1000 -> (∀ x y,K (acc ++ tl (L.flatMap bs)) (FrR p D x y) G) ->
  foldC (dStep o (aName 5) dTrue (dNext o deR [dgR])) (tl L) acc (FrR p D x y) G K
 | [],acc,x,y,_,q=>by have:=q x y; rw [List.flatMap_nil,show tl [] = [] from rfl,List.append_nil] at this; exact this
 | a :: L,acc,x,y,h,q=>by
  have ih:=rest_ok (o:=o) (p:=p) (K:=K) hb hl L
  have h:acc.length + 9 * (L.length + 1) <= 1000:=h
  conv=>whnf
  refine oq.mk (a:=tl (bs a)) (by rw [show (fd D a).getD (CV.l []).pv = _ from hb a]; rfl) ?_
  have hb:=hl a
  refine fold_mapA (F:=fun y=>FrR p D (.val (t1 a)) y) (g:=fun b=>.val (t1 b)) (c:=t1) (f:=t1) (fun b y K h=>h) (bs a) acc y (fun b zq K h=>h) (by omega) fun y=>ih _ _ _ ?_ ?_
  ·rw [List.length_append,List.length_map]; omega
  ·rw [List.flatMap_cons,show tl (bs a ++ L.flatMap bs) = (bs a).map t1 ++ tl (L.flatMap bs) from List.map_append,<- List.append_assoc] at q
   exact q
theorem seal_mkG {X:Gs} {ks:List Bool} {d3:DS} {o:Orc} {Q:Flo -> Fr -> Gs -> Prop} {fr:Fr} (hG:G.all (RA.lo G.length) = true) (hl:(ks.length == fr.length) = true) (h:sealR G.length (G.length + X.length) X.reverse (keepOnly ks fr) fun fr=>d3 o fr G Q) :
  kSeal ks d3 o G.length Q .nx fr (G ++ X):=by
 show bq (decide (G.length <= (G ++ X).length)) (bq (ks.length == fr.length) (bq (((G ++ X).take G.length).all (RA.lo G.length)) (sealR G.length (G ++ X).length ((G ++ X).drop G.length).reverse (keepOnly ks fr) fun fr=>d3 o fr ((G ++ X).take G.length) Q)))
 rw [List.length_append,List.take_left' rfl,List.drop_left' rfl]
 exact bq.mk (decide_eq_true (Nat.le_add_right _ _)) (bq.mk hl (bq.mk hG h))
theorem ji0:JI [] [] []:=⟨Nat.le_refl _,rfl,(fun zq zq zq h=>nomatch h),(fun zq zq h=>nomatch h),fun zq zq=>rfl,fun zq h=>nomatch h⟩
noncomputable def idJ (m:Nat) (E:List (Int × Nat)) (Ls:List (List Int)):List (Int × PV):=E.map fun e=>(e.1,subP m Ls.reverse (.reg (m + 1 + e.2)))
theorem idJ_get {a:Int} (h:JI prs E Ls):(fd (idJ m E Ls) a).getD (.lst []) = .lst (tl (bsOf prs a)):=by
 unfold idJ
 rw [fd_map (fun j=>subP m Ls.reverse (.reg (m + 1 + j)))]
 cases e:fd E a with
 | none=>rw [h.no a e]; rfl
 | some j =>
  show subP m Ls.reverse _ = _
  rw [subP_reg _ _ (by rw [List.length_reverse]; exact h.lt e),List.reverse_reverse,List.getD_eq_getElem?_getD,h.yes a j e]; rfl
theorem flat_len {bs:Int -> List Int} (h:∀ a,(bs a).length <= 9):∀ L:List Int,(L.flatMap bs).length <= 9 * L.length
 | []=>Nat.le_refl _
 | a :: L=>by rw [List.flatMap_cons,List.length_append,Nat.add_comm]; exact Nat.add_le_add (flat_len h L) (h a)
theorem join_ok (hR:∀ a b,W.R a b = decide ((a,b) ∈ prs)) (h3:∀ p ∈ prs,p.1 ∈ d3 /\ p.2 ∈ d3) (hl:prs.length <= 9) (hG:G.all (RA.lo G.length) = true) (s:Se) :
  Ev (n + 2) 521 [tv s,.tup (prL prs)] G (tv (img W s)) G:=fun Q q=>by
 refine c_join (bq.mk rfl ?_)
 delta runBody W_join
 dsimp only
 refine seal_go (seq3_go (fr':=[.val (tv s),.val (.tup (prL prs)),.val (.reg G.length),.unset]) (G':=gJ G [] []) (fun K h=>h) (forz_go (oq.mk rfl (oq.mk rfl ?_))))
 refine join_fold prs [] [] [] .unset ji0 (Nat.le_trans (Nat.le_of_eq (Nat.zero_add _)) (Nat.le_trans hl (by decide))) fun E Ls x h=>?_
 have e:(RA.idict (eD G.length E) :: Ls.map fun c=>RA.list (tl c)).reverse = Ls.reverse.map (fun c=>RA.list (tl c)) ++ [.idict (E.map fun e=>(e.1,.reg (G.length + 1 + e.2)))]:=by rw [List.reverse_cons,List.map_reverse]; rfl
 refine seal_mkG hG rfl ?_
 rw [e]
 refine seal_join (p:=tv s) (fun m=>tl_los m _) Ls.reverse (fun j=>.reg (G.length + 1 + j)) _ ?_ (fun e he=>?_) ?_
 ·rw [List.length_reverse,List.length_cons,List.length_map]; exact Nat.le_add_left _ _
 ·rw [subP_reg _ _ (by rw [List.length_reverse]; exact h.all e he)]; exact tl_los _ _
 ·have l3:9 * (d3.filter s).length <= 27:=Nat.mul_le_mul_left 9 (filter_len s)
  refine rest_ok (p:=tv s) (bs:=bsOf prs) (D:=idJ G.length E Ls) (fun a=>idJ_get h) (fun a=>Nat.le_trans (bsOf_len _ _) hl) (d3.filter s) [] .unset .unset (Nat.le_trans (Nat.le_of_eq (Nat.zero_add _)) (Nat.le_trans l3 (by decide))) fun x y=>?_
  refine set_of_ok (p:=.lst ([] ++ tl ((d3.filter s).flatMap (bsOf prs)))) ((d3.filter s).flatMap (bsOf prs)) rfl (fun b hb=>?_) (Nat.le_trans (flat_len (fun a=>Nat.le_trans (bsOf_len _ _) hl) _) (Nat.le_trans l3 (by decide))) (fun b hb=>?_) _ q
  ·obtain ⟨a,_,hb⟩:=List.mem_flatMap.mp hb
   obtain ⟨p,hp,rfl⟩:=List.mem_map.mp hb
   exact (h3 p (List.mem_filter.mp hp).1).2
  ·rw [Bool.eq_iff_iff,decide_eq_true_eq]
   unfold img
   simp only [List.mem_flatMap,List.any_eq_true,Bool.and_eq_true,hR,decide_eq_true_eq,List.mem_filter,bsOf,List.mem_map,beq_iff_eq]
   constructor
   ·rintro ⟨a,⟨h1,h2⟩,⟨a',b'⟩,⟨h4,h5⟩,h6⟩
    exact ⟨a,h1,h2,by subst h5 h6; exact h4⟩
   ·rintro ⟨a,h1,h2,h4⟩
    exact ⟨a,⟨h1,h2⟩,(a,b),⟨h4,rfl⟩,rfl⟩
end
section
set_option maxHeartbeats 0
noncomputable def evF (W:Wd) (prs:List (Int × Int)):List (Nm × PV):=[(k_many,.int 3),(k_instance,.lst [tv W.A,.tup (prL prs)])]
structure Evl (G:Gs) (r:Nat) (W:Wd) (prs:List (Int × Int)):Prop where
 reg:instOf G r = some (cEval,evF W prs)
 lo:G.all (RA.lo G.length) = true
 R:∀ a b,W.R a b = decide ((a,b) ∈ prs)
 in3:∀ p ∈ prs,p.1 ∈ d3 /\ p.2 ∈ d3
 len:prs.length <= 9
variable {G:Gs} {n r:Nat} {W:Wd} {prs:List (Int × Int)} {η:List (Nm × PV)}
section
variable (h:Evl G r W prs)
include h
theorem em {m:Nm} {f:Addr} {K:Addr -> Prop} (e:mt0 cEval m = some f) (e2:(!(fd (evF W prs) m).isSome) = true) (q:K f):oq (instOf G r) fun i=>oq (mt0 i.1 m) fun f=>bq (!(fd i.2 m).isSome) (K f):=oq.mk h.reg (oq.mk e (bq.mk e2 q))
theorem ev_A:Ev (n + 1) 581 [.reg r,relA,.dct η] G (tv W.A) G:=fun Q q=>c_ev_set_of (bq.mk rfl (oq.mk h.reg q))
theorem ev_F:Ev (n + 1) 581 [.reg r,relF,.dct η] G (.tup (prL prs)) G:=fun Q q=>c_ev_set_of (bq.mk rfl (oq.mk h.reg q))
omit h in
theorem ev_var {v:Bool} {k:Int} {s:Se} (hv:fd η (fr v k) = some (tv s)):Ev (n + 1) 581 [.reg r,.tup [.str k_var,.str (fr v k)],.dct η] G (tv s) G:=fun Q q=>c_ev_set_of (bq.mk rfl (oq.mk hv q))
theorem ev_join {e:PV} {s:Se} (h1:Ev (n + 4) 581 [.reg r,e,.dct η] G (tv s) G):Ev (n + 5) 581 [.reg r,.tup [.str k_join,e,relF],.dct η] G (tv (img W s)) G:=fun Q q =>
 c_ev_set_of (bq.mk rfl (em h rfl rfl (em h rfl rfl (h1 _ (em h rfl rfl (ev_F h _ (c_of_two (bq.mk rfl (join_ok h.R h.in3 h.len h.lo s _ q)))))))))
theorem ev_union {e f:PV} {s t:Se} (h1:Ev (n + 4) 581 [.reg r,e,.dct η] G (tv s) G) (h2:Ev (n + 4) 581 [.reg r,f,.dct η] G (tv t) G):Ev (n + 5) 581 [.reg r,.tup [.str k_union,e,f],.dct η] G (tv fun a=>s a || t a) G:=fun Q q =>
 c_ev_set_of (bq.mk rfl (em h rfl rfl (em h rfl rfl (h1 _ (em h rfl rfl (h2 _ (c_of_two (bq.mk rfl (union_ok s t _ q)))))))))
end
end
section
set_option maxHeartbeats 0
variable {G:Gs} {n r:Nat} {W:Wd} {prs:List (Int × Int)} {η:List (Nm × PV)}
noncomputable def rowP (η:List (Nm × PV)) (x:Nm) (a:Int):PV:=.tup [t1 a,.dct (putD η x (.tup [t1 a]))]
noncomputable def opS:DS:=dSeq (dLetO 10 (dH1 fDict (dNameH 8)))
           (dSeq (dAssign (dTup (dCons (dName 9) dNil)) (aSub (dNameH 10) (dName 4)))
            (dSeq
             (dFrz 10
              (dLm fAppend (dNameH 6)
               (dCons (dTup (dCons (dBin fAdd (dName 7) (dName 9)) (dCons (dName 10) dNil))) dNil)))
             dSkip))
noncomputable def FrO (η:List (Nm × PV)) (x:Nm) (s0 s1 s2 s3 s5:LV) (L:List PV) (y z:LV):Fr:=[s0,s1,s2,s3,.val (.str x),s5,.ol L,.val (.tup []),.val (.dct η),y,z]
variable {x:Nm} {s0 s1 s2 s3 s5 z:LV} {Q:Flo -> Fr -> Gs -> Prop} {o:Orc} {a:Int}
theorem open_turn (hη:η.length <= 800) {L:List PV} (hL:L.length <= 100) (q:Q .nx (FrO η x s0 s1 s2 s3 s5 (L ++ [rowP η x a]) (.val (t1 a)) (.val (.dct (putD η x (.tup [t1 a]))))) G):opS o (FrO η x s0 s1 s2 s3 s5 L (.val (t1 a)) z) G Q:=by
 unfold opS
 conv=>whnf
 refine bq.mk (decide_eq_true (Nat.le_trans hη (by decide))) ?_
 conv=>whnf
 refine bq.mk (decide_eq_true (Nat.le_trans hη (by decide))) ?_
 conv=>whnf
 exact bq.mk (decide_eq_true (Nat.le_trans hL (by decide))) q
theorem open_fold (hη:η.length <= 800):∀ (R:List Int) (L:List PV) (y z:LV),L.length + R.length <= 100 -> (∀ y z,Q .nx (FrO η x s0 s1 s2 s3 s5 (L ++ R.map (rowP η x)) y z) G) -> foldS (dTurn o (aName 9) opS) (tl R) (FrO η x s0 s1 s2 s3 s5 L y z) G Q
 | [],L,y,z,_,q=>by have:=q y z; rw [List.map_nil,List.append_nil] at this; exact this
 | a :: R,L,y,z,hl,q=>by
  have hl:L.length + (R.length + 1) <= 100:=hl
  refine fold_go (fr':=FrO η x s0 s1 s2 s3 s5 L (.val (t1 a)) z) (fun K h=>h) (open_turn hη (Nat.le_trans (Nat.le_add_right _ _) hl) (kf_go (open_fold hη R _ _ _ ?_ ?_)))
  ·rw [List.length_append,List.length_singleton,Nat.add_assoc,Nat.add_comm 1]; exact hl
  ·rw [List.append_assoc]; exact q
theorem opened_ok (h:Evl G r W prs) {v:Bool} {k:Int} (hη:η.length <= 800):Ev (n + 2) 576 [.reg r,told v k,.dct η] G (.lst ((d3.filter W.A).map (rowP η (fr v k)))) G:=fun Q q=>by
 refine c_opened (bq.mk rfl (em h rfl rfl (ev_A h _ ?_)))
 refine open_fold (x:=fr v k) hη (d3.filter W.A) [] .unset .unset (Nat.le_trans (Nat.le_of_eq (Nat.zero_add _)) (Nat.le_trans (filter_len _) (by decide))) fun y z=>?_
 exact q
end
section
set_option maxHeartbeats 0
variable {G:Gs} {n r:Nat} {W:Wd} {prs:List (Int × Int)} {η:List (Nm × PV)}
noncomputable def bP (P:Int -> Bool) (a:Int):PV:=.bool (P a)
theorem bl_bo (P:Int -> Bool):∀ L:List Int,(L.map (bP P)).all isBo = true
 | []=>rfl
 | _ :: L=>bl_bo P L
theorem bl_all (P:Int -> Bool) (L:List Int):(L.map (bP P)).all isTr = L.all P:=by rw [List.all_map]; rfl
theorem bl_any (P:Int -> Bool) (L:List Int):(L.map (bP P)).any isTr = L.any P:=by rw [List.any_map]; rfl
theorem pos_len:∀ L:List Int,decide ((0:Int) < ((tl L).length:Int)) = !(L.map PV.int).isEmpty
 | []=>rfl
 | a :: L=>decide_eq_true (Int.natCast_pos.mpr (Nat.succ_pos (tl L).length))
section
variable (h:Evl G r W prs)
include h
theorem ev_comp {v:Bool} {k:Int} {f:PV} {P:Int -> Bool} (hη:η.length <= 800) (hP:∀ a ∈ d3,Ev (n + 4) 605 [.reg r,f,.dct (putD η (fr v k) (.tup [t1 a]))] G (.bool (P a)) G) :
  Ev (n + 5) 581 [.reg r,.tup [.str k_comp,told v k,f],.dct η] G (tv fun a=>W.A a && P a) G:=fun Q q=>by
 refine c_ev_set_of (bq.mk rfl (em h rfl rfl (opened_ok h hη _ ?_)))
 refine fold_gen (α:=Int) (β:=LV × LV) (F:=fun x=>[.val (.reg r),.val (.tup [.str k_comp,told v k,f]),.val (.dct η),.val (.str k_comp),.unset,x.1,x.2]) (g:=fun a=>(.val (t1 a),.val (.dct (putD η (fr v k) (.tup [t1 a]))))) (c:=rowP η (fr v k)) (f:=t1) (P:=P) (fun a x K h=>h) (d3.filter W.A) [] (.unset,.unset) (fun a ha K k=>em h rfl rfl (hP a (mem_d3f ha) _ k)) (fun a ha K h=>h) (Nat.le_trans (Nat.le_of_eq (Nat.zero_add _)) (len1k (filter_len _))) fun x=>?_
 exact set_of_ok (n:=n + 3) (p:=.lst ([] ++ tl ((d3.filter W.A).filter P))) ((d3.filter W.A).filter P) rfl (fun a ha=>mem_d3f (List.mem_filter.mp ha).1) (Nat.le_trans (List.length_filter_le _ _) (Nat.le_trans (filter_len _) (by decide))) (fun a ha=>by
  rw [Bool.eq_iff_iff,decide_eq_true_eq,List.mem_filter,List.mem_filter,Bool.and_eq_true]
  exact ⟨fun h=>⟨h.1.2,h.2⟩,fun h=>⟨⟨ha,h.1⟩,h.2⟩⟩) _ q
theorem ev_quant {any v:Bool} {k:Int} {f:PV} {P:Int -> Bool} (hη:η.length <= 800) (hP:∀ a ∈ d3,Ev (n + 4) 605 [.reg r,f,.dct (putD η (fr v k) (.tup [t1 a]))] G (.bool (P a)) G) :
  Ev (n + 5) 605 [.reg r,.tup [.str (cond any k_exists k_all),told v k,f],.dct η] G (.bool (qnt W any P)) G:=fun Q q=>by
 cases any with
 | false =>
  refine c_ev_truth (bq.mk rfl (em h rfl rfl (opened_ok h hη _ ?_)))
  refine fold_map (α:=Int) (β:=LV × LV) (F:=fun x=>[.val (.reg r),.val (.tup [.str k_all,told v k,f]),.val (.dct η),.val (.str k_all),.unset,.unset,.unset,.unset,x.1,x.2]) (g:=fun a=>(.val (t1 a),.val (.dct (putD η (fr v k) (.tup [t1 a]))))) (c:=rowP η (fr v k)) (f:=bP P) (fun a x K h=>h) (d3.filter W.A) (.unset,.unset) (fun a ha K k=>em h rfl rfl (hP a (mem_d3f ha) _ k)) (len1k (filter_len _)) fun x=>?_
  refine bq.mk (bl_bo P _) ?_
  have e:(((d3.filter W.A).map (bP P)).all isTr) = qnt W false P:=by rw [bl_all,List.all_filter]; rfl
  rw [<- e] at q
  exact q
 | true =>
  refine c_ev_truth (bq.mk rfl (em h rfl rfl (opened_ok h hη _ ?_)))
  refine fold_map (α:=Int) (β:=LV × LV) (F:=fun x=>[.val (.reg r),.val (.tup [.str k_exists,told v k,f]),.val (.dct η),.val (.str k_exists),.unset,.unset,.unset,.unset,x.1,x.2]) (g:=fun a=>(.val (t1 a),.val (.dct (putD η (fr v k) (.tup [t1 a]))))) (c:=rowP η (fr v k)) (f:=bP P) (fun a x K h=>h) (d3.filter W.A) (.unset,.unset) (fun a ha K k=>em h rfl rfl (hP a (mem_d3f ha) _ k)) (len1k (filter_len _)) fun x=>?_
  refine bq.mk (bl_bo P _) ?_
  have e:(((d3.filter W.A).map (bP P)).any isTr) = qnt W true P:=by rw [bl_any,List.any_filter]; rfl
  rw [<- e] at q
  exact q
theorem ev_in {e f:PV} {s t:Se} (h1:Ev (n + 4) 581 [.reg r,e,.dct η] G (tv s) G) (h2:Ev (n + 4) 581 [.reg r,f,.dct η] G (tv t) G):Ev (n + 5) 605 [.reg r,.tup [.str k_in,e,f],.dct η] G (.bool (sub3 s t)) G:=fun Q q =>
 c_ev_truth (bq.mk rfl (em h rfl rfl (h1 _ (em h rfl rfl (h2 _ (within_ok (n:=n + 2) s t _ q))))))
theorem ev_some {e:PV} {s:Se} (h1:Ev (n + 4) 581 [.reg r,e,.dct η] G (tv s) G):Ev (n + 5) 605 [.reg r,.tup [.str k_some,e],.dct η] G (.bool (d3.any s)) G:=fun Q q=>by
 have e:decide ((0:Int) < ((tl (d3.filter s)).length:Int)) = d3.any s:=(pos_len _).trans (any_ne s)
 rw [<- e] at q
 refine c_ev_truth (bq.mk rfl (em h rfl rfl (em h rfl rfl (h1 _ (bq.mk (decide_eq_true (Nat.lt_of_le_of_lt (tl_len s) (by decide))) (c_has_many (bq.mk rfl ?_)))))))
 exact q
theorem ev_not {f:PV} {b:Bool} (h1:Ev (n + 4) 605 [.reg r,f,.dct η] G (.bool b) G):Ev (n + 5) 605 [.reg r,.tup [.str k_not,f],.dct η] G (.bool (!b)) G:=fun Q q=>c_ev_truth (bq.mk rfl (em h rfl rfl (h1 _ q)))
theorem ev_or {f g:PV} {a b:Bool} (h1:Ev (n + 4) 605 [.reg r,f,.dct η] G (.bool a) G) (h2:Ev (n + 4) 605 [.reg r,g,.dct η] G (.bool b) G):Ev (n + 5) 605 [.reg r,.tup [.str k_or,.tup [f,g]],.dct η] G (.bool (a || b)) G:=fun Q q=>by
 have e:(a || (b || false)) = (a || b):=by rw [Bool.or_false]
 rw [<- e] at q
 exact c_ev_truth (bq.mk rfl (em h rfl rfl (h1 _ (em h rfl rfl (h2 _ q)))))
end
theorem tv_single {a:Int} (h:a ∈ d3):tv (single a) = .tup [t1 a]:=by
 rcases mem_d3 h with rfl | rfl | rfl <;> rfl
noncomputable def Holds (η:List (Nm × PV)) (P:VP) (h:Bool -> Int -> Se):Prop:=∀ v k,P v k -> fd η (fr v k) = some (tv (h v k))
end
section
set_option maxHeartbeats 0
variable {G:Gs} {n r a b m:Nat} {W:Wd} {prs:List (Int × Int)} {η:List (Nm × PV)}
theorem Holds.put {P:VP} {h:Bool -> Int -> Se} (H:Holds η P h) (v:Bool) (k:Int) (s:Se):Holds (putD η (fr v k) (tv s)) (addP P v k) (updk h v k s):=fun w j hw=>by
 rw [fd_put]
 unfold updk
 refine Decidable.byCases (fun e:fr v k = fr w j=>?_) fun e=>?_
 ·rw [beq_iff_eq.mpr e,if_pos ⟨(fr_injv e).symm,(fr_inj e).symm⟩]; rfl
 ·rw [beq_eq_false_iff_ne.mpr e,if_neg fun q=>e (by rw [q.1,q.2])]
  exact H w j (hw.resolve_right fun q=>e (by rw [q.1,q.2]))
inductive Lvl (a:Nat):Nat -> Prop | mk (n:Nat) (h:a + 4 <= n + 4):Lvl a (n + 5)
theorem lvl (h:a + 1 + 4 <= m):Lvl a m:=by
 obtain ⟨n,rfl⟩:=Nat.exists_eq_add_of_le' (Nat.le_trans (Nat.add_le_add_right (Nat.le_add_left 1 a) 4) h)
 exact ⟨n,by omega⟩
theorem Lvl.max (h:max a b + 4 <= n):a + 4 <= n /\ b + 4 <= n:=⟨Nat.le_trans (Nat.add_le_add_right (Nat.le_max_left _ _) _) h,Nat.le_trans (Nat.add_le_add_right (Nat.le_max_right _ _) _) h⟩
theorem rm (h:m + (a + 1) <= 800):m + a <= 800:=Nat.le_of_succ_le h
theorem rmL (h:m + (max a b + 1) <= 800):m + a <= 800:=Nat.le_trans (Nat.add_le_add_left (Nat.le_max_left _ _) _) (rm h)
theorem rmR (h:m + (max a b + 1) <= 800):m + b <= 800:=Nat.le_trans (Nat.add_le_add_left (Nat.le_max_right _ _) _) (rm h)
theorem rm0 (h:m + a <= 800):m <= 800:=Nat.le_trans (Nat.le_add_right _ _) h
theorem rmP {k:Nm} {p:PV} (h:η.length + (a + 1) <= 800):(putD η k p).length + a <= 800:=by
 rw [put_len]
 refine Nat.le_trans ?_ h
 cases hasK η k with
 | true=>exact Nat.le_succ _
 | false=>exact Nat.le_of_eq (Nat.succ_add _ _)
variable (ev:Evl G r W prs)
include ev
mutual
theorem evE:∀ (e:CE) (P:VP) (h:Bool -> Int -> Se) (η:List (Nm × PV)) (m:Nat),fE P e -> Holds η P h -> η.length + hE e <= 800 -> hE e + 4 <= m -> Ev m 581 [.reg r,pE e,.dct η] G (tv (eE W e h)) G
 | .A,P,h,η,m,_,H,_,hm=>by cases lvl (a:=0) hm; exact ev_A ev
 | .var v k,P,h,η,m,hf,H,_,hm=>by cases lvl (a:=0) hm; exact ev_var (H v k hf)
 | .join e,P,h,η,m,hf,H,hl,hm=>by
  cases lvl hm with
  | mk n h1=>exact ev_join ev (evE e P h η (n + 4) hf H (rm hl) h1)
 | .union a b,P,h,η,m,hf,H,hl,hm=>by
  cases lvl hm with
  | mk n h1=>exact ev_union ev (evE a P h η (n + 4) hf.1 H (rmL hl) (Lvl.max h1).1) (evE b P h η (n + 4) hf.2 H (rmR hl) (Lvl.max h1).2)
 | .comp v k f,P,h,η,m,hf,H,hl,hm=>by
  cases lvl hm with
  | mk n h1=>exact ev_comp ev (rm0 hl) fun a ha=>tv_single ha ▸ evF_ok f _ _ _ (n + 4) hf (H.put v k (single a)) (rmP hl) h1
theorem evF_ok:∀ (e:CF) (P:VP) (h:Bool -> Int -> Se) (η:List (Nm × PV)) (m:Nat),fF P e -> Holds η P h -> η.length + hF e <= 800 -> hF e + 4 <= m -> Ev m 605 [.reg r,pF e,.dct η] G (.bool (eF W e h)) G
 | .isin a b,P,h,η,m,hf,H,hl,hm=>by
  cases lvl hm with
  | mk n h1=>exact ev_in ev (evE a P h η (n + 4) hf.1 H (rmL hl) (Lvl.max h1).1) (evE b P h η (n + 4) hf.2 H (rmR hl) (Lvl.max h1).2)
 | .some a,P,h,η,m,hf,H,hl,hm=>by
  cases lvl hm with
  | mk n h1=>exact ev_some ev (evE a P h η (n + 4) hf H (rm hl) h1)
 | .not a,P,h,η,m,hf,H,hl,hm=>by
  cases lvl hm with
  | mk n h1=>exact ev_not ev (evF_ok a P h η (n + 4) hf H (rm hl) h1)
 | .or a b,P,h,η,m,hf,H,hl,hm=>by
  cases lvl hm with
  | mk n h1=>exact ev_or ev (evF_ok a P h η (n + 4) hf.1 H (rmL hl) (Lvl.max h1).1) (evF_ok b P h η (n + 4) hf.2 H (rmR hl) (Lvl.max h1).2)
 | .quant any v k f,P,h,η,m,hf,H,hl,hm=>by
  cases lvl hm with
  | mk n h1=>exact ev_quant ev (rm0 hl) fun a ha=>tv_single ha ▸ evF_ok f _ _ _ (n + 4) hf (H.put v k (single a)) (rmP hl) h1
end
end
section
set_option maxHeartbeats 0
variable {n:Nat} {a b fs:List (Nm × PV)} {T:Gs}
noncomputable def entA:List (Nm × PV):=[(k_A,itemSig)]
noncomputable def gT (a b fs:List (Nm × PV)) (T:Gs):Gs:=.dict a :: .dict b :: .inst cSigs fs :: .dict entA :: T
noncomputable def sf0:List (Nm × PV):=[(k_entries,.reg 3),(k_stands,.reg 4),(k_opened,.reg 5)]
noncomputable def sf1:List (Nm × PV):=[(k_entries,.reg 3),(k_stands,.reg 4),(k_opened,.reg 5),(k_ordered,.lst [.str k_A])]
theorem take_ok:Ev (n + 1) 647 [.reg 2,itemSig] [.dict a,.dict b,.inst cSigs sf0,.dict [],.list [],.list []] .none (gT a b sf0 [.list [.str k_A],.list []]):=fun Q q=>c_take_sig (bq.mk rfl q)
structure SgF (fs:List (Nm × PV)):Prop where
 e:fd fs k_entries = some (.reg 3)
 p:(!(fd fs k_parent).isSome) = true
 s:(!(fd fs k_supers).isSome) = true
 d:(!(fd fs k_direct).isSome) = true
 a:(!(fd fs k_all_above).isSome) = true
section
variable (f:SgF fs)
include f
theorem parent_ok:Ev (n + 1) 713 [.reg 2,.str k_A] (gT a b fs T) (.str k_0) (gT a b fs T):=fun Q q=>c_parent (bq.mk rfl (oq.mk f.e q))
theorem supers_ok:Ev (n + 1) 720 [.reg 2,.str k_A] (gT a b fs T) (.tup []) (gT a b fs T):=fun Q q=>c_supers (bq.mk rfl (oq.mk f.e q))
theorem direct_ok:Ev (n + 2) 661 [.reg 2,.str k_A] (gT a b fs T) (.tup []) (gT a b fs T):=fun Q q=>c_direct (bq.mk rfl (bq.mk f.p (parent_ok f _ (bq.mk f.s (supers_ok f _ q)))))
theorem look_ok:Ev (n + 3) 654 [.reg 2,.str k_A] (gT a b fs T) .none (gT a b fs T):=fun Q q=>c_look_above (bq.mk rfl (bq.mk f.d (direct_ok f _ (bq.mk f.p (parent_ok f _ q)))))
end
theorem f0:SgF sf0:=⟨rfl,rfl,rfl,rfl,rfl⟩
theorem fS:SgF sigF:=⟨rfl,rfl,rfl,rfl,rfl⟩
section
variable (ha:Pured a) (hb:Pured b)
include ha hb
theorem pf_ok:Ev (n + 3) 666 [.reg 2] (gT a b sf0 [.list [.str k_A],.list []]) (.lst [.str k_A]) (gT a b sf0 [.list [.str k_A],.list []]):=fun Q q=>by
 refine c_parents_first (bq.mk rfl (direct_ok f0 _ ?_))
 conv=>whnf
 exact bq.mk (aB (ha 6) (aB (hb 6) rfl)) q
theorem af_ok:Ev (n + 2) 673 [.reg 2] (gT a b sf1 [.list [.str k_A],.list []]) (.lst [fieldT]) (gT a b sf1 [.list [.str k_A],.list []]):=fun Q q=>by
 refine c_all_fields (bq.mk rfl ?_)
 conv=>whnf
 exact bq.mk (aB (ha 6) (aB (hb 6) rfl)) q
theorem aa_ok:Ev (n + 3) 755 [.reg 2,.str k_A] (gT a b sigF [.list [.str k_A],.list []]) (.lst []) (gT a b sigF [.list [.str k_A],.list []]):=fun Q q=>by
 refine c_all_above (bq.mk rfl (direct_ok fS _ ?_))
 conv=>whnf
 exact bq.mk (aB (ha 6) (aB (hb 6) rfl)) q
theorem lf_ok:Ev (n + 4) 680 [.reg 2] (gT a b sigF [.list [.str k_A],.list []]) .none (gT a b sigF [.list [.str k_A],.list []]):=fun Q q=>c_look_fields (bq.mk rfl (aa_ok ha hb _ q))
end
end
section
set_option maxHeartbeats 0
variable {n:Nat} {a b:List (Nm × PV)} {M:Md}
noncomputable def itemsV (M:Md):PV:=.lst [itemSig,itemG M,itemP M false,itemP M true]
noncomputable def numsV:PV:=.dct [(k_A,.int 0),(kx_412e66,.int 1)]
theorem sigs_ok (ha:Pured a) (hb:Pured b):Ev (n + 6) 640 [.reg 2,itemsV M] [.dict a,.dict b,.inst cSigs []] .none (gT a b sigF [.list [.str k_A],.list []]):=fun Q q =>
by
 refine c_sigs_init (bq.mk rfl (take_ok _ ?_))
 conv=>whnf
 exact ⟨rfl,look_ok f0 _ (And.intro rfl (pf_ok ha hb _ (af_ok ha hb _ (lf_ok ha hb _ q))))⟩
theorem oinit_run:Ev (n + 2) 225 [.reg 6,.reg 2,.none,itemsV M,numsV] (gT a b sigF [.list [.str k_A],.list [],.inst cOpener []]) .none (gO ⟨a,b,itemsV M,M,[]⟩ ⟨0,0,0,0⟩):=fun Q q=>by
 refine c_oinit (bq.mk rfl ?_)
 conv=>whnf
 refine c_names_init (bq.mk rfl ?_)
 conv=>whnf
 exact q
end
section
set_option maxHeartbeats 0
variable {n:Nat} {M:Md} {cs:List Int} {T:Gs} {k:Int}
noncomputable def mdL (M:Md):List (Nm × PV):=[(k_g,.tup [parP M.gp,tS M.g]),(k_p,.tup [parP M.pp,tT M.p]),(k_q,.tup [parP M.qp,tT M.q])]
noncomputable def FrI (many:Int) (wl:List (Nm × PV)) (mask:Int) (x y:LV):Fr:=[.val (.reg 0),.val (.reg 1),.val (.int many),.od wl,.val (.int mask),.unset,x,y]
noncomputable def deI:DE:=dTup (dCons (dName 6) (dCons (dName 7) dNil))
noncomputable def dtI:DB:=dB (dBin fEq (dCall 804 (dCons (dName 0) (dCons (dConst (PV.int 3)) dNil))) (dConst (PV.int 0)))
noncomputable def dgI:Dg:=(dIv (dSub (dNameH 3) (dConst (PV.str k_A))),aName 7,dtI)
variable {many mask:Int} {wl:List (Nm × PV)}
inductive PaI (cs:List Int) (T:Gs) (many:Int) (wl:List (Nm × PV)) (mask a:Int) (B:List Int) (k:Int):Prop
 | mk (prs:List (Int × Int)) (k':Int) (hp:∀ p ∈ prs,p.1 = a /\ p.2 ∈ B) (hl:prs.length <= B.length) (h0:k <= k') (h1:k' <= k + B.length)
  (d:∀ n acc x (K:List PV -> Fr -> Gs -> Prop),acc.length + B.length <= 1000 -> (∀ x,K (acc ++ prL prs) (FrI many wl mask (.val (.int a)) x) (gF cs T k')) ->
   foldC (dStep (orc (n + 1)) (aName 7) dtI (dNext (orc (n + 1)) deI [])) (B.map .int) acc (FrI many wl mask (.val (.int a)) x) (gF cs T k) K)
theorem pairsIn (hcs:cs.length <= 60) (a:Int):∀ (B:List Int) (k:Int),0 <= k -> k + B.length <= 1000 -> PaI cs T many wl mask a B k
 | [],k,h0,_=>⟨[],k,(fun zq h=>nomatch h),Nat.le_refl _,Int.le_refl _,Int.le_of_eq (Int.add_zero _).symm,fun n acc x K zq q=>by have:=q x; rw [show prL [] = [] from rfl,List.append_nil] at this; exact this⟩
 | b :: B,k,h0,h1=>by
  have h1:k + ((B.length + 1:Nat):Int) <= 1000:=h1
  obtain ⟨r,_,_,d1⟩:=draw_ok hcs 3 (by decide) h0 (by omega) (T:=T)
  obtain ⟨prs,k',hp,hl,hk,hk2,d2⟩:=pairsIn hcs a B (k + 1) (by omega) (by omega)
  have hk3:k' <= k + ((B.length + 1:Nat):Int):=by omega
  cases e:r == 0 with
  | true =>
   refine ⟨(a,b) :: prs,k',fun p h=>(List.mem_cons.mp h).elim (fun e=>by subst e; exact ⟨rfl,.head _⟩) fun h=>⟨(hp p h).1,.tail _ (hp p h).2⟩,Nat.succ_le_succ hl,by omega,hk3,fun n acc x K hl q=>?_⟩
   have hl:acc.length + (B.length + 1) <= 1000:=hl
   refine d1 n _ (cT e (bq.mk (decide_eq_true (Nat.le_trans (Nat.le_add_right _ _) hl)) (d2 n _ _ K ?_ ?_)))
   ·rw [List.length_append,List.length_singleton,Nat.add_assoc,Nat.add_comm 1]; exact hl
   ·rw [List.append_assoc]; exact q
  | false =>
   refine ⟨prs,k',fun p h=>⟨(hp p h).1,.tail _ (hp p h).2⟩,Nat.le_succ_of_le hl,by omega,hk3,fun n acc x K hl q=>?_⟩
   exact d1 n _ (cF e (d2 n _ _ K (Nat.le_trans (Nat.add_le_add_left (Nat.le_succ _) _) hl) q))
end
section
set_option maxHeartbeats 0
variable {n:Nat} {M:Md} {cs:List Int} {T:Gs} {k:Int} {many mask:Int} {wl:List (Nm × PV)}
inductive PaO (cs:List Int) (T:Gs) (many:Int) (wl:List (Nm × PV)) (mask:Int) (A B:List Int) (k:Int):Prop
 | mk (prs:List (Int × Int)) (k':Int) (hp:∀ p ∈ prs,p.1 ∈ A /\ p.2 ∈ B) (hl:prs.length <= 3 * A.length) (h0:k <= k') (h1:k' <= k + (3 * A.length:Nat))
  (d:∀ n acc x y (K:List PV -> Fr -> Gs -> Prop),acc.length + 3 * A.length <= 1000 -> (∀ x y,K (acc ++ prL prs) (FrI many wl mask x y) (gF cs T k')) ->
   foldC (dStep (orc (n + 1)) (aName 6) dTrue (dNext (orc (n + 1)) deI [dgI])) (A.map .int) acc (FrI many wl mask x y) (gF cs T k) K)
theorem pairsOut (hcs:cs.length <= 60) {B:List Int} (hB:B.length <= 3) (hw:fd wl k_A = some (.lst (B.map .int))):∀ (A:List Int) (k:Int),0 <= k -> k + (3 * A.length:Nat) <= 1000 -> PaO cs T many wl mask A B k
 | [],k,h0,_=>⟨[],k,(fun zq h=>nomatch h),Nat.le_refl _,Int.le_refl _,Int.le_of_eq (Int.add_zero _).symm,fun n acc x y K zq q=>by have:=q x y; rw [show prL [] = [] from rfl,List.append_nil] at this; exact this⟩
 | a :: A,k,h0,h1=>by
  have h1:k + ((3 * (A.length + 1):Nat):Int) <= 1000:=h1
  obtain ⟨p1,k1,hp1,hl1,a1,a2,d1⟩:=pairsIn (many:=many) (wl:=wl) (mask:=mask) (T:=T) hcs a B k h0 (by omega)
  obtain ⟨p2,k2,hp2,hl2,a3,a4,d2⟩:=pairsOut hcs hB hw A k1 (by omega) (by omega)
  refine ⟨p1 ++ p2,k2,fun p hp=>(List.mem_append.mp hp).elim (fun h=>⟨(hp1 p h).1 ▸ .head _,(hp1 p h).2⟩) fun h=>⟨.tail _ (hp2 p h).1,(hp2 p h).2⟩,?_,by omega,by show k2 <= k + ((3 * (A.length + 1):Nat):Int); omega,fun n acc x y K hl q=>?_⟩
  ·show (p1 ++ p2).length <= 3 * (A.length + 1)
   rw [List.length_append]; omega
  ·have hl:acc.length + 3 * (A.length + 1) <= 1000:=hl
   refine oq.mk hw (oq.mk rfl (d1 n acc y _ (by omega) fun y=>d2 n _ _ _ K ?_ ?_))
   ·rw [List.length_append,show (prL p1).length = p1.length from List.length_map _]; omega
   ·rw [List.append_assoc,show prL p1 ++ prL p2 = prL (p1 ++ p2) from List.map_append.symm]; exact q
noncomputable def bitP (mask a:Int):Bool:=(mask.fdiv (2 ^ a.toNat)).fmod 2 == 1
inductive Many:Int -> Int -> List Int -> Prop | three:Many 3 7 [0,1,2] | two:Many 2 3 [0,1]
theorem Many.sub {w:Int} {L:List Int} (h:Many many w L):∀ a ∈ L,a ∈ d3:=by
 cases h with
 | three=>exact fun a h=>h
 | two=>exact fun a h=>by cases h with | head=>exact .head _ | tail _ h=>cases h with | head=>exact .tail _ (.head _) | tail _ h=>cases h
theorem Many.filter {w:Int} {L:List Int} (h:Many many w L) (P:Int -> Bool):L.filter P = d3.filter fun a=>decide (a ∈ L) && P a:=by
 cases h <;> rfl
theorem Many.w {w:Int} {L:List Int} (h:Many many w L):0 < w:=by cases h <;> decide
end
section
set_option maxHeartbeats 0
variable {n:Nat} {M:Md} {cs:List Int} {T:Gs} {k:Int} {many w:Int} {L:List Int}
noncomputable def dtA:DB:=dB (dBin fEq (dBin fMod (dBin fDiv (dName 4) (dBin fPow (dConst (PV.int 2)) (dName 6))) (dConst (PV.int 2))) (dConst (PV.int 1)))
inductive LiO (cs:List Int) (T:Gs) (M:Md) (many k:Int):Prop
 | mk (W:Wd) (prs:List (Int × Int)) (wl:List (Nm × PV)) (k':Int) (h0:k <= k') (h1:k' <= k + 20) (hw:WL wl W prs M) (d:∀ n,Ev (n + 2) 854 [.reg 0,.reg 1,.int many] (gF cs (.dict (mdL M) :: T) k) (.dct wl) (gF cs (.dict (mdL M) :: T) k'))
theorem linst_ok (hcs:cs.length <= 60) (h:Many many w L) (h0:0 <= k) (h1:k + 20 <= 900):LiO cs T M many k:=by
 obtain ⟨r,_,_,d1⟩:=draw_ok hcs w h.w h0 (by omega) (T:=.dict (mdL M) :: T)
 have hL:=h.filter (bitP (1 + r))
 have hB:(L.filter (bitP (1 + r))).length <= 3:=by rw [hL]; exact filter_len _
 obtain ⟨prs,k2,hp,hl,hk1,hk2,d2⟩:=pairsOut (many:=many) (mask:=1 + r) (wl:=putD (mdL M) k_A (.lst ((L.filter (bitP (1 + r))).map .int))) (T:=.dict (mdL M) :: T) hcs hB rfl (L.filter (bitP (1 + r))) (k + 1) (by omega) (by omega)
 have hin:∀ a ∈ L.filter (bitP (1 + r)),a ∈ d3:=fun a ha=>h.sub a (List.mem_filter.mp ha).1
 refine ⟨⟨fun a=>decide (a ∈ L) && bitP (1 + r) a,fun a b=>decide ((a,b) ∈ prs)⟩,prs,putD (putD (mdL M) k_A (.lst ((L.filter (bitP (1 + r))).map .int))) k_f (.lst (prL prs)),k2,by omega,by omega,⟨?_,rfl,rfl,rfl,rfl,fun zq zq=>rfl,fun p h=>⟨hin _ (hp p h).1,hin _ (hp p h).2⟩,Nat.le_trans hl (Nat.mul_le_mul_left 3 hB)⟩,fun n Q q=>?_⟩
 ·show some (PV.lst (List.map PV.int (L.filter _))) = some (PV.lst _)
  rw [hL]
 ·have ht:∀ a ∈ L,∀ K:Bool -> Gs -> Prop,K (bitP (1 + r) a) (gF cs (.dict (mdL M) :: T) (k + 1)) -> dtA (orc (n + 1)) [.val (.reg 0),.val (.reg 1),.val (.int many),.od (mdL M),.val (.int (1 + r)),.unset,.val (.int a)] (gF cs (.dict (mdL M) :: T) (k + 1)) K:=fun a ha K q=>by
   rcases mem_d3 (h.sub a ha) with rfl | rfl | rfl <;> exact q
  refine c_linst (bq.mk rfl ?_)
  cases h with
  | three =>
   refine d1 n _ ?_
   refine fold_gen (o:=orc (n + 1)) (da:=aName 6) (dt:=dtA) (de:=dName 6) (α:=Int) (F:=fun x=>[.val (.reg 0),.val (.reg 1),.val (.int 3),.od (mdL M),.val (.int (1 + r)),.unset,x]) (g:=fun a=>.val (.int a)) (c:=PV.int) (f:=PV.int) (P:=bitP (1 + r)) (fun a x K h=>h) [0,1,2] [] .unset ht (fun a ha K h=>h) (by decide) fun x=>?_
   refine d2 n [] .unset .unset _ (Nat.le_trans (Nat.le_of_eq (Nat.zero_add _)) (Nat.le_trans (Nat.mul_le_mul_left 3 hB) (by decide))) fun x y=>?_
   exact q
  | two =>
   refine d1 n _ ?_
   refine fold_gen (o:=orc (n + 1)) (da:=aName 6) (dt:=dtA) (de:=dName 6) (α:=Int) (F:=fun x=>[.val (.reg 0),.val (.reg 1),.val (.int 2),.od (mdL M),.val (.int (1 + r)),.unset,x]) (g:=fun a=>.val (.int a)) (c:=PV.int) (f:=PV.int) (P:=bitP (1 + r)) (fun a x K h=>h) [0,1] [] .unset ht (fun a ha K h=>h) (by decide) fun x=>?_
   refine d2 n [] .unset .unset _ (Nat.le_trans (Nat.le_of_eq (Nat.zero_add _)) (Nat.le_trans (Nat.mul_le_mul_left 3 hB) (by decide))) fun x y=>?_
   exact q
end
section
set_option maxHeartbeats 0
variable {a b c d n:Nat} {M:Md} {cs:List Int} {T:Gs} {k:Int}
theorem ht1 (h:a <= 2) (h2:b <= 2 + 4 * d):a + b + 1 <= 2 + 4 * (d + 1):=by omega
theorem ht2 (h:a <= 2) (h2:b <= 2):a + b + 1 + 1 <= 2 + 4 * (d + 1):=by omega
theorem ht3 (h:a <= 2 + 4 * min d 1) (h2:b <= 2):a + b + 1 <= 5 + 6 * d:=by omega
theorem GS.hS {b:Bool} {t:ST} (h:GS b d t):hS t <= 2 + 4 * d:=by
 induction h with
 | name v=>exact Nat.le_trans (show 1 <= 2 by decide) (Nat.le_add_right 2 _)
 | whole=>exact Nat.le_trans (show 1 <= 2 by decide) (Nat.le_add_right 2 _)
 | ledn v=>exact Nat.le_add_right 2 _
 | ledw=>exact Nat.le_add_right 2 _
 | both _ _ ih1 ih2=>exact ht1 ih1 ih2
 | g k _ _ ih1 ih2=>exact Nat.le_trans (Nat.le_of_eq (congrArg (fun q=>q + 1) (Nat.add_comm _ _))) (ht1 ih2 ih1)
 | thoseI v _ _ ih1 ih2=>exact ht2 ih1 ih2
 | thoseS v _ ih1=>exact ht2 (b:=0) ih1 (Nat.zero_le _)
theorem ht4 (h:a <= 5 + 6 * d) (h2:b <= 5):a + b + 1 <= 5 + 6 * (d + 1):=by omega
theorem ht5 (h:a <= 6) (h2:b <= 2):a + b + 1 <= 5 + 6 * (d + 1):=by omega
theorem GT.hT {t:TT} (h:GT c d t):hT t <= 5 + 6 * d:=by
 induction h with
 | isin h1 h2=>exact ht3 h1.hS h2.hS
 | some h1=>exact ht3 (b:=0) h1.hS (Nat.zero_le _)
 | not _ ih=>exact ht4 (b:=0) ih (Nat.zero_le _)
 | or _ _ ih1 ih2=>exact ht4 ih1 ih2
 | call q k _ h1 h2=>exact ht5 h1.hS h2.hS
 | quant a v _ ih=>exact ht4 (b:=0) ih (Nat.zero_le _)
theorem Cor1.hT {t:TT} (h:Cor1 t):hT t <= 13:=by cases h with | call q k h1 h2=>exact Nat.add_le_add_right (Nat.add_le_add h1.hS h2.hS) 1
theorem Cor2.hT {t:TT} (h:Cor2 t):hT t <= 14:=by
 cases h with
 | yes h=>exact Nat.le_succ_of_le h.hT
 | no h=>exact Nat.add_le_add_right h.hT 1
theorem Cor3.hT {t:TT} (h:Cor3 t):hT t <= 26:=by
 cases h with
 | one h=>exact Nat.le_trans h.hT (by decide)
 | or a b=>exact Nat.add_le_add_right (Nat.add_le_add a.hT b.hT) 1
noncomputable def itG (b:Bool) (t:ST):PV:=.tup [.str k_fun,.int 0,.str k_g,given b,.str k_set,nodeA,nS t]
noncomputable def itP (q b:Bool) (t:TT):PV:=.tup [.str k_pred,.int 0,.str (ws q),given b,.tup [nT t]]
noncomputable def lbP:DE:=dIte (dB (dBin fEq (dCall 804 (dCons (dName 1) (dCons (dConst (PV.int 2)) dNil))) (dConst (PV.int 0))))
         (dTup (dCons (dConst (PV.str k_x)) (dCons (dConst (PV.str k_y)) dNil)))
         (dTup (dCons (dConst (PV.str k_y)) (dCons (dConst (PV.str k_x)) dNil)))
noncomputable def lbS:DS:=dSeq (dLet 6 lbP)
       (dSeq
        (dLet 7
         (dIte (dB (dBin fEq (dName 5) (dConst (PV.str k_g))))
          (dCall 811
           (dCons (dName 1)
            (dCons (dFr (dLst (dCons (dConst (PV.str k_x)) (dCons (dConst (PV.str k_y)) dNil))))
             (dCons (dConst (PV.int 0)) (dCons (dConst (PV.int 2)) dNil)))))
          (dCall 818
           (dCons (dName 1)
            (dCons (dFr (dLst (dCons (dConst (PV.str k_x)) (dCons (dConst (PV.str k_y)) dNil))))
             (dCons (dName 4) (dCons (dConst (PV.int 2)) dNil)))))))
        (dSeq (dAssign (dTup (dCons (dName 6) (dCons (dName 7) dNil))) (aSub (dNameH 2) (dName 5)))
         (dSeq
          (dLet 8
           (dTup
            (dCons
             (dTup
              (dCons (dConst (PV.int 0))
               (dCons (dConst (PV.bool false))
                (dCons (dName 6)
                 (dCons (dConst (PV.str k_0))
                  (dCons
                   (dTup
                    (dCons (dConst (PV.str k_name))
                     (dCons (dConst (PV.int 0)) (dCons (dConst (PV.str k_A)) dNil))))
                   dNil))))))
             dNil)))
          (dSeq
           (dIf (dB (dBin fEq (dName 5) (dConst (PV.str k_g))))
            (dSeq
             (dLm fAppend (dNameH 3)
              (dCons
               (dTup
                (dCons (dConst (PV.str k_fun))
                 (dCons (dConst (PV.int 0))
                  (dCons (dConst (PV.str k_g))
                   (dCons (dName 8)
                    (dCons (dConst (PV.str k_set))
                     (dCons
                      (dTup
                       (dCons (dConst (PV.str k_name))
                        (dCons (dConst (PV.int 0)) (dCons (dConst (PV.str k_A)) dNil))))
                      (dCons (dCall 832 (dCons (dName 7) dNil)) dNil))))))))
               dNil))
             dSkip)
            (dSeq
             (dLm fAppend (dNameH 3)
              (dCons
               (dTup
                (dCons (dConst (PV.str k_pred))
                 (dCons (dConst (PV.int 0))
                  (dCons (dName 5)
                   (dCons (dName 8)
                    (dCons (dTup (dCons (dCall 832 (dCons (dName 7) dNil)) dNil)) dNil))))))
               dNil))
             dSkip))
           dSkip))))
noncomputable def FrL (s:PV) (its:List PV) (x4 x5 x6 x7 x8:LV):Fr:=[.val s,.val (.reg 0),.val (.reg 1),.ol its,x4,x5,x6,x7,x8,.unset,.unset,.unset,.unset,.unset,.unset]
variable {s:PV} {its:List PV} {md:List (Nm × PV)} {x4 x5 x6 x7 x8:LV}
inductive BiO (cs:List Int) (T:Gs) (k:Int):Prop | mk (b:Bool) (d:∀ n s its x4 x5 x6 x7 x8 (Q:PV -> Gs -> Prop),Q (parP b) (gF cs T (k + 1)) -> lbP (orc (n + 1)) (FrL s its x4 x5 x6 x7 x8) (gF cs T k) Q)
theorem bit_ok (hcs:cs.length <= 60) (h0:0 <= k) (h1:k <= 1000):BiO cs T k:=by
 obtain ⟨_,y1,y2,d⟩:=draw_ok hcs 2 (by decide) h0 h1 (T:=T)
 obtain ⟨b,rfl⟩:=two y1 y2
 exact ⟨b,fun n s its x4 x5 x6 x7 x8 Q q=>d n _ (by cases b <;> exact q)⟩
theorem nsXY {j:Nat} (h:j <= 90):NsOk [false,true] j:=⟨List.cons_ne_nil _ _,Nat.le_trans (Nat.add_le_add_left h 2) (by decide)⟩
inductive IgO (cs:List Int) (md:List (Nm × PV)) (its:List PV) (k:Int):Prop
 | mk (b:Bool) (t:ST) (k':Int) (g:GS false 2 t) (h:k <= k') (h':k' <= k + 15) (d:∀ n s x6 x7 x8 (Q:Flo -> Fr -> Gs -> Prop),20 <= n -> Q .nx (FrL s (its ++ [itG b t]) (.val (.int 0)) (.val (.str k_g)) (.val (parP b)) (.val (tS t)) (.val (given b))) (gF cs [.dict (putD md k_g (.tup [parP b,tS t]))] k') ->
   lbS (orc (n + 1)) (FrL s its (.val (.int 0)) (.val (.str k_g)) x6 x7 x8) (gF cs [.dict md] k) Q)
theorem iter_g (hcs:cs.length <= 60) (h0:0 <= k) (h1:k + 15 <= 900) (hmd:md.length <= 10) (hits:its.length <= 10):IgO cs md its k:=by
 obtain ⟨b,d1⟩:=bit_ok hcs h0 (by omega) (T:=[.dict md])
 obtain ⟨t,k',g,a1,a2,r1⟩:=set2 hcs (nsXY (by decide)) (k + 1) (by omega) (by omega) (T:=[.dict md])
 refine ⟨b,t,k',g,by omega,by omega,fun n s x6 x7 x8 Q hm q=>?_⟩
 unfold lbS
 refine seq_go (d1 n _ _ _ _ _ _ _ _ ?_)
 conv=>whnf
 refine r1 (n + 1) (Nat.le_trans (by decide) (Nat.le_succ_of_le hm)) _ ?_
 conv=>whnf
 refine bq.mk (decide_eq_true (Nat.le_trans hmd (by decide))) ?_
 conv=>whnf
 refine nodeS_ok t n (Nat.le_trans g.hS (Nat.le_trans (by decide) hm)) _ ?_
 conv=>whnf
 exact bq.mk (decide_eq_true (Nat.le_trans hits (by decide))) q
inductive IqO (cs:List Int) (md:List (Nm × PV)) (its:List PV) (q:Bool) (k:Int):Prop
 | mk (b:Bool) (t:TT) (k':Int) (g:GT (cond q 2 1) 2 t) (h:k <= k') (h':k' <= k + 32) (d:∀ n s x6 x7 x8 (Q:Flo -> Fr -> Gs -> Prop),20 <= n -> Q .nx (FrL s (its ++ [itP q b t]) (.val (.int (cond q 2 1))) (.val (.str (ws q))) (.val (parP b)) (.val (tT t)) (.val (given b))) (gF cs [.dict (putD md (ws q) (.tup [parP b,tT t]))] k') ->
   lbS (orc (n + 1)) (FrL s its (.val (.int (cond q 2 1))) (.val (.str (ws q))) x6 x7 x8) (gF cs [.dict md] k) Q)
theorem truth2 (hcs:cs.length <= 60) (hc:c <= 3):DrT cs T [false,true] c 2 31 10 :=
 truthS hcs c hc (d:=1) (j:=2) (F:=8) (D:=18) (by decide) (by decide) (by decide) (fun ns h=>truthS hcs c hc (d:=0) (j:=1) (F:=6) (D:=5) (by decide) (by decide) (by decide) (fun ns h=>(truth0 hcs (h.less (by decide)) c).mono (by decide) (by decide)) ns h) _ (nsXY (by decide))
theorem iter_q (q:Bool) (hcs:cs.length <= 60) (h0:0 <= k) (h1:k + 32 <= 900) (hmd:md.length <= 10) (hits:its.length <= 10):IqO cs md its q k:=by
 obtain ⟨b,d1⟩:=bit_ok hcs h0 (by omega) (T:=[.dict md])
 obtain ⟨t,k',g,a1,a2,r1⟩:=truth2 (c:=cond q 2 1) hcs (by cases q <;> decide) (k + 1) (by omega) (by omega) (T:=[.dict md])
 refine ⟨b,t,k',g,by omega,by omega,fun n s x6 x7 x8 Q hm z=>?_⟩
 have r1:=r1 (n + 1) (Nat.le_trans (by decide) (Nat.le_succ_of_le hm))
 have hN:=fun G=>nodeT_ok (G:=G) t n (Nat.le_trans g.hT (Nat.le_trans (by decide) hm))
 have l1:decide (md.length <= 1000) = true:=decide_eq_true (Nat.le_trans hmd (by decide))
 have l2:decide (its.length <= 1000000) = true:=decide_eq_true (Nat.le_trans hits (by decide))
 unfold lbS
 refine seq_go (d1 n _ _ _ _ _ _ _ _ ?_)
 cases q with
 | false =>
  conv=>whnf
  refine r1 _ ?_
  conv=>whnf
  refine bq.mk l1 ?_
  conv=>whnf
  refine hN _ _ ?_
  conv=>whnf
  exact bq.mk l2 z
 | true =>
  conv=>whnf
  refine r1 _ ?_
  conv=>whnf
  refine bq.mk l1 ?_
  conv=>whnf
  refine hN _ _ ?_
  conv=>whnf
  exact bq.mk l2 z
end
section
set_option maxHeartbeats 0
variable {n:Nat} {M:Md} {cs:List Int} {T0:Gs} {k:Int}
theorem orc_i {f:Addr} {a:List PV} {G:Gs} {Q:PV -> Gs -> Prop} (h:(orc n).c f a G Q):(orc (n + 1)).i f a G Q:=by rw [orc_succ]; exact h
noncomputable def lmT:DS:=dSeq
             (dIf
              (dB
               (dBin fNe
                (dMeth mt0 (dNew cEval 569 (dCons (dConst (PV.int 3)) (dCons (dName 14) dNil))) k_truth
                 (dCons (dName 11) (dCons (dFr dDisp0) dNil)))
                (dCall 844 (dCons (dName 9) (dCons (dFr dDisp0) (dCons (dName 13) dNil))))))
              (dSeq (dRet (dConst (PV.bool false))) dSkip) dSkip)
             dSkip
noncomputable def lmS:DS:=dSeq (dLet 13 (dCall 854 (dCons (dName 1) (dCons (dName 2) (dCons (dName 12) dNil)))))
           (dSeq
            (dLet 14
             (dFr
              (dLst
               (dCons
                (dH1 fTup
                 (dOf
                  (dFr
                   (dComp 15 2 (dTup (dCons (dName 16) dNil))
                    (dIv (dSub (dNameH 13) (dConst (PV.str k_A)))) (aName 16) dTrue []))))
                (dCons (dH1 fTup (dOf (dSub (dNameH 13) (dConst (PV.str k_f))))) dNil)))))
            lmT)
structure FrQ where
 s:PV
 x3:LV
 x4:LV
 x5:LV
 x6:LV
 x7:LV
 x8:LV
 x10:LV
noncomputable def FrM (p:FrQ) (tr fo:PV) (x12 x13 x14:LV):Fr:=[.val p.s,.val (.reg 0),.val (.reg 1),p.x3,p.x4,p.x5,p.x6,p.x7,p.x8,.val tr,p.x10,.val fo,x12,x13,x14]
section
variable {G:Gs} {C:Addr} {fs:List (Nm × PV)}
theorem inst_last:instOf (G ++ [.inst C fs]) G.length = some (C,fs):=by unfold instOf; rw [List.getElem?_concat_length]
theorem set_last {x y:RA}:(G ++ [x]).set G.length y = G ++ [y]:=by rw [List.set_append_right _ _ (Nat.le_refl _),Nat.sub_self]; rfl
theorem einit_ok (a b:PV):Ev (n + 1) 569 [.reg G.length,.int 3,.lst [a,b]] (G ++ [.inst cEval []]) .none (G ++ [.inst cEval [(k_many,.int 3),(k_instance,.lst [a,b])]]):=fun Q q=>by
 refine c_eval_init (bq.mk rfl (oq.mk inst_last ?_))
 conv=>whnf
 refine oq.mk ((congrArg (instOf · G.length) set_last).trans inst_last) ?_
 exact (congrArg (Q .none) ((congrArg (List.set · G.length _) set_last).trans set_last)).mpr q
end
theorem prL_los (m:Nat):∀ prs:List (Int × Int),PV.los m (prL prs) = true
 | []=>rfl
 | _ :: L=>prL_los m L
theorem ints_lo (m:Nat):∀ L:List Int,PV.los m (L.map .int) = true
 | []=>rfl
 | _ :: L=>ints_lo m L
theorem evF_lo (m:Nat) (W:Wd) (prs:List (Int × Int)):(RA.inst cEval (evF W prs)).lo m = true:=aT (aB (tl_los m _) (aT (prL_los m _)))
theorem gF_lo (hT:T0.all (RA.lo n) = true):(gF cs T0 k).all (RA.lo n) = true:=aB (aB (ints_lo _ _) rfl) hT
theorem lmT_ok {m:Nat} {G:Gs} {W:Wd} {prs:List (Int × Int)} {p:FrQ} {tr fo v13:PV} {x12:LV} {x:Bool} {Q:Flo -> Fr -> Gs -> Prop} (h1:Ev (m + 2) 605 [.reg G.length,fo,.dct []] (G ++ [.inst cEval (evF W prs)]) (.bool x) (G ++ [.inst cEval (evF W prs)]))
  (h2:Ev (m + 2) 844 [tr,.dct [],v13] (G ++ [.inst cEval (evF W prs)]) (.bool x) (G ++ [.inst cEval (evF W prs)]))
  (q:Q .nx (FrM p tr fo x12 (.val v13) (.val (.lst [tv W.A,.tup (prL prs)]))) (G ++ [.inst cEval (evF W prs)])):lmT (orc (m + 2)) (FrM p tr fo x12 (.val v13) (.val (.lst [tv W.A,.tup (prL prs)]))) G Q:=by
 unfold lmT
 refine seq_go (orc_i (einit_ok (tv W.A) (.tup (prL prs)) _ (oq.mk inst_last (oq.mk rfl (bq.mk rfl (h1 _ (h2 _ ?_)))))))
 exact cF (bne_self_eq_false x) q
end
section
set_option maxHeartbeats 0
variable {n:Nat} {M:Md} {cs:List Int} {T0:Gs} {k:Int}
inductive ImO (cs:List Int) (M:Md) (T0:Gs) (tr fo:PV) (many k:Int):Prop
 | mk (W:Wd) (prs:List (Int × Int)) (k':Int) (h0:k <= k') (h1:k' <= k + 20) (d:∀ m,80 <= m -> ∀ p x13 x14 (Q:Flo -> Fr -> Gs -> Prop),(∀ y13 y14,Q .nx (FrM p tr fo (.val (.int many)) y13 y14) (gF cs (.dict (mdL M) :: (T0 ++ [.inst cEval (evF W prs)])) k')) ->
   lmS (orc (m + 2)) (FrM p tr fo (.val (.int many)) x13 x14) (gF cs (.dict (mdL M) :: T0) k) Q)
theorem iter_m (hcs:cs.length <= 60) (hM:M.ok) {many w:Int} {L:List Int} (hm:Many many w L) (hlo:∀ m,8 <= m -> (RA.dict (mdL M) :: T0).all (RA.lo m) = true) (hlen:6 <= T0.length) (h0:0 <= k) (h1:k + 20 <= 900)
  {t:TT} (ht:Cor3 t) (a b:Bool) {e:CF} (he:fF (fun zq zq=>False) e) (hh:hF e <= 40) (hmean:∀ W η,eF W e η = qnt W a fun x=>qnt W b fun y=>dnT W (Iq M W) t (σ2 x y)) :
  ImO cs M T0 (tT (.quant a false (.quant b true t))) (pF e) many k:=by
 obtain ⟨W,prs,wl,k',a1,a2,hw,hr⟩:=linst_ok (T:=T0) (M:=M) hcs hm h0 h1
 refine ⟨W,prs,k',a1,a2,fun m hm2 p x13 x14 Q q=>?_⟩
 have hev:Evl (gF cs (.dict (mdL M) :: T0) k' ++ [.inst cEval (evF W prs)]) (gF cs (.dict (mdL M) :: T0) k').length W prs:={
  reg:=inst_last
  lo:=by
   have hl:8 <= (gF cs (.dict (mdL M) :: T0) k' ++ [RA.inst cEval (evF W prs)]).length:=by rw [List.length_append]; exact Nat.succ_le_succ (Nat.succ_le_succ (Nat.succ_le_succ hlen)) |> Nat.le_trans (by decide)
   rw [List.all_append]
   exact aB (gF_lo (hlo _ hl)) (aT (evF_lo _ W prs))
  R:=hw.R
  in3:=hw.in3
  len:=hw.len }
 have h1:=evF_ok hev e (fun zq zq=>False) (fun zq zq zq=>false) [] (m + 2) he (fun v k h=>h.elim) (Nat.le_trans (Nat.le_of_eq (Nat.zero_add _)) (Nat.le_trans hh (by decide))) (by omega)
 rw [hmean] at h1
 have h2:=value_top (G:=gF cs (.dict (mdL M) :: T0) k' ++ [.inst cEval (evF W prs)]) hw hM ht a b (m + 2) (by omega)
 unfold lmS
 refine seq_go (hr m _ ?_)
 refine oq.mk hw.A ?_
 conv=>whnf
 refine fold_map (o:=orc (m + 2)) (da:=aName 16) (de:=dTup (dCons (dName 16) dNil)) (F:=fun x:LV=>FrM p (tT (.quant a false (.quant b true t))) (pF e) (.val (.int many)) (.val (.dct wl)) x14 ++ [LV.unset,x]) (g:=fun a=>LV.val (.int a)) (c:=PV.int) (f:=t1) (fun a x K h=>h) (d3.filter W.A) .unset (fun a ha K h=>h) (len1k (filter_len _)) fun x=>?_
 refine bq.mk (decide_eq_true (Nat.le_trans (tl_len W.A) (by decide))) ?_
 refine oq.mk hw.f ?_
 conv=>whnf
 refine bq.mk (decide_eq_true (by rw [show (prL prs).length = prs.length from List.length_map _]; exact Nat.le_trans hw.len (by decide))) ?_
 exact lmT_ok (p:=p) h1 h2 (q _ _)
end
section
set_option maxHeartbeats 0
mutual
theorem tS_lo (m:Nat):∀ t:ST,PV.lo m (tS t) = true
 | .name v=>rfl
 | .whole=>rfl
 | .led s=>aT (tS_lo m s)
 | .both s t=>aB (tS_lo m s) (aT (tS_lo m t))
 | .g s t k=>aB (tS_lo m s) (aT (tS_lo m t))
 | .those v f=>aT (tT_lo m f)
theorem tT_lo (m:Nat):∀ t:TT,PV.lo m (tT t) = true
 | .isin s t=>aB (tS_lo m s) (aT (tS_lo m t))
 | .some s=>aT (tS_lo m s)
 | .not f=>aT (tT_lo m f)
 | .or f g=>aB (tT_lo m f) (aT (tT_lo m g))
 | .call q s t k=>aB (tS_lo m s) (aT (tS_lo m t))
 | .quant a v f=>aT (tT_lo m f)
end
theorem mdL_lo (M:Md):Pured (mdL M):=fun m=>aB (aT (tS_lo m M.g)) (aB (aT (tT_lo m M.p)) (aT (aT (tT_lo m M.q))))
theorem itemG_lo (m:Nat) (M:Md):PV.lo m (itemG M) = true:=aT (nS_lo m M.g)
theorem itemP_lo (m:Nat) (M:Md) (q:Bool):PV.lo m (itemP M q) = true:=aT (aT (nT_lo m _))
theorem itemsV_lo (M:Md):Pure (itemsV M):=fun m=>aB (itemG_lo m M) (aB (itemP_lo m M false) (aT (itemP_lo m M true)))
variable {zs cs:List Int} {o:Orc} {G:Gs} {K:Flo -> Fr -> Gs -> Prop}
inductive Cut (zs:List Int):Prop | mk (cs:List Int) (e:sliceP (zs.map PV.int) none (some 60) = cs.map PV.int) (l:cs.length <= 60):Cut zs
theorem clip_le (n:Nat):clipAt n 60 <= 60:=by
 unfold clipAt
 split <;> omega
theorem cells_ok (zs:List Int):Cut zs:=⟨zs.take (clipAt (zs.map PV.int).length 60),List.map_take.symm,by rw [List.length_take]; exact Nat.le_trans (Nat.min_le_left _ _) (clip_le _)⟩
noncomputable def law1:DS:=dTupSw [1,2]
    (dTup
     (dCons
      (dReg
       (dDisp
        (dpCons (dConst (PV.str k_cells))
         (dFr (dH1 fList (dOf (dSlice (dName 0) dPt0 (dPt1 (dConst (PV.int 60)))))))
         (dpCons (dConst (PV.str k_spot)) (dConst (PV.int 0)) dpNil))))
      (dCons (dReg dDisp0) dNil)))
noncomputable def FrZ (s:PV):Fr:=[.val s,.val (.reg 0),.val (.reg 1),.unset,.unset,.unset,.unset,.unset,.unset,.unset,.unset,.unset,.unset,.unset,.unset]
theorem law_1 (hz:zs.length <= 63) (e:sliceP (zs.map PV.int) none (some 60) = cs.map PV.int) (hc:cs.length <= 60) (q:K .nx (FrZ (.lst (zs.map .int))) (gF cs [.dict []] 0)) :
  law1 o [.val (.lst (zs.map .int)),.unset,.unset,.unset,.unset,.unset,.unset,.unset,.unset,.unset,.unset,.unset,.unset,.unset,.unset] [] K:=by
 unfold law1
 conv=>whnf
 refine bq.mk (decide_eq_true (by rw [List.length_map]; exact Nat.le_trans hz (by decide))) ?_
 conv=>whnf
 refine bq.mk (decide_eq_true (by rw [e,List.length_map]; exact Nat.le_trans hc (by decide))) ?_
 conv=>whnf
 rw [e]
 exact q
theorem enum_gpq {step:PV -> Fr -> Gs -> (Flo -> Fr -> Gs -> Prop) -> Prop} {fr:Fr} (h:foldS step [.tup [.int 0,.str k_g],.tup [.int 1,.str k_p],.tup [.int 2,.str k_q]] fr G K):dEnum (dConst (PV.str k_gpq)) o fr G fun l G=>foldS step l fr G K:=h
theorem is_no {P:Prop} (h:P):isNo .none P:=h
theorem iv_32 {step:PV -> Fr -> Gs -> (Flo -> Fr -> Gs -> Prop) -> Prop} {fr:Fr} (h:foldS step [.int 3,.int 2] fr G K):dIv (dTup (dCons (dConst (PV.int 3)) (dCons (dConst (PV.int 2)) dNil))) o fr G fun l G=>foldS step l fr G K:=h
theorem law_plain (zs:List Int) (hz:zs.length <= 63) (Q:PV -> Gs -> Prop) (q:∀ G,Q (.bool true) G):W_law.F (orc 200) [.lst (zs.map .int)] [] Q:=by
 obtain ⟨cs,ec,hc⟩:=cells_ok zs
 have h1:(0:Int) + 200 <= 900:=by decide
 have e0:Bd 0 0 0:=.start
 obtain ⟨bg,tg,k1,gg,a1,a2,r1⟩:=iter_g (md:=[]) (its:=[itemSig]) hc (Int.le_refl 0) (e0.room h1) (by decide) (by decide)
 have e1:Bd 0 15 k1:=e0.next a1 a2
 obtain ⟨bp,tp,k2,gp,a3,a4,r2⟩:=iter_q (md:=[(k_g,.tup [parP bg,tS tg])]) (its:=[itemSig,itG bg tg]) false hc (e1.pos (Int.le_refl 0)) (e1.room h1) (Nat.le_of_ble_eq_true rfl) (Nat.le_of_ble_eq_true rfl)
 have e2:Bd 0 47 k2:=e1.next a3 a4
 obtain ⟨b3,tq,k3,gq,a5,a6,r3⟩:=iter_q (md:=[(k_g,.tup [parP bg,tS tg]),(k_p,.tup [parP bp,tT tp])]) (its:=[itemSig,itG bg tg,itP false bp tp]) true hc (e2.pos (Int.le_refl 0)) (e2.room h1) (Nat.le_of_ble_eq_true rfl) (Nat.le_of_ble_eq_true rfl)
 have e3:Bd 0 79 k3:=e2.next a5 a6
 let M:Md:=⟨bg,bp,b3,tg,tp,tq⟩
 have hM:M.ok:=⟨gg,gp,gq⟩
 obtain ⟨a,b,t,k4,ht,a7,a8,r4⟩:=goal_ok hc k3 (e3.pos (Int.le_refl 0)) (e3.room h1) (T:=[.dict (mdL M)])
 show fnF 1 14 W_law.d (orc 200) [.lst (zs.map .int)] [] Q
 refine bq.mk rfl ?_
 delta runBody W_law
 dsimp only
 refine seq_go (law_1 hz ec hc (ks_go ?_))
 refine seq3_go (fr':=FrL (.lst (zs.map .int)) [itemSig] .unset .unset .unset .unset .unset) (G':=gF cs [.dict []] 0) (fun K h=>h) ?_
 refine seq_go (forz_go (enum_gpq ?_))
 refine fold_go (fr':=FrL (.lst (zs.map .int)) [itemSig] (.val (.int 0)) (.val (.str k_g)) .unset .unset .unset) (fun K h=>h) (r1 199 _ _ _ _ _ (by decide) (kf_go ?_))
 refine fold_go (fr':=FrL (.lst (zs.map .int)) [itemSig,itG bg tg] (.val (.int 1)) (.val (.str k_p)) (.val (parP bg)) (.val (tS tg)) (.val (given bg))) (fun K h=>h) (r2 199 _ _ _ _ _ (by decide) (kf_go ?_))
 refine fold_go (fr':=FrL (.lst (zs.map .int)) [itemSig,itG bg tg,itP false bp tp] (.val (.int 2)) (.val (.str k_q)) (.val (parP bp)) (.val (tT tp)) (.val (given bp))) (fun K h=>h) (r3 199 _ _ _ _ _ (by decide) (kf_go ?_))
 let c:OG:=⟨[(k_cells,.lst (cs.map .int)),(k_spot,.int k4)],mdL M,itemsV M,M,[]⟩
 have hcc:c.ok:=⟨fun m=>aB (ints_lo m cs) rfl,mdL_lo M,itemsV_lo M,fun m=>rfl⟩
 obtain ⟨e,s',r5,hf,hh,hmean⟩:=top_ok hM ht a b hcc rfl 194 (by decide)
 have hN:=fun G=>nodeT_ok (G:=G) (.quant a false (.quant b true t)) 199 (Nat.succ_le_succ (Nat.succ_le_succ (Nat.le_trans ht.hT (by decide))))
 let T0:Gs:=[.inst cSigs sigF,.dict entA,.list [.str k_A],.list [],.inst cOpener (opF (itemsV M) s'),.dict (callsL M)]
 have hlo:∀ m,8 <= m -> (RA.dict (mdL M) :: T0).all (RA.lo m) = true:=fun m hm=>(an (hcc.all (s:=s') hm)).2
 have e4:Bd 0 139 k4:=e3.next a7 a8
 obtain ⟨W1,p1,k5,a9,a10,r6⟩:=iter_m (cs:=cs) (k:=k4) hc hM .three hlo (Nat.le_refl 6) (by omega) (by omega) ht a b hf hh hmean
 have e5:Bd 0 159 k5:=e4.next a9 a10
 obtain ⟨W2,p2,k6,a11,a12,r7⟩:=iter_m (cs:=cs) (k:=k5) (T0:=T0 ++ [.inst cEval (evF W1 p1)]) hc hM .two (fun m hm=>by
  rw [<- List.cons_append,List.all_append]
  exact aB (hlo m hm) (aT (evF_lo m W1 p1))) (Nat.le_of_ble_eq_true rfl) (e5.pos (Int.le_refl 0)) (e5.room h1) ht a b hf hh hmean
 refine ks_go (seq_go (r4 200 (by decide) _ (ks_go (seq_go ?_))))
 refine orc_i (n:=199) (sigs_ok (n:=193) (M:=M) hcc.fd (mdL_lo M) _ ?_)
 refine orc_i (n:=199) (oinit_run (n:=197) (M:=M) _ (is_no (ks_go (seq_go ?_))))
 refine hN _ _ (r5 _ (ks_go (seq_go (forz_go (iv_32 ?_)))))
 let p:FrQ:=⟨.lst (zs.map .int),.val (itemsV M),.val (.int 2),.val (.str k_q),.val (parP b3),.val (tT tq),.val (given b3),.val (.reg 6)⟩
 refine fold_go (fr':=FrM p (tT (.quant a false (.quant b true t))) (pF e) (.val (.int 3)) .unset .unset) (fun K h=>h) (r6 198 (by decide) p _ _ _ fun y13 y14=>kf_go ?_)
 refine fold_go (fr':=FrM p (tT (.quant a false (.quant b true t))) (pF e) (.val (.int 2)) y13 y14) (fun K h=>h) (r7 198 (by decide) p _ _ _ fun y13 y14=>kf_go ?_)
 exact ks_go (q _)
end
section
set_option maxHeartbeats 0
inductive VK where
 | s (x:Str)
 | r (a:Addr)
 | i (n:Int)
 | o
noncomputable def vk (v:Value):VK:=match v with | .str s _=>.s s | .ref a=>.r a | .int n _=>.i n | _=>.o
inductive VKO:Value -> VK -> Prop
 | s (x:Str) (t:Tok):VKO (.str x t) (.s x)
 | r (a:Addr):VKO (.ref a) (.r a)
 | i (n:Int) (t:Tok):VKO (.int n t) (.i n)
 | o (v:Value):VKO v .o
theorem vk_of (v:Value):VKO v (vk v):=by
 cases v with
 | str x t=>exact .s x t
 | ref a=>exact .r a
 | int n t=>exact .i n t
 | _=>exact .o _
theorem vk.s {v:Value} {s:Str} (h:vk v = .s s):∃ t,v = .str s t:=by have:=vk_of v; rw [h] at this; cases this with | s x t=>exact ⟨t,rfl⟩
theorem vk.r {v:Value} {a:Addr} (h:vk v = .r a):v = .ref a:=by have:=vk_of v; rw [h] at this; cases this; rfl
theorem vk.i {v:Value} {n:Int} (h:vk v = .i n):∃ t,v = .int n t:=by have:=vk_of v; rw [h] at this; cases this with | i x t=>exact ⟨t,rfl⟩
theorem strs_of {l:List Nm} {vs:List Value} (h:vs.map vk = l.map fun k=>.s (toS k)):strsAre l vs:=by
 induction l generalizing vs with
 | nil=>exact List.map_eq_nil_iff.mp h
 | cons k l ih =>
  cases vs with
  | nil=>cases h
  | cons v r =>
   obtain ⟨e1,e2⟩:=List.cons.inj h
   obtain ⟨t,e⟩:=vk.s e1
   exact ⟨t,r,e ▸ rfl,ih e2⟩
theorem dct_of {w:World} {l:List (Nm × Nm)} {es:List DictEntry} (h:(es.map fun e=>(e.hash,vk e.key,vk e.val)) = l.map fun e=>(hashStr w (toS e.1),.s (toS e.1),.s (toS e.2))):dctIs w l es:=by
 induction l generalizing es with
 | nil=>exact List.map_eq_nil_iff.mp h
 | cons k l ih =>
  cases es with
  | nil=>cases h
  | cons e r =>
   obtain ⟨e1,e2⟩:=List.cons.inj h
   obtain ⟨x,a,b⟩:=e
   obtain ⟨h1,h2⟩:=Prod.mk.inj e1
   obtain ⟨h2,h3⟩:=Prod.mk.inj h2
   obtain ⟨t,e4⟩:=vk.s h2
   obtain ⟨u,e5⟩:=vk.s h3
   have h1:x = hashStr w (toS k.1):=h1
   have e4:a = .str (toS k.1) t:=e4
   have e5:b = .str (toS k.2) u:=e5
   subst h1; subst e4; subst e5
   exact ⟨t,u,r,rfl,ih e2⟩
theorem map_eq {α β:Type} {f g:α -> β} {l:List α} (h:l.map f = l.map g):∀ a ∈ l,f a = g a:=List.map_inj_left.mp h
inductive DK where
 | q (l:List Value)
 | d (l:List DictEntry)
 | c (v:Option Value)
 | f (vs:Array Value)
 | o
noncomputable def dk (d:Data):DK:=match d with | .seq a _=>.q a.toList | .dict a _=>.d a.toList | .cell v=>.c v | .fields vs=>.f vs | _=>.o
inductive DKO:Data -> DK -> Prop
 | q (a:Array Value) (n:Nat):DKO (.seq a n) (.q a.toList)
 | d (a:Array DictEntry) (n:Nat):DKO (.dict a n) (.d a.toList)
 | c (v:Option Value):DKO (.cell v) (.c v)
 | f (vs:Array Value):DKO (.fields vs) (.f vs)
 | o (d:Data):DKO d .o
theorem dk_of (d:Data):DKO d (dk d):=by
 cases d with
 | seq a n=>exact .q a n
 | dict a n=>exact .d a n
 | cell v=>exact .c v
 | fields vs=>exact .f vs
 | _=>exact .o _
theorem dk.q {d:Data} {l:List Value} (h:dk d = .q l):∃ n,d = .seq l.toArray n:=by have:=dk_of d; rw [h] at this; cases this with | q a n=>exact ⟨n,rfl⟩
theorem dk.d {d:Data} {l:List DictEntry} (h:dk d = .d l):∃ n,d = .dict l.toArray n:=by have:=dk_of d; rw [h] at this; cases this with | d a n=>exact ⟨n,rfl⟩
theorem dk.c {d:Data} {v:Option Value} (h:dk d = .c v):d = .cell v:=by have:=dk_of d; rw [h] at this; cases this; rfl
theorem dk.f {d:Data} {v:Array Value} (h:dk d = .f v):d = .fields v:=by have:=dk_of d; rw [h] at this; cases this; rfl
noncomputable def VK.rf (v:VK):Option Addr:=match v with | .r a=>some a | _=>none
theorem VK.rf.at {v:Option Value} {a:Addr} (h:(v.map vk).bind VK.rf = some a):v = some (.ref a):=by
 cases v with
 | none=>cases h
 | some v =>
  have h:VK.rf (vk v) = some a:=h
  cases e:vk v with
  | r b=>rw [e] at h; cases h; rw [vk.r e]
  | _=>rw [e] at h; cases h
end
section
set_option maxHeartbeats 0
noncomputable def fdO (o:Option Obj):FuncData:=match o with | some ⟨_,_,.func fd,_⟩=>fd | _=>default
noncomputable def fdOf (K:Frag) (f:Addr):FuncData:=fdO (K.lookup f)
theorem fd_lk {K:Frag} {f:Addr} (h:isFnK K f = true):∃ c d sl,K.lookup f = some ⟨c,d,.func (fdOf K f),sl⟩:=by
 obtain ⟨⟨c,d,dt,sl⟩,fd,e,e2⟩:=isFnK_data h
 have e2:dt = .func fd:=e2
 subst e2
 exact ⟨c,d,sl,by unfold fdOf; rw [e]; rfl⟩
noncomputable def fnB (K:Frag) (f:Addr) (vs:Vars) (gl:List Str) (fd:FuncData):Bool:=isFnK K f && (fd.closure.isEmpty && (decide (fd.globals = mainGlobals) && (decide (fd.builtins = builtinsNs) && (codeIn K fd.code fd.qualname && (decide (fd.scope.isCoroutine = false) && (decide (fd.scope.isGenerator = false) && (decide (fd.scope.kind = .function) &&
 ((vs.all fun v=>fd.scope.names.lookup v.1 == some v.2 && (v.2 == .local || v.2 == .cell)) && (decide ((vs.map (fun q=>q.1)).Nodup) && (decide (((cellsFrom 0 fd.scope.names []).map (fun q=>q.1)).Nodup) && gl.all fun x=>fd.scope.names.lookup x == some .globalImplicit))))))))))
noncomputable def bind5 (fd:FuncData) (n:Nat) (a b c d e:Value):Sem (List (Str × Value)):=bindArgs fd ⟨[a,b,c,d,e].take n,[]⟩
noncomputable def want5 (ps:List Str) (n:Nat) (a b c d e:Value):Sem (List (Str × Value)):=pure (ps.zip ([a,b,c,d,e].take n))
theorem bind_five {fd:FuncData} {ps:List Str} {n:Nat} (hn:n <= 5) (h:bind5 fd n = want5 ps n):∀ vals:List Value,vals.length = n -> bindArgs fd ⟨vals,[]⟩ = pure (ps.zip vals):=fun vals hv=>by
 have e:[vals.getD 0 .none,vals.getD 1 .none,vals.getD 2 .none,vals.getD 3 .none,vals.getD 4 .none].take n = vals:=by
  subst hv
  cases vals with
  | nil=>rfl
  | cons a v=>cases v with
   | nil=>rfl
   | cons b v=>cases v with
    | nil=>rfl
    | cons c v=>cases v with
     | nil=>rfl
     | cons d v=>cases v with
      | nil=>rfl
      | cons e v=>cases v with
       | nil=>rfl
       | cons f v=>exact absurd (Nat.le_of_succ_le_succ (Nat.le_of_succ_le_succ (Nat.le_of_succ_le_succ (Nat.le_of_succ_le_succ (Nat.le_of_succ_le_succ hn))))) (Nat.not_succ_le_zero _)
 have:=congrFun (congrFun (congrFun (congrFun (congrFun h (vals.getD 0 .none)) (vals.getD 1 .none)) (vals.getD 2 .none)) (vals.getD 3 .none)) (vals.getD 4 .none)
 unfold bind5 want5 at this
 rw [e] at this
 exact this
theorem fnB_ok {K:Frag} {f:Addr} {ps:List Str} {vs:Vars} {b:List Stmt} {gl:List Str} (h:fnB K f vs gl (fdOf K f) = true) (h2:(fdOf K f).body = .stmts b) (h3:∀ vals,vals.length = ps.length -> bindArgs (fdOf K f) ⟨vals,[]⟩ = pure (ps.zip vals)) (h4:ps = (vs.map (fun q=>q.1)).take ps.length):∃ fd,FnStatic K f fd ps vs b gl:=by
 obtain ⟨a1,h⟩:=an h
 obtain ⟨a2,h⟩:=an h
 obtain ⟨a3,h⟩:=an h
 obtain ⟨a4,h⟩:=an h
 obtain ⟨a5,h⟩:=an h
 obtain ⟨a6,h⟩:=an h
 obtain ⟨a7,h⟩:=an h
 obtain ⟨a8,h⟩:=an h
 obtain ⟨a9,h⟩:=an h
 obtain ⟨b1,h⟩:=an h
 obtain ⟨b2,h⟩:=an h
 exact ⟨_,fd_lk a1,h2,List.isEmpty_iff.mp a2,of_decide_eq_true a3,of_decide_eq_true a4,a5,h3,of_decide_eq_true a6,of_decide_eq_true a7,of_decide_eq_true a8,a9,of_decide_eq_true b1,h4,of_decide_eq_true b2,h⟩
noncomputable def specB (s:FnSpec):Bool:=decide (s.np <= 5) && decide (s.np <= s.vs.length)
theorem fnOk_of {K:Frag} {s:FnSpec} (h0:specB s = true) (h1:fnB K s.f s.vs s.gl (fdOf K s.f) = true) (h2:(fdOf K s.f).body = .stmts s.b) (h3:bind5 (fdOf K s.f) s.np = want5 s.ps s.np):FnOk K s:=by
 obtain ⟨n5,nl⟩:=an h0
 have hp:s.ps.length = s.np:=by unfold FnSpec.ps; rw [List.length_map,List.length_take]; exact Nat.min_eq_left (of_decide_eq_true nl)
 refine ⟨hp,fnB_ok h1 h2 (fun vals h=>bind_five (of_decide_eq_true n5) h3 vals (h.trans hp)) ?_⟩
 rw [hp]; unfold FnSpec.ps; rw [List.map_take]
noncomputable def clsL (K:Frag) (C:Addr):List (Option (Option Value)) × Bool:=([findIn K (.ref C) "__getattribute__",findIn K (.ref C) "__getattr__",findIn K (.ref C) "__setattr__"],plainOver K C && (clsIn K C).any (fun q=>q.hasDict))
noncomputable def clsW:List (Option (Option Value)) × Bool:=([some (some (.builtin "object.__getattribute__")),some none,some (some (.builtin "object.__setattr__"))],true)
theorem cls_ok {K:Frag} {C:Addr} (h:clsL K C = clsW):ClsOk K C:=by
 obtain ⟨h1,h2⟩:=Prod.mk.inj h
 obtain ⟨e1,h1⟩:=List.cons.inj h1
 obtain ⟨e2,h1⟩:=List.cons.inj h1
 exact ⟨e1,e2,(List.cons.inj h1).1,(an h2).1,(an h2).2⟩
end
section
set_option maxHeartbeats 0
noncomputable def obL (o:Obj):Value × Option Addr × Array (Option Value):=(o.cls,o.dict,o.slots)
noncomputable def DK.vs (k:DK):Option (List VK):=match k with | .q l=>some (l.map vk) | _=>none
noncomputable def DK.es (k:DK):Option (List (Int × VK × VK)):=match k with | .d l=>some (l.map fun e=>(e.hash,vk e.key,vk e.val)) | _=>none
theorem DK.vs.at {k:DK} {m:List VK} (h:k.vs = some m):∃ l,k = .q l /\ l.map vk = m:=by cases k with | q l=>exact ⟨l,rfl,Option.some.inj h⟩ | _=>cases h
theorem DK.es.at {k:DK} {m:List (Int × VK × VK)} (h:k.es = some m):∃ l,k = .d l /\ (l.map fun e=>(e.hash,vk e.key,vk e.val)) = m:=by cases k with | d l=>exact ⟨l,rfl,Option.some.inj h⟩ | _=>cases h
noncomputable def gK (K:Frag) (x:Str):Option Addr:=((gv K x).map vk).bind VK.rf
noncomputable def gA (K:Frag) (x:Str):Addr:=(gK K x).getD 0
section
variable {P:PW} {K:Frag} {x:Str}
theorem gA_ok (h:(gK K x).isSome = true):gv K x = some (.ref (gA K x)):=by
 refine VK.rf.at ?_
 unfold gA
 change gK K x = some _
 cases e:gK K x with
 | none=>rw [e] at h; cases h
 | some a=>rfl
noncomputable def obK {β:Type} (K:Frag) (a:Addr) (f:DK -> β):Option ((Value × Option Addr × Array (Option Value)) × β):=(K.lookup a).map fun o=>(obL o,f (dk o.data))
theorem ob_at {β:Type} {f:DK -> β} {r:β} {a:Addr} {c:Value} (h:obK K a f = some ((c,none,#[]),r)):∃ d,f (dk d) = r /\ K.lookup a = some { cls:=c,data:=d }:=by
 unfold obK at h
 cases e:K.lookup a with
 | none=>rw [e] at h; cases h
 | some o =>
  rw [e] at h
  obtain ⟨c',d',dt,sl⟩:=o
  obtain ⟨h1,h2⟩:=Prod.mk.inj (Option.some.inj h)
  obtain ⟨e1,h1⟩:=Prod.mk.inj h1
  obtain ⟨e2,e3⟩:=Prod.mk.inj h1
  have e1:c' = c:=e1
  have e2:d' = none:=e2
  have e3:sl = #[]:=e3
  subst e1; subst e2; subst e3
  exact ⟨dt,h2,rfl⟩
theorem gInt {i:Int} (h:(gv K x).map vk = some (.i i)):GlobOk P K x (.int i):=by
 cases e:gv K x with
 | none=>rw [e] at h; cases h
 | some v =>
  rw [e] at h
  obtain ⟨t,rfl⟩:=vk.i (Option.some.inj h)
  exact GlobOk.int e
noncomputable def tupF (K:Frag) (x:Str):Bool × Option ((Value × Option Addr × Array (Option Value)) × Option (List VK)):=((gK K x).isSome,obK K (gA K x) DK.vs)
noncomputable def tupW (l:List Nm):Bool × Option ((Value × Option Addr × Array (Option Value)) × Option (List VK)):=(true,some ((.type "tuple",none,#[]),some (l.map fun k=>.s (toS k))))
theorem gStrs {l:List Nm} (h:tupF K x = tupW l):GlobOk P K x (.tup (l.map .str)):=by
 obtain ⟨h1,h2⟩:=Prod.mk.inj h
 obtain ⟨d,e1,e2⟩:=ob_at h2
 obtain ⟨vs,e3,e4⟩:=DK.vs.at e1
 obtain ⟨n,rfl⟩:=dk.q e3
 exact GlobOk.strs (vs:=vs) (n:=n) (gA_ok h1) e2 (strs_of e4)
noncomputable def dctF (K:Frag) (x:Str):Bool × Bool × Option ((Value × Option Addr × Array (Option Value)) × Option (List (Int × VK × VK))):=((gK K x).isSome,gA K x == sysModules,obK K (gA K x) DK.es)
noncomputable def dctW (w:World) (l:List (Nm × Nm)):Bool × Bool × Option ((Value × Option Addr × Array (Option Value)) × Option (List (Int × VK × VK))):=(true,false,some ((.type "dict",none,#[]),some (l.map fun e=>(hashStr w (toS e.1),.s (toS e.1),.s (toS e.2)))))
theorem gDict {l:List (Nm × Nm)} (nd:(l.map (fun q=>q.1)).Nodup) (h:dctF K x = dctW P.w l):GlobOk P K x (.dct (l.map fun e=>(e.1,.str e.2))):=by
 obtain ⟨h1,h2⟩:=Prod.mk.inj h
 obtain ⟨h2,h3⟩:=Prod.mk.inj h2
 obtain ⟨d,e1,e2⟩:=ob_at h3
 obtain ⟨es,e3,e4⟩:=DK.es.at e1
 obtain ⟨n,rfl⟩:=dk.d e3
 exact GlobOk.dict (es:=es.toArray) (ep:=n) (gA_ok h1) h2 e2 (dct_of e4) nd
end
end
section
set_option maxHeartbeats 0
noncomputable abbrev OOV:=Option (Option Value)
noncomputable def mthL (K:Frag) (C:Addr) (m:Str) (f:Addr):OOV × Option Value × Bool:=(findIn K (.ref C) m,typeIn K (.ref f),isFnK K f)
noncomputable def mthW (f:Addr):OOV × Option Value × Bool:=(some (some (.ref f)),some (.type "function"),true)
noncomputable def specL (K:Frag) (s:FnSpec):Bool × FuncBody × (Value -> Value -> Value -> Value -> Value -> Sem (List (Str × Value))):=(specB s && fnB K s.f s.vs s.gl (fdOf K s.f),(fdOf K s.f).body,bind5 (fdOf K s.f) s.np)
noncomputable def specW (s:FnSpec):Bool × FuncBody × (Value -> Value -> Value -> Value -> Value -> Sem (List (Str × Value))):=(true,.stmts s.b,want5 s.ps s.np)
theorem spec_ok {K:Frag} {s:FnSpec} (h:specL K s = specW s):FnOk K s:=by
 obtain ⟨h1,h2⟩:=Prod.mk.inj h
 obtain ⟨h2,h3⟩:=Prod.mk.inj h2
 exact fnOk_of (an h1).1 (an h1).2 h2 h3
noncomputable def ccOf (fd:FuncData):Addr:=(fd.closure.head?.map (fun q=>q.2)).getD 0
noncomputable def arg0 (fd:FuncData):Option Str:=(fd.params.posonlyargs ++ fd.params.args).head?.map (fun q=>q.arg)
noncomputable def DK.fl (k:DK):Option VK:=match k with | .f vs=>vs[2]?.map vk | _=>none
noncomputable def DK.cl (k:DK):Option VK:=match k with | .c (some v)=>some (vk v) | _=>none
noncomputable def oiB (K:Frag) (fd:FuncData):Bool:=isFnK K 225 && (decide (fd.globals = mainGlobals) && (decide (fd.builtins = builtinsNs) && (codeIn K fd.code fd.qualname && (decide (fd.scope.isCoroutine = false) && (decide (fd.scope.isGenerator = false) && (decide (fd.scope.kind = .function) &&
 ((P_oinit.all fun v=>fd.scope.names.lookup v == some .local) && ((fd.scope.names.all fun x=>x.2 != .cell) && (decide (fd.scope.names.lookup ("super":Str) = some .globalImplicit) && (decide (fd.scope.names.lookup ("__class__":Str) = some .free) && ((clsIn K 470).isSome && (decide (mroIn K 470 (.ref 470) = some true) && isFnK K 137))))))))))))
noncomputable def oiL (K:Frag) (fd:FuncData):Bool × FuncBody × (Value -> Value -> Value -> Value -> Value -> Sem (List (Str × Value))) × List Str × Option Str × Option (Option VK) × Option (Option VK) × Option Value × OOV × OOV × Option Value :=
 (oiB K fd,fd.body,bind5 fd 5,fd.closure.map (fun q=>q.1),arg0 fd,(VK.rf (vk fd.code)).bind fun a=>(K.lookup a).map fun o=>(dk o.data).fl,(K.lookup (ccOf fd)).map fun o=>(dk o.data).cl,gv K "super",nsIn K cStatics "thirdparty.any",ks_superIn K 470 470 "__init__",typeIn K (.ref 137))
noncomputable def oiW (p:Program):Bool × FuncBody × (Value -> Value -> Value -> Value -> Value -> Sem (List (Str × Value))) × List Str × Option Str × Option (Option VK) × Option (Option VK) × Option Value × OOV × OOV × Option Value :=
 (true,.stmts (bodyOf (stmtIn 19 0)),want5 P_oinit 5,[Str.ofString "__class__"],some "self",some (some (.s p.main.file)),some (some (.r 470)),some (.type "super"),some none,some (some (.ref 137)),some (.type "function"))
theorem clo_of {l:List (Str × Addr)} {x:Str} (h:l.map (fun q=>q.1) = [x]):l = [(x,(l.head?.map (fun q=>q.2)).getD 0)]:=by
 cases l with
 | nil=>cases h
 | cons e l =>
  obtain ⟨e1,e2⟩:=List.cons.inj h
  cases List.map_eq_nil_iff.mp e2
  subst e1; rfl
theorem self_of {fd:FuncData} (h:arg0 fd = some "self"):∃ ar x r,(fd.params.posonlyargs ++ fd.params.args).head? = some ar /\ ar.arg = x /\ P_oinit = x :: r:=by
 unfold arg0 at h
 cases e:(fd.params.posonlyargs ++ fd.params.args).head? with
 | none=>rw [e] at h; cases h
 | some ar=>rw [e] at h; exact ⟨ar,_,_,rfl,Option.some.inj h,rfl⟩
theorem file_of {K:Frag} {p:Program} {v:Value} (h:((VK.rf (vk v)).bind fun a=>(K.lookup a).map fun o=>(dk o.data).fl) = some (some (.s p.main.file))):∃ cda c d vs sl fl tf,v = .ref cda /\ K.lookup cda = some ⟨c,d,.fields vs,sl⟩ /\ vs[2]? = some (.str fl tf) /\ ((p.main.file:Str) == fl) = true:=by
 cases e:VK.rf (vk v) with
 | none=>rw [e] at h; cases h
 | some a =>
  rw [e] at h
  have e0:=VK.rf.at (v:=some v) e
  have h:(K.lookup a).map (fun o=>(dk o.data).fl) = some (some (.s p.main.file)):=h
  cases q:K.lookup a with
  | none=>rw [q] at h; cases h
  | some o =>
   rw [q] at h
   have h:=Option.some.inj h
   obtain ⟨c,d,dt,sl⟩:=o
   have h:(dk dt).fl = some (.s p.main.file):=h
   cases z:dk dt with
   | f vs =>
    rw [z] at h
    have z:=dk.f z
    subst z
    have h:vs[2]?.map vk = some (.s p.main.file):=h
    cases y:vs[2]? with
    | none=>rw [y] at h; cases h
    | some u =>
     rw [y] at h
     obtain ⟨t,rfl⟩:=vk.s (Option.some.inj h)
     exact ⟨a,c,d,vs,sl,_,t,Option.some.inj e0,q,y,beq_self_eq_true _⟩
   | _=>rw [z] at h; cases h
theorem cell_of {K:Frag} {a D:Addr} (h:((K.lookup a).map fun o=>(dk o.data).cl) = some (some (.r D))):∃ c d sl,K.lookup a = some ⟨c,d,.cell (some (.ref D)),sl⟩:=by
 cases q:K.lookup a with
 | none=>rw [q] at h; cases h
 | some o =>
  rw [q] at h
  have h:=Option.some.inj h
  obtain ⟨c,d,dt,sl⟩:=o
  have h:(dk dt).cl = some (.r D):=h
  cases z:dk dt with
  | c v =>
   rw [z] at h
   have z:=dk.c z
   subst z
   cases v with
   | none=>cases h
   | some v=>have h:vk v = .r D:=Option.some.inj h; rw [vk.r h]; exact ⟨c,d,sl,rfl⟩
  | _=>rw [z] at h; cases h
theorem oi_ok {P:PW} {K:Frag} (top:(P.prog.main.scope.names.lookup ("super":Str)).isSome = false) (h:oiL K (fdOf K 225) = oiW P.prog):∃ fd cc,SupStatic P K 225 fd P_oinit (bodyOf (stmtIn 19 0)) [] cc 470 470 137:=by
 obtain ⟨g,h⟩:=Prod.mk.inj h
 obtain ⟨h1,h⟩:=Prod.mk.inj h
 obtain ⟨h2,h⟩:=Prod.mk.inj h
 obtain ⟨h3,h⟩:=Prod.mk.inj h
 obtain ⟨h4,h⟩:=Prod.mk.inj h
 obtain ⟨h5,h⟩:=Prod.mk.inj h
 obtain ⟨h6,h⟩:=Prod.mk.inj h
 obtain ⟨h7,h⟩:=Prod.mk.inj h
 obtain ⟨h8,h⟩:=Prod.mk.inj h
 obtain ⟨h9,hx⟩:=Prod.mk.inj h
 obtain ⟨a1,g⟩:=an g
 obtain ⟨a2,g⟩:=an g
 obtain ⟨a3,g⟩:=an g
 obtain ⟨a4,g⟩:=an g
 obtain ⟨a5,g⟩:=an g
 obtain ⟨a6,g⟩:=an g
 obtain ⟨a7,g⟩:=an g
 obtain ⟨a8,g⟩:=an g
 obtain ⟨a9,g⟩:=an g
 obtain ⟨b1,g⟩:=an g
 obtain ⟨b2,g⟩:=an g
 obtain ⟨b3,g⟩:=an g
 obtain ⟨b4,b5⟩:=an g
 exact ⟨fdOf K 225,ccOf (fdOf K 225),fd_lk a1,h1,clo_of h3,of_decide_eq_true a2,of_decide_eq_true a3,a4,fun vals hv=>bind_five (by decide) h2 vals hv,of_decide_eq_true a5,of_decide_eq_true a6,of_decide_eq_true a7,a8,by decide +kernel,a9,rfl,of_decide_eq_true b1,of_decide_eq_true b2,self_of h4,file_of h5,top,h7,cell_of h6,Option.isSome_iff_exists.mp b3,of_decide_eq_true b4,h8,h9,hx,b5⟩
end
section
set_option maxHeartbeats 0
noncomputable def intT:List (Str × Int):=[(Str.ofString "MOST_NODES",20000),(Str.ofString "MOST_LEVELS",100)]
noncomputable def strT:List (Str × List Nm):=[(Str.ofString "NUMBER_HEADS",numberHeads),(Str.ofString "TRUTH_HEADS",truthHeads),(Str.ofString "TURNED",turnedL)]
section
variable (K:Frag)
noncomputable def look1:=(gTab.map fun p=>gv K p.1,fTab.map fun p=>(gv K p.1,isFnK K p.2),intT.map fun p=>(gv K p.1).map vk,strT.map fun p=>tupF K p.1,dctF K (Str.ofString "SET_SIGNS"))
noncomputable def look2:=(fldTab.map fun e=>(clsL K e.1,e.2.map fun s=>findIn K (.ref e.1) (toS s)),mthTab.map fun e=>(clsL K e.1,e.2.map fun s=>mthL K e.1 (toS s.1) s.2),nTab.map fun p=>(gv K p.1,makesIn K p.2.1,mthL K p.2.1 "__init__" p.2.2))
noncomputable def look3:=((W_law :: specs).map fun s=>specL K s,oiL K (fdOf K 225),nsIn K mainGlobals "law",(K.lookup sysModules).isSome,nsOkIn K cStatics,nsIn K cStatics "sys.recursionlimit")
end
noncomputable def want1 (w:World):=(gTab.map fun p=>some p.2,fTab.map fun p=>(some (Value.ref p.2),true),intT.map fun p=>some (VK.i p.2),strT.map fun p=>tupW p.2,dctW w setSigns)
noncomputable def want2:=(fldTab.map fun e=>(clsW,e.2.map fun zq=>(some none:OOV)),mthTab.map fun e=>(clsW,e.2.map fun s=>mthW s.2),nTab.map fun p=>(some (Value.ref p.2.1),true,mthW p.2.2))
noncomputable def want3 (p:Program):=((W_law :: specs).map fun s=>specW s,oiW p,(some (some (Value.ref 859)):OOV),true,true,(some none:OOV))
noncomputable def lookF (K:Frag):=(look1 K,look2 K,look3 K)
noncomputable def wantF (P:PW):=(want1 P.w,want2,want3 P.prog)
section
variable {P:PW} {K:Frag}
theorem ft_of (h:(fldTab.map fun e=>(clsL K e.1,e.2.map fun s=>findIn K (.ref e.1) (toS s))) = fldTab.map fun e=>(clsW,e.2.map fun zq=>(some none:OOV))):FTok K ft0:=fun C m hm=>by
 obtain ⟨e,he,q⟩:=List.any_eq_true.mp hm
 obtain ⟨q1,q2⟩:=an q
 obtain ⟨s,hs,q3⟩:=List.any_eq_true.mp q2
 cases beq_iff_eq.mp q1
 cases beq_iff_eq.mp q3
 obtain ⟨h1,h2⟩:=Prod.mk.inj (map_eq h e he)
 exact ⟨cls_ok h1,map_eq h2 _ hs⟩
theorem mt_of (h:(mthTab.map fun e=>(clsL K e.1,e.2.map fun s=>mthL K e.1 (toS s.1) s.2)) = mthTab.map fun e=>(clsW,e.2.map fun s=>mthW s.2)):MTok K mt0:=fun C m f hm=>by
 obtain ⟨e,h1,h2⟩:=Option.bind_eq_some_iff.mp hm
 obtain ⟨s,h3,h4⟩:=Option.map_eq_some_iff.mp h2
 cases beq_iff_eq.mp (List.find?_some (p:=fun e:Addr × List (Nm × Addr)=>e.1 == C) h1)
 cases beq_iff_eq.mp (List.find?_some (p:=fun s:Nm × Addr=>s.1 == m) h3)
 cases h4
 obtain ⟨g1,g2⟩:=Prod.mk.inj (map_eq h e (List.mem_of_find?_eq_some h1))
 obtain ⟨g2,g3⟩:=Prod.mk.inj (map_eq g2 s (List.mem_of_find?_eq_some h3))
 obtain ⟨g3,g4⟩:=Prod.mk.inj g3
 exact ⟨cls_ok g1,g2,g3,g4⟩
theorem new_of {C f:Addr} {x:Str} (h:(gv K x,makesIn K C,mthL K C "__init__" f) = (some (Value.ref C),true,mthW f)):gv K x = some (.ref C) /\ NewOk K C f:=by
 obtain ⟨h1,h2⟩:=Prod.mk.inj h
 obtain ⟨h2,h3⟩:=Prod.mk.inj h2
 obtain ⟨h3,h4⟩:=Prod.mk.inj h3
 obtain ⟨h4,h5⟩:=Prod.mk.inj h4
 exact ⟨h1,h2,h3,h4,h5⟩
structure Facts (P:PW) (K:Frag):Prop where
 full:KFull P K
 law:nsIn K mainGlobals "law" = some (some (.ref 859))
 sm:∃ o,K.lookup sysModules = some o
 ok:nsOkIn K cStatics = true
 lim:nsIn K cStatics "sys.recursionlimit" = some none
theorem facts_of (top:(P.prog.main.scope.names.lookup ("super":Str)).isSome = false) (h:lookF K = wantF P):Facts P K:=by
 obtain ⟨h1,h⟩:=Prod.mk.inj h
 obtain ⟨h2,h3⟩:=Prod.mk.inj h
 obtain ⟨a1,h1⟩:=Prod.mk.inj h1
 obtain ⟨a2,h1⟩:=Prod.mk.inj h1
 obtain ⟨a3,h1⟩:=Prod.mk.inj h1
 obtain ⟨a4,a5⟩:=Prod.mk.inj h1
 obtain ⟨b1,h2⟩:=Prod.mk.inj h2
 obtain ⟨b2,b3⟩:=Prod.mk.inj h2
 obtain ⟨c1,h3⟩:=Prod.mk.inj h3
 obtain ⟨c2,h3⟩:=Prod.mk.inj h3
 obtain ⟨c3,h3⟩:=Prod.mk.inj h3
 obtain ⟨c4,h3⟩:=Prod.mk.inj h3
 obtain ⟨c5,c6⟩:=Prod.mk.inj h3
 refine ⟨{ g:=map_eq a1,f:=fun p hp=>Prod.mk.inj (map_eq a2 p hp),c:=?_,ft:=ft_of b1,mt:=mt_of b2,n:=fun p hp=>new_of (map_eq b3 p hp),sp:=fun s hs=>spec_ok (map_eq c1 s (.tail _ hs)),oi:=oi_ok top c2,la:=spec_ok (map_eq c1 W_law (.head _)) },c3,Option.isSome_iff_exists.mp c4,c5,c6⟩
 have i:=fun p hp=>gInt (P:=P) (map_eq a3 p hp)
 have t:=fun p hp=>gStrs (P:=P) (map_eq a4 p hp)
 exact List.forall_mem_cons.mpr ⟨i _ (.head _),List.forall_mem_cons.mpr ⟨i _ (.tail _ (.head _)),List.forall_mem_cons.mpr ⟨t _ (.head _),List.forall_mem_cons.mpr ⟨t _ (.tail _ (.head _)),List.forall_mem_cons.mpr ⟨t _ (.tail _ (.tail _ (.head _))),List.forall_mem_cons.mpr ⟨gDict (by decide) a5,fun zq h=>nomatch h⟩⟩⟩⟩⟩⟩
end
end
section
set_option maxHeartbeats 0
theorem ints_vr {P:PW} {Φ:Fz} {vs:List Value} {zs:List Int} (h:PyProof.Rows.IntsAre vs zs):VRs P Φ (zs.map .int) vs:=by
 induction h with
 | nil=>exact ⟨⟩
 | cons n t _ ih=>exact ⟨_,_,.mk t,ih⟩
theorem fin_run {P:PW} {K:Frag} {s:Shared} {zs:List Int} {vs:List Value} {b:Addr} (F:Facts P K) (KX:K.In s.heap) (hobj:s.heap.get? b = some (lstO vs 0)) (hI:PyProof.Rows.IntsAre vs zs) (hlen:zs.length <= 63)
  {Q E:Value -> Shared -> Prop} (hQ:∀ h' tk',(∀ b o,s.heap.get? b = some o -> h'.get? b = some o) -> Q (.bool true) { s with heap:=h',toks:=tk' }) :
  wpAny P.M callerA (PySem.call (.ref 859) [.ref b]) Q E s:=by
 have hp:Pre P K s.heap ⟨[],fun a=>s.heap.get? a⟩ []:={
  core:={
   frz:=fun a o h=>h
   mono:=⟨List.prefix_refl _,fun zq zq h=>h⟩
   new:=fun a o h=>.inl ⟨o,h⟩
   keep:=fun a o h zq=>h
   regs:=⟨⟩
   rfr:=fun d h=>by cases h with | a h=>cases h | d h=>cases h
   rnew:=fun c h=>nomatch h
   sep:=⟨.nil,fun a h=>nomatch h⟩ }
  kb:=⟨fun a o h=>KX a o h,F.sm,⟨F.ok,F.lim⟩⟩ }
 have hv:VRs P ⟨[],fun a=>s.heap.get? a⟩ [.lst (zs.map .int)] [.ref b]:=⟨_,_,⟨b,vs,0,hobj,ints_vr hI⟩,⟨⟩⟩
 refine wpAny_call (codeAny_mono (law_ok F.full 200 _ _ _ (law_plain zs hlen (fun p zq=>p = .bool true) fun zq=>rfl) _ s _ callerA hp hv ⟨rfl,by decide,by decide⟩) fun r s' q=>?_)
 cases r with
 | error e=>exact q.elim
 | ok fl=>cases fl with
  | ret v =>
   obtain ⟨p,G',Φ',_,e,t,C,d⟩:=q
   subst e
   cases t with
   | mk h tk=>cases d; exact hQ h tk fun b o hb=>C.keep b o hb fun h=>nomatch h
  | _=>exact q.elim
noncomputable def live (o:Obj):Bool:=match o.data with | .freed=>false | _=>true
noncomputable def numb:Nat -> List Obj -> Frag
 | _,[]=>[]
 | n,o :: l=>cond (live o) ((n,o) :: numb (n + 1) l) (numb (n + 1) l)
theorem numb_cons {n:Nat} {x:Obj} {l:List Obj}:numb n (x :: l) = cond (live x) ((n,x) :: numb (n + 1) l) (numb (n + 1) l):=rfl
structure NumAt (n:Nat) (l:List Obj) (a:Addr) (o:Obj) (i:Nat):Prop where
 pos:a = n + i
 at_:l[i]? = some o
 liv:live o = true
theorem NumAt.tl {n i:Nat} {l:List Obj} {a:Addr} {o x:Obj} (h:NumAt (n + 1) l a o i):NumAt n (x :: l) a o (i + 1):=⟨by rw [h.pos,Nat.add_assoc,Nat.add_comm 1],h.at_,h.liv⟩
theorem numb_at {l:List Obj} {n a:Nat} {o:Obj} (h:(numb n l).lookup a = some o):∃ i,NumAt n l a o i:=by
 induction l generalizing n with
 | nil=>cases h
 | cons x l ih =>
  rw [numb_cons] at h
  cases y:live x with
  | false =>
   rw [y] at h
   obtain ⟨i,z⟩:=ih h
   exact ⟨_,z.tl⟩
  | true =>
   rw [y,cond_true,List.lookup_cons] at h
   cases e:a == n with
   | true =>
    rw [e] at h
    have h:=Option.some.inj h
    subst h
    exact ⟨0,beq_iff_eq.mp e,rfl,y⟩
   | false =>
    rw [e] at h
    obtain ⟨i,z⟩:=ih h
    exact ⟨_,z.tl⟩
noncomputable def fragOf (h:Heap):Frag:=numb 0 h.objs.toList
theorem live_get {h:Heap} {a:Nat} {o:Obj} (e:h.objs[a]? = some o) (y:live o = true):h.get? a = some o:=by
 unfold Heap.get?
 rw [e]
 obtain ⟨c,d,dt,sl⟩:=o
 cases dt with
 | freed=>cases y
 | _=>rfl
theorem frag_in (h:Heap):(fragOf h).In h:=fun a o e=>by
 obtain ⟨i,z⟩:=numb_at e
 have h1:=z.pos
 rw [Nat.zero_add] at h1
 subst h1
 exact live_get (by rw [<- Array.getElem?_toList]; exact z.at_) z.liv
section
open PySem.W.X
theorem end_ok {cl:Str -> Option Addr} {mean:ExcName -> Option Value} {zs:List Int} {s₁:Shared} {h':Heap} {tk':Nat} (hg:s₁.gens = #[]) (hk:∀ b o,s₁.heap.get? b = some o -> h'.get? b = some o) :
  GoodWG PySem.Challenge.rw_nz0401_01.row.claim cl mean [ofPy (PyData.list (zs.map PyData.int))] s₁ (.ok (.ret (.bool true))) { s₁ with heap:=h',toks:=tk' }:=by
 refine ⟨.inl ⟨.bool true,.bool true,[],rfl,fun zq=>?_,?_,?_,fun zq=>⟨List.nodup_nil,fun a h=>nomatch h⟩⟩,.of_keep hk,rfl,.of_eq hg⟩
 ·rfl
 ·exact .bool _
 ·exact postW_of (X:=true) (by wrow_shape) (by wtm_val) rfl
end
end
section
set_option maxHeartbeats 0
open PySem.W.Fast
noncomputable abbrev Pg:Program:=PySem.Challenge.pw_nz0401_01
noncomputable def runT (stp:SharedT -> Thread -> Option (SharedT × Thread)) (ok:Thread -> Bool) (n:Nat):SharedT -> Thread -> Option SharedT :=
 Nat.rec (fun zq zq=>none) (fun zq ih s t=>match through t with
  | true=>some s
  | false=>match ok t with
   | false=>none
   | true=>match stp s t with
    | some r=>ih r.1 r.2
    | none=>none) n
theorem runT_of {tb:String -> Option Builtin} {p:Program} {w:World} {n₀:Nat} {ann:Option Value}:∀ {n:Nat} {s r:SharedT} {t:Thread},runT (stepT (denote tb) p w) (stepOk n₀ ann) n s t = some r -> topRun tb p w n₀ ann n s.abs t = some r.abs
 | 0,_,_,_,h=>nomatch h
 | n + 1,s,r,t,h=>by
  have h:(match through t with | true=>some s | false=>match stepOk n₀ ann t with | false=>none | true=>match stepT (denote tb) p w s t with | some x=>runT (stepT (denote tb) p w) (stepOk n₀ ann) n x.1 x.2 | none=>none) = some r:=h
  unfold topRun
  cases e:through t with
  | true=>rw [e] at h; cases h; rfl
  | false =>
   rw [e] at h
   cases k:stepOk n₀ ann t with
   | false=>rw [k] at h; cases h
   | true =>
    rw [k] at h
    cases q:stepT (denote tb) p w s t with
    | none=>rw [q] at h; cases h
    | some x=>obtain ⟨s2,t2⟩:=x; rw [q] at h; rw [stepT_spec q]; exact runT_of h
noncomputable def mkT:List Obj -> Nat -> BT -> BT
 | [],_,t=>t
 | o :: l,n,t=>mkT l (n + 1) (t.ins n o)
noncomputable def T0 (P:Params):BT:=mkT (boot_heap P).objs.toList 0 .nil
noncomputable def n0 (P:Params):Nat:=(boot_heap P).objs.toList.length
noncomputable abbrev row0:String:="special-get-raises"
noncomputable abbrev Ls:List Str:=[Str.ofString "NUMBER_CALLS",Str.ofString "ORDER_CALLS",Str.ofString "SET_SIGNS",Str.ofString "set_of_sets"]
noncomputable abbrev Rw:OpenRow:=PySem.Challenge.rw_nz0401_01.row
noncomputable abbrev Vw:Program:=view Pg ((List.range 53).filter fun i=>!([1,6,20,37,39,42].contains i))
noncomputable abbrev Xt (s:Shared):Bool:=xlAt Vw [] s && recOk (RowW.records Rw.toRowW) s
noncomputable def st0 (w:World) (os:OsState):SharedT:=⟨T0 w.params,11,{},Array.mk [],boot_drawn,boot_toks,os⟩
noncomputable def top1 (w:World) (b:Bool) (os:OsState):Option SharedT:=runT (stepT (denote treeTable) Pg (w.withFollow row0 b)) (stepOk 11 (some (.ref 6))) 6500 (st0 w os) (topStub Pg)
noncomputable def top2 (w:World) (b:Bool) (os:OsState):Option SharedT:=runT (tw10156331382660048174 (tw11892475500146522536 tw14364793385576792824) Pg (w.withFollow row0 b)) (tw6613529449190102663 11 (some (.ref 6))) 6500 (st0 w os) (topStub Pg)
theorem top_eq (w:World) (b:Bool) (os:OsState):top1 w b os = top2 w b os:=by unfold top1 top2; rw [te10156331382660048174,te11892475500146522536,te14364793385576792824,te6613529449190102663]
noncomputable def rest1 (H:Heap) (s:Shared):Bool:=staticsOk (importedModules Pg.main.body) H s.heap && namesBound Pg s.heap && gensDone s && laidKept H s.heap
theorem boot_abs (P:Params):absHeap (T0 P) 11 {} = boot_heap P:=by kernel_rfl
theorem boot_ok (P:Params):((boot_heap P).isNs mainGlobals,(boot_heap P).objs.size,(boot_heap P).nsMap mainGlobals "__annotations__") = (true,11,some (.ref 6)):=by kernel_rfl
theorem left_of {α:Type} {Yf:Shared -> α} {Ya:World -> α} (h:∀ w b os,(top1 w b os).map (fun s=>(rest1 (boot_heap w.params) s.abs,openSeen Vw Ls (importedModules Pg.main.body) Xt true s.abs,Yf s.abs)) = some (true,openGood Vw Ls,Ya w)):LeftO Pg Vw Ls Xt Yf Ya 11568:=fun w=>by
 obtain ⟨⟨hp,gs,d,k,os⟩,e,e'⟩:=Option.map_eq_some_iff.mp (boot_open (p:=Pg) (N:=11568) (by rfl) (by rfl) (fun zq=>by rfl) w)
 obtain ⟨rfl,rfl,rfl,rfl⟩:hp = boot_heap w.params /\ gs = Array.mk [] /\ d = boot_drawn /\ k = boot_toks:=by simpa using e'
 obtain ⟨z1,z2,z3⟩:_ /\ _ /\ _:=by simpa only [Prod.mk.injEq] using boot_ok w.params
 obtain ⟨r,h1,h2⟩:=Option.map_eq_some_iff.mp (h w (w.params.followText row0) os)
 obtain ⟨l1,l2,l3⟩:_ /\ _ /\ _:=by simpa only [Prod.mk.injEq] using h2
 unfold top1 at h1
 rw [World.withFollow_self w row0] at h1
 have r1:=topRun_mono 5068 _ _ _ _ (runT_of h1)
 have ha:(st0 w os).abs = ⟨boot_heap w.params,Array.mk [],boot_drawn,boot_toks,os⟩:=by unfold st0 SharedT.abs; rw [boot_abs]
 rw [ha] at r1
 have t:topFrom treeTable Pg w 11568 ⟨boot_heap w.params,Array.mk [],boot_drawn,boot_toks,os⟩ = some r.abs:=by
  unfold topFrom
  dsimp only
  rw [z1,z2,z3,r1]
  show (match rest1 (boot_heap w.params) r.abs with | true=>_ | false=>_) = _
  rw [l1]
 unfold openEnds
 rw [e]
 show (topFrom treeTable Pg w 11568 _).map _ = _
 rw [t]
 exact congrArg some (Prod.ext l2 l3)
noncomputable def Yf (s:Shared):=lookF (fragOf s.heap)
noncomputable def Ya (w:World):=wantF ⟨Pg,w⟩
end
section
set_option maxHeartbeats 0
open PySem.W.Fast PyProof.Rows
noncomputable def o1 (w:World) (s:SharedT):=(rest1 (boot_heap w.params) s.abs,seen ((recsOf Vw).map (fun q=>q.name)) (ownsOf Vw) [] { s.abs with gens:=#[] },plainSeenD Vw Ls s.abs,wideSeen Vw s.abs,clsSeenW Vw Ls s.abs)
noncomputable def g1:=(true,expectedOf Vw,plainGoodD Vw Ls,wideGood Vw,clsGoodW Vw Ls)
noncomputable def o2 (s:SharedT):=(s.abs.heap.bltView,(s.abs.heap.keysOk (looseW Vw Ls) ((recsOf Vw).map (fun q=>q.name)) ((litsOf Vw).map (fun q=>q.1)) ((clssOf Vw (looseW Vw Ls)).map (fun q=>q.name)) && s.abs.heap.accountedOkI (importedModules Pg.main.body) && s.abs.heap.isNs mainGlobals && s.abs.heap.isNs builtinsNs && tablesOk Vw s.abs.heap && Xt s.abs && (if true then s.abs.gens.size == 0 else !leftWithCleanup s.abs.gens)),tabsOk Vw s.abs)
noncomputable def g2:=(bltViewBooted,true,true)
noncomputable def o3 (s:SharedT):=(pinSeenD Vw (drecsOf Vw) s.abs,plainSeenE Vw (looseW Vw Ls) s.abs)
noncomputable def g3:=(pinGoodD (drecsOf Vw),plainGoodE Vw (looseW Vw Ls))
noncomputable def o4 (s:SharedT):=(look1 (fragOf s.abs.heap),look2 (fragOf s.abs.heap))
noncomputable def g4 (w:World):=(want1 w,want2)
noncomputable def o5 (s:SharedT):=look3 (fragOf s.abs.heap)
noncomputable def g5:=want3 Pg
theorem all_parts {w:World} {x:Option SharedT} (h1:x.map (o1 w) = some g1) (h2:x.map o2 = some g2) (h3:x.map o3 = some g3) (h4:x.map o4 = some (g4 w)) (h5:x.map o5 = some g5) :
  x.map (fun s=>(rest1 (boot_heap w.params) s.abs,openSeen Vw Ls (importedModules Pg.main.body) Xt true s.abs,Yf s.abs)) = some (true,openGood Vw Ls,Ya w):=by
 cases x with
 | none=>cases h1
 | some s =>
  show some ((o1 w s).1,((o1 w s).2.1,(o2 s).1,(o2 s).2.1,(o2 s).2.2,(o3 s).1,(o3 s).2,(o1 w s).2.2.1,(o1 w s).2.2.2.1,(o1 w s).2.2.2.2),((o4 s).1,(o4 s).2,o5 s)) = _
  rw [Option.some.inj h1,Option.some.inj h2,Option.some.inj h3,Option.some.inj h4,Option.some.inj h5]
  rfl
section
variable (w:World) (os:OsState)
theorem top_f1:(top2 w false os).map (o1 w) = some g1:=by kernel_rfl
theorem top_f2:(top2 w false os).map o2 = some g2:=by kernel_rfl
theorem top_f3:(top2 w false os).map o3 = some g3:=by kernel_rfl
theorem top_f4:(top2 w false os).map o4 = some (g4 w):=by kernel_rfl
theorem top_f5:(top2 w false os).map o5 = some g5:=by kernel_rfl
theorem top_t1:(top2 w true os).map (o1 w) = some g1:=by kernel_rfl
theorem top_t2:(top2 w true os).map o2 = some g2:=by kernel_rfl
theorem top_t3:(top2 w true os).map o3 = some g3:=by kernel_rfl
theorem top_t4:(top2 w true os).map o4 = some (g4 w):=by kernel_rfl
theorem top_t5:(top2 w true os).map o5 = some g5:=by kernel_rfl
end
theorem left:LeftO Pg Vw Ls Xt Yf Ya 11568:=left_of fun w b os=>by
 rw [top_eq]
 cases b with
 | false=>exact all_parts (top_f1 w os) (top_f2 w os) (top_f3 w os) (top_f4 w os) (top_f5 w os)
 | true=>exact all_parts (top_t1 w os) (top_t2 w os) (top_t3 w os) (top_t4 w os) (top_t5 w os)
end
section
set_option maxHeartbeats 0
theorem said:PySem.Challenge.rw_nz0401_01.wellSaid = true:=by
 unfold OpenLaw.wellSaid OpenRow.wellSaid OpenRow.partSaid looksOpen
 with_reducible repeat' refine look_both ?_ ?_
 all_goals decide +kernel
theorem top_super:(Pg.main.scope.names.lookup ("super":Str)).isSome = false:=by decide +kernel
end
end Mine.Internal
set_option tactic.hygienic true
open PySem PySem.W PySem.W.X PyProof.Rows
set_option maxRecDepth 100000 in
set_option maxHeartbeats 0 in
theorem PySem.Challenge.cw_nz0401_01_holds : PySem.Challenge.rw_nz0401_01.Holds := by
  w_on
  refine holds_law Mine.Internal.said fun said => ?_
  refine holds_openX (q := Mine.Internal.Vw) (loose := Mine.Internal.Ls) (Xt := Mine.Internal.Xt) (XP := XL Mine.Internal.Vw []) (Yf := Mine.Internal.Yf) (Ya := Mine.Internal.Ya) (N := 11568) Mine.Internal.left (fun s e => xl_of s (Bool.and_eq_true_iff.mp e).1) XL.keeps (by rfl) (by rfl) (by rfl) (fun s e => recFacts_of (Bool.and_eq_true_iff.mp e).2) (by rfl) said (by decide +kernel) ⟨rfl, rfl, rfl, rfl, rfl, by decide +kernel⟩ ?hw ?hc
  case hw => w_witness2
  intro w s₀ s₁ mg mb G y fa o pm cd doc dV kV ho hd hcd hD hmg hg args vals as L hpre hlay hrd hwl hlo
  have F : Mine.Internal.Facts ⟨Mine.Internal.Pg, w⟩ (Mine.Internal.fragOf s₀.heap) := Mine.Internal.facts_of Mine.Internal.top_super y
  have KX : (Mine.Internal.fragOf s₀.heap).In s₁.heap := Frag.In.keeps (Mine.Internal.frag_in s₀.heap) L.keeps
  cases hmg.symm.trans (mg_of KX G.T.g F.law)
  clear ho hd hcd hD hmg y G o pm cd doc dV kV mg mb
  wrow_args hpre hlay hrd hwl hlo
  all_lens
  exact Mine.Internal.fin_run F KX (script_obj L (by assumption)) (by assumption) (by omega) fun h' tk' hk => Mine.Internal.end_ok hg hk
