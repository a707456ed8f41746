import PyProof.Rows.All
import Wide.All
import OpenK.AllK
import Wide.FinOn
import HandS.ForMost
import HandS.Exc
import HandS.ExcOwn
import HandS.TryOnly
import HandS.WordsExc
import HandS.Lambda
import HandS.TupAny
import HandS.TupMul
import HandS.Codes
import HandS.DictComp
import HandS.Wide
import HandS.CallSlots
import HandS.TupLen
import HandS.Conv
import HandS.Zip
import HandS.GenOver
import HandS.AnyAll
import HandS.FStr
import HandS.Strs
import HandS.ListItems
import PyProof.SumWalk
import KE.KIndexWalk
import HandS.Defaults
import HandS.HeadHook1
import HandS.HeadHook2
import HandS.HeadHook4
import HandS.EndTab
import HandS.HeadWalk
import HandS.Style
import HandS.Head0
import HandS.Head1
import HandS.Head2
import HandS.EndOwn
import HandS.Words
import PySem.Challenge.RW_planstack_k01_days_that_are_worked
/-! PkA -/
section
set_option Elab.async false
set_option linter.all false
set_option maxRecDepth 100000
namespace Pk
open PySem PySem.Spec L2

/-! ### values by trees, cells -/
inductive DK where
  | k (x : Key) | t (l : List Key)
  deriving DecidableEq
inductive W where
  | non | bl (b : Bool) | int (i : Int) | str (x : Str)
  | tup (ws : List W) | lst (ws : List W) | dic (ks : List DK) (ws : List W)
  | box (n : Nat)
  /-- the script: a list of ints that is read alone -/
  | scr (ns : List Int)
  /-- a tuple of the module's own top -/
  | kt (ws : List W)
  /-- a tuple of texts, told by its one object (its methods may be called) -/
  | tx (ys : List Str)
inductive Ct where
  | lst (ws : List W) | dic (ks : List DK) (ws : List W) | ins (c : Nat) (ks : List Str) (ws : List W)
  | lck (ks : List DK) (ws : List W)
structure HS where
  at_ : Nat → Option Ct
  nx : Nat
def HS.put (h : HS) (n : Nat) (c : Ct) : HS := ⟨fun m => if m = n then some c else h.at_ m, h.nx⟩
def HS.new (h : HS) (c : Ct) : HS := ⟨fun m => if m = h.nx then some c else h.at_ m, h.nx + 1⟩
def HS.del (h : HS) (n : Nat) : HS := ⟨fun m => if m = n then none else h.at_ m, h.nx⟩
inductive R (α : Type) where
  | ok (a : α) (h : HS) | exc (c : Nat) (h : HS) | no
def R.bind {α β : Type} (r : R α) (k : α → HS → R β) : R β := match r with
  | .ok a h => k a h | .exc c h => .exc c h | .no => .no
abbrev Sl := List (Option W)
inductive RS where
  | nx (s : Sl) (h : HS) | rt (w : W) (h : HS) | bk (s : Sl) (h : HS) | ct (s : Sl) (h : HS) | exc (c : Nat) (s : Sl) (h : HS) | no
abbrev Ex := Sl → HS → R W
abbrev Tx := Sl → HS → R Bool
abbrev Ax := Sl → HS → R (List W)
abbrev Sx := Sl → HS → RS
def R.st {α : Type} (r : R α) (s : Sl) (k : α → HS → RS) : RS := match r with
  | .ok a h => k a h | .exc c h => .exc c s h | .no => .no

/-! ### what stands for them in the abstract heap -/
structure G where
  nx : Nat
  ρ : Nat → Addr
  F : Hp
  /-- what is being made: pinned, not to be seen -/
  hid : Hp
  /-- dicts that are being walked -/
  lk : Hp
structure G.le (g g' : G) : Prop where
  nx : g.nx ≤ g'.nx
  ρ : ∀ n, n < g.nx → g'.ρ n = g.ρ n
  F : Same g.F g'.F
  hid : Same g.hid g'.hid
  lk : Same g.lk g'.lk
theorem G.le.refl (g : G) : g.le g := ⟨Nat.le_refl _, fun _ _ => rfl, Same.refl _, Same.refl _, Same.refl _⟩
theorem G.le.trans {a b c : G} (x : a.le b) (y : b.le c) : a.le c :=
  ⟨Nat.le_trans x.nx y.nx, fun n h => (y.ρ n (Nat.lt_of_lt_of_le h x.nx)).trans (x.ρ n h), x.F.trans y.F, x.hid.trans y.hid, x.lk.trans y.lk⟩

def DctH (H : Hp) (a : Addr) (ks : List DK) (vs : List V) : Prop :=
  (∃ kvs : List (Key × V), H a = some (.dK kvs) ∧ ks = kvs.map (fun p => DK.k p.1) ∧ vs = kvs.map (·.2)) ∨
  (∃ kvs : List (List Key × V), H a = some (.dT kvs) ∧ (ks = kvs.map (fun p => DK.t p.1) ∧ kvs ≠ []) ∧ vs = kvs.map (·.2))
def DctL (H : Hp) (a : Addr) (ks : List DK) (vs : List V) : Prop :=
  (∃ (o : Obj) (kvs : List (Key × V)), H a = some (.frz o (.dK kvs)) ∧ ks = kvs.map (fun p => DK.k p.1) ∧ vs = kvs.map (·.2)) ∨
  (∃ (o : Obj) (kvs : List (List Key × V)), H a = some (.frz o (.dT kvs)) ∧ (ks = kvs.map (fun p => DK.t p.1) ∧ kvs ≠ []) ∧ vs = kvs.map (·.2))

/-- the object at a: a tuple of the texts ys, without a dict -/
def TxO (a : Addr) (ys : List Str) : HO := .ext fun h => ∃ (o : Obj) (n : Nat) (its : Array Value), h.get? a = some o ∧ o.cls = .type "tuple" ∧ o.dict = none ∧ o.data = .seq its n ∧ L2.Vals (ys.map V.str) its.toList
mutual
def RW (K : PySem.W.Frag) (g : G) : W → V → Prop
  | .non, v => v = .non
  | .bl b, v => v = .bl b
  | .int i, v => v = .int i
  | .str x, v => v = .str x
  | .tup ws, v => ∃ a vs, v = .ref a ∧ g.F a = some (.tup vs) ∧ RWs K g ws vs
  | .lst ws, v => ∃ a vs, v = .ref a ∧ g.F a = some (.lst vs) ∧ RWs K g ws vs
  | .dic ks ws, v => ∃ a vs, v = .ref a ∧ DctH g.F a ks vs ∧ RWs K g ws vs
  | .box n, v => n < g.nx ∧ v = .ref (g.ρ n)
  | .scr ns, v => ∃ a, v = .ref a ∧ SqL K g.F a (ns.map V.int)
  | .kt ws, v => ∃ a vs, v = .ref a ∧ SqT K g.F a vs ∧ RWs K g ws vs
  | .tx ys, v => ∃ a, v = .ref a ∧ g.F a = some (TxO a ys)
def RWs (K : PySem.W.Frag) (g : G) : List W → List V → Prop
  | [], vs => vs = []
  | w :: ws, vs => ∃ v vr, vs = v :: vr ∧ RW K g w v ∧ RWs K g ws vr
end
theorem sqT_mono {K : PySem.W.Frag} {H H' : Hp} {a : Addr} {xs : List V} (e : Same H H') (h : SqT K H a xs) : SqT K H' a xs := by
  rcases h with (h | ⟨o, h⟩) | h
  · exact .inl (.inl (e _ _ h))
  · exact .inl (.inr ⟨o, e _ _ h⟩)
  · exact .inr h
theorem dctH_mono {H H' : Hp} {a : Addr} {ks : List DK} {vs : List V} (e : Same H H') (h : DctH H a ks vs) : DctH H' a ks vs := by
  rcases h with ⟨kvs, h, q⟩ | ⟨kvs, h, q⟩
  · exact .inl ⟨kvs, e _ _ h, q⟩
  · exact .inr ⟨kvs, e _ _ h, q⟩
mutual
theorem RW.mono {K : PySem.W.Frag} {g g' : G} (l : g.le g') : ∀ (w : W) (v : V), RW K g w v → RW K g' w v
  | .non, _, h => by unfold RW at h ⊢; exact h
  | .bl _, _, h => by unfold RW at h ⊢; exact h
  | .int _, _, h => by unfold RW at h ⊢; exact h
  | .str _, _, h => by unfold RW at h ⊢; exact h
  | .tup ws, _, h => by
    unfold RW at h ⊢
    obtain ⟨a, vs, e, s, r⟩ := h
    exact ⟨a, vs, e, l.F _ _ s, RWs.mono l ws vs r⟩
  | .kt ws, _, h => by
    unfold RW at h ⊢
    obtain ⟨a, vs, e, s, r⟩ := h
    exact ⟨a, vs, e, sqT_mono l.F s, RWs.mono l ws vs r⟩
  | .lst ws, _, h => by
    unfold RW at h ⊢
    obtain ⟨a, vs, e, s, r⟩ := h
    exact ⟨a, vs, e, l.F _ _ s, RWs.mono l ws vs r⟩
  | .dic ks ws, _, h => by
    unfold RW at h ⊢
    obtain ⟨a, vs, e, s, r⟩ := h
    exact ⟨a, vs, e, dctH_mono l.F s, RWs.mono l ws vs r⟩
  | .box n, _, h => by
    unfold RW at h ⊢
    exact ⟨Nat.lt_of_lt_of_le h.1 l.nx, by rw [l.ρ n h.1]; exact h.2⟩
  | .scr ns, _, h => by
    unfold RW at h ⊢
    obtain ⟨a, e, s⟩ := h
    exact ⟨a, e, l.F.seq s⟩
  | .tx ys, _, h => by
    unfold RW at h ⊢
    obtain ⟨a, e, s⟩ := h
    exact ⟨a, e, l.F _ _ s⟩
theorem RWs.mono {K : PySem.W.Frag} {g g' : G} (l : g.le g') : ∀ (ws : List W) (vs : List V), RWs K g ws vs → RWs K g' ws vs
  | [], _, h => by unfold RWs at h ⊢; exact h
  | w :: ws, _, h => by
    unfold RWs at h ⊢
    obtain ⟨v, vr, e, r, rs⟩ := h
    exact ⟨v, vr, e, RW.mono l w v r, RWs.mono l ws vr rs⟩
end
theorem RWs.cons {K : PySem.W.Frag} {g : G} {w : W} {v : V} {ws : List W} {vs : List V} (a : RW K g w v) (b : RWs K g ws vs) : RWs K g (w :: ws) (v :: vs) := by
  unfold RWs; exact ⟨v, vs, rfl, a, b⟩
theorem RWs.nil {K : PySem.W.Frag} {g : G} : RWs K g [] [] := by unfold RWs; rfl
theorem RWs.len {K : PySem.W.Frag} {g : G} : ∀ {ws : List W} {vs : List V}, RWs K g ws vs → ws.length = vs.length
  | [], _, h => by unfold RWs at h; rw [h]; rfl
  | w :: ws, _, h => by
    unfold RWs at h
    obtain ⟨v, vr, e, _, rs⟩ := h
    rw [e, List.length_cons, List.length_cons, RWs.len rs]
theorem RWs.get {K : PySem.W.Frag} {g : G} : ∀ {ws : List W} {vs : List V} {i : Nat} {w : W}, RWs K g ws vs → ws[i]? = some w → ∃ v, vs[i]? = some v ∧ RW K g w v
  | [], _, _, _, _, e => by simp at e
  | w :: ws, _, i, w', h, e => by
    unfold RWs at h
    obtain ⟨v, vr, e1, r, rs⟩ := h
    subst e1
    cases i with
    | zero => simp at e; subst e; exact ⟨v, rfl, r⟩
    | succ i => simpa using RWs.get (i := i) rs (by simpa using e)
theorem RWs.getV {K : PySem.W.Frag} {g : G} : ∀ {ws : List W} {vs : List V} {i : Nat} {v : V}, RWs K g ws vs → vs[i]? = some v → ∃ w, ws[i]? = some w ∧ RW K g w v
  | [], _, _, _, h, e => by unfold RWs at h; subst h; simp at e
  | w :: ws, _, i, v', h, e => by
    unfold RWs at h
    obtain ⟨v, vr, e1, r, rs⟩ := h
    subst e1
    cases i with
    | zero => simp at e; subst e; exact ⟨w, rfl, r⟩
    | succ i => simpa using RWs.getV (i := i) rs (by simpa using e)
theorem RWs.app {K : PySem.W.Frag} {g : G} : ∀ {ws : List W} {vs : List V} {ws' : List W} {vs' : List V}, RWs K g ws vs → RWs K g ws' vs' → RWs K g (ws ++ ws') (vs ++ vs')
  | [], _, _, _, h, r => by unfold RWs at h; subst h; exact r
  | w :: ws, _, _, _, h, r => by
    unfold RWs at h
    obtain ⟨v, vr, e1, r1, rs⟩ := h
    subst e1
    exact .cons r1 (RWs.app rs r)
theorem RWs.set {K : PySem.W.Frag} {g : G} {w : W} {v : V} (r : RW K g w v) : ∀ {ws : List W} {vs : List V} (i : Nat), RWs K g ws vs → RWs K g (ws.set i w) (vs.set i v)
  | [], _, _, h => by unfold RWs at h; subst h; exact .nil
  | w' :: ws, _, i, h => by
    unfold RWs at h
    obtain ⟨v', vr, e1, r1, rs⟩ := h
    subst e1
    cases i with
    | zero => exact .cons r rs
    | succ i => exact .cons r1 (RWs.set r i rs)
theorem RWs.ints {K : PySem.W.Frag} {g : G} : ∀ (ns : List Int), RWs K g (ns.map W.int) (ns.map V.int)
  | [] => .nil
  | n :: ns => .cons (by unfold RW; rfl) (RWs.ints ns)

/-! ### the program's context -/
structure Γ where
  K : PySem.W.Frag
  cls : Nat → Addr
  /-- the tables of code objects, the names of theirs -/
  tabs : List (Addr × Str)
/-- what is frozen stands -/
def IsDct : HO → Prop
  | .dK _ => True | .dT _ => True | _ => False
def Below (F H : Hp) : Prop := ∀ a u, F a = some u → H a = some u ∨ (IsDct u ∧ ∃ o, H a = some (.frz o u))
def CellOk (Γ : Γ) (g : G) (H : Hp) (a : Addr) : Ct → Prop
  | .lst ws => ∃ vs, H a = some (.lst vs) ∧ RWs Γ.K g ws vs
  | .dic ks ws => ∃ vs, DctH H a ks vs ∧ RWs Γ.K g ws vs
  | .lck ks ws => ∃ vs, DctL H a ks vs ∧ RWs Γ.K g ws vs
  | .ins c ks ws => ∃ dx vs, ks.length = vs.length ∧ H a = some (.ins (Γ.cls c) dx (ks.zip vs)) ∧ RWs Γ.K g ws vs
/-- no table of code objects, nothing told by what is true of it -/
def NT : HO → Prop
  | .tbl _ => False | .ext _ => False | _ => True
def NB : HO → Prop
  | .tbl _ => False | _ => True
def NH : HO → Prop
  | .tbl _ => False | .ext _ => False | .frz _ _ => False | .tup _ => False | _ => True
theorem NH.nt {o : HO} (h : NH o) : NT o := by
  cases o <;> first | exact h | trivial
def IsFrz : HO → Prop
  | .frz _ u => IsDct u | _ => False
theorem IsFrz.nt {o : HO} (h : IsFrz o) : NT o := by
  cases o <;> first | exact h.elim | trivial
theorem NT.nb {o : HO} (h : NT o) : NB o := by
  cases o <;> first | exact h | trivial
theorem tabs_upd {T : List (Addr × Str)} {H : Hp} {a : Addr} {o' : HO} (t : LamX.Tabs T H) (ha : ∀ o, H a = some o → NT o) : LamX.Tabs T (upd H a o') := fun P hP => by
  obtain ⟨ps, h1, h2, h3⟩ := t P hP
  have ne : ∀ (b : Addr) (o : HO), H b = some o → ¬ NT o → upd H a o' b = some o := fun b o e n => by
    rw [upd_ne (fun z => n (ha o (by rw [← z]; exact e)))]
    exact e
  refine ⟨ps, ne _ _ h1 (fun z => z), h2, fun pos cv hc => ?_⟩
  obtain ⟨c, e1, e2⟩ := h3 pos cv hc
  exact ⟨c, e1, ne _ _ e2 (fun z => by unfold LamX.CodeO at z; exact z)⟩
structure RH (Γ : Γ) (g : G) (h : HS) (H : Hp) : Prop where
  fr : Below g.F H
  nx : g.nx = h.nx
  inj : ∀ m n, m < g.nx → n < g.nx → g.ρ m = g.ρ n → m = n
  tr : ∀ n, n < g.nx → ∃ o, H (g.ρ n) = some o ∧ NT o
  cell : ∀ n c, h.at_ n = some c → n < g.nx ∧ g.F (g.ρ n) = none ∧ CellOk Γ g H (g.ρ n) c
  tab : LamX.Tabs Γ.tabs H
  nt : ∀ a o, g.F a = some o → NB o
  hd : ∀ a o, g.hid a = some o → H a = some o ∧ NH o ∧ g.F a = none ∧ ∀ n, n < g.nx → g.ρ n ≠ a
  lks : ∀ a o, g.lk a = some o → H a = some o ∧ IsFrz o
  lkc : ∀ n ks ws, h.at_ n = some (.lck ks ws) → ∃ o, g.lk (g.ρ n) = some o
def SLk (Γ : Γ) (g : G) (sl : Sl) (σ : St) : Prop := ∀ (i : Nat) (w : W), sl[i]? = some (some w) → ∃ v, σ[i]? = some (some v) ∧ RW Γ.K g w v
theorem SLk.mono {Γ : Γ} {g g' : G} {sl : Sl} {σ : St} (l : g.le g') (h : SLk Γ g sl σ) : SLk Γ g' sl σ := fun i w e => by
  obtain ⟨v, e1, r⟩ := h i w e
  exact ⟨v, e1, RW.mono l _ _ r⟩
theorem SLk.set {Γ : Γ} {g : G} {sl : Sl} {σ : St} {i : Nat} {w : W} {v : V} (h : SLk Γ g sl σ) (r : RW Γ.K g w v) (hi : i < σ.length) : SLk Γ g (sl.set i (some w)) (σ.set i (some v)) := fun j w' e => by
  by_cases hj : i = j
  · subst hj
    by_cases hl : i < sl.length
    · rw [List.getElem?_set_self hl] at e
      cases e
      exact ⟨v, List.getElem?_set_self hi, r⟩
    · rw [List.getElem?_eq_none_iff.mpr (by rw [List.length_set]; omega)] at e
      cases e
  · rw [List.getElem?_set_ne hj] at e
    obtain ⟨v', e1, r1⟩ := h j w' e
    exact ⟨v', by rw [List.getElem?_set_ne hj]; exact e1, r1⟩

/-! ### readings -/
abbrev WX := L2.WX
def Rz {α β : Type} (Γ : Γ) (Wx : WX) (Rl : G → α → β → Prop) (g : G) (r : R α) (σ : St) (Q : β → Hp → Prop) : Prop := match r with
  | .ok w h' => ∀ g' v H', g.le g' → RH Γ g' h' H' → Rl g' w v → Q v H'
  | .exc c h' => ∀ g' H', g.le g' → RH Γ g' h' H' → Wx (.ref (Γ.cls c)) none σ H'
  | .no => False
def RDE (Γ : Γ) (Wx : WX) (f : Ex) : TE := fun σ H Q => ∃ g sl h, RH Γ g h H ∧ SLk Γ g sl σ ∧ Rz Γ Wx (RW Γ.K) g (f sl h) σ Q
def RDT (Γ : Γ) (Wx : WX) (f : Tx) : TT := fun σ H Q => ∃ g sl h, RH Γ g h H ∧ SLk Γ g sl σ ∧ Rz Γ Wx (fun _ (a b : Bool) => a = b) g (f sl h) σ Q
def RDA (Γ : Γ) (Wx : WX) (f : Ax) : TA := fun σ H Q => ∃ g sl h, RH Γ g h H ∧ SLk Γ g sl σ ∧ Rz Γ Wx (RWs Γ.K) g (f sl h) σ Q
def RzS (Γ : Γ) (Wx : WX) (g : G) (n : Nat) (r : RS) (D : Ends) : Prop := match r with
  | .nx sl h => ∀ g' σ' H', g.le g' → RH Γ g' h H' → SLk Γ g' sl σ' → σ'.length = n → D.nx σ' H'
  | .bk sl h => ∀ g' σ' H', g.le g' → RH Γ g' h H' → SLk Γ g' sl σ' → σ'.length = n → D.bk σ' H'
  | .ct sl h => ∀ g' σ' H', g.le g' → RH Γ g' h H' → SLk Γ g' sl σ' → σ'.length = n → D.ct σ' H'
  | .rt w h => ∀ g' v H', g.le g' → RH Γ g' h H' → RW Γ.K g' w v → D.rt v H'
  | .exc c sl h => ∀ g' σ' H', g.le g' → RH Γ g' h H' → SLk Γ g' sl σ' → σ'.length = n → Wx (.ref (Γ.cls c)) none σ' H'
  | .no => False
def RDS (Γ : Γ) (Wx : WX) (f : Sx) : TS := fun D σ H => ∃ g sl h, RH Γ g h H ∧ SLk Γ g sl σ ∧ RzS Γ Wx g σ.length (f sl h) D

section
variable {Γ : Γ} {Wx : WX} {g : G} {h : HS} {H : Hp} {sl : Sl} {σ : St}
theorem Rz.le {α β : Type} {Rl : G → α → β → Prop} {g g' : G} {r : R α} {Q : β → Hp → Prop} (l : g.le g') (x : Rz Γ Wx Rl g r σ Q) : Rz Γ Wx Rl g' r σ Q := by
  cases r with
  | ok w h => exact fun g2 v H' l2 => x g2 v H' (l.trans l2)
  | exc c h => exact fun g2 H' l2 => x g2 H' (l.trans l2)
  | no => exact x
theorem Rz.mono {α β : Type} {Rl : G → α → β → Prop} {g : G} {r : R α} {Q Q' : β → Hp → Prop} (q : ∀ v H, Q v H → Q' v H) (x : Rz Γ Wx Rl g r σ Q) : Rz Γ Wx Rl g r σ Q' := by
  cases r with
  | ok w h => exact fun g2 v H' l2 a b => q _ _ (x g2 v H' l2 a b)
  | exc c h => exact x
  | no => exact x
theorem RDE.mono {f : Ex} {Q Q' : VK} (q : ∀ v H, Q v H → Q' v H) : RDE Γ Wx f σ H Q → RDE Γ Wx f σ H Q' := fun ⟨g, sl, h, a, b, c⟩ => ⟨g, sl, h, a, b, c.mono q⟩
theorem RDA.mono {f : Ax} {Q Q' : List V → Hp → Prop} (q : ∀ v H, Q v H → Q' v H) : RDA Γ Wx f σ H Q → RDA Γ Wx f σ H Q' := fun ⟨g, sl, h, a, b, c⟩ => ⟨g, sl, h, a, b, c.mono q⟩
theorem RDT.mono {f : Tx} {Q Q' : Bool → Hp → Prop} (q : ∀ v H, Q v H → Q' v H) : RDT Γ Wx f σ H Q → RDT Γ Wx f σ H Q' := fun ⟨g, sl, h, a, b, c⟩ => ⟨g, sl, h, a, b, c.mono q⟩
/-- a part runs, the rest is still to come -/
theorem rz_step {α β α' β' : Type} {Rl : G → α → β → Prop} {Rl' : G → α' → β' → Prop} {r : R α} {k : α → HS → R α'} {Q : β' → Hp → Prop} (x : Rz Γ Wx Rl' g (r.bind k) σ Q) :
    Rz Γ Wx Rl g r σ fun v H1 => ∃ g1 h1 w, g.le g1 ∧ RH Γ g1 h1 H1 ∧ Rl g1 w v ∧ Rz Γ Wx Rl' g1 (k w h1) σ Q := by
  cases r with
  | ok w h => exact fun g' v H' l a b => ⟨g', h, w, l, a, b, Rz.le l x⟩
  | exc c h => exact x
  | no => exact x
theorem RDE.step {f : Ex} {α' β' : Type} {Rl' : G → α' → β' → Prop} {k : W → HS → R α'} {Q : β' → Hp → Prop} (a : RH Γ g h H) (b : SLk Γ g sl σ) (x : Rz Γ Wx Rl' g ((f sl h).bind k) σ Q) :
    RDE Γ Wx f σ H fun v H1 => ∃ g1 h1 w, g.le g1 ∧ RH Γ g1 h1 H1 ∧ RW Γ.K g1 w v ∧ Rz Γ Wx Rl' g1 (k w h1) σ Q := ⟨g, sl, h, a, b, rz_step x⟩
theorem RDA.step {f : Ax} {α' β' : Type} {Rl' : G → α' → β' → Prop} {k : List W → HS → R α'} {Q : β' → Hp → Prop} (a : RH Γ g h H) (b : SLk Γ g sl σ) (x : Rz Γ Wx Rl' g ((f sl h).bind k) σ Q) :
    RDA Γ Wx f σ H fun v H1 => ∃ g1 h1 w, g.le g1 ∧ RH Γ g1 h1 H1 ∧ RWs Γ.K g1 w v ∧ Rz Γ Wx Rl' g1 (k w h1) σ Q := ⟨g, sl, h, a, b, rz_step x⟩
theorem RDT.step {f : Tx} {α' β' : Type} {Rl' : G → α' → β' → Prop} {k : Bool → HS → R α'} {Q : β' → Hp → Prop} (a : RH Γ g h H) (b : SLk Γ g sl σ) (x : Rz Γ Wx Rl' g ((f sl h).bind k) σ Q) :
    RDT Γ Wx f σ H fun v H1 => ∃ g1 h1 w, g.le g1 ∧ RH Γ g1 h1 H1 ∧ w = v ∧ Rz Γ Wx Rl' g1 (k w h1) σ Q := ⟨g, sl, h, a, b, rz_step x⟩
theorem rzS_le {g g' : G} {n : Nat} {r : RS} {D : Ends} (l : g.le g') (x : RzS Γ Wx g n r D) : RzS Γ Wx g' n r D := by
  cases r with
  | nx s h => exact fun g2 σ' H' l2 => x g2 σ' H' (l.trans l2)
  | bk s h => exact fun g2 σ' H' l2 => x g2 σ' H' (l.trans l2)
  | ct s h => exact fun g2 σ' H' l2 => x g2 σ' H' (l.trans l2)
  | rt w h => exact fun g2 v H' l2 => x g2 v H' (l.trans l2)
  | exc c s h => exact fun g2 σ' H' l2 => x g2 σ' H' (l.trans l2)
  | no => exact x
theorem rz_st {α β : Type} {Rl : G → α → β → Prop} {r : R α} {k : α → HS → RS} {D : Ends} (s : SLk Γ g sl σ) (x : RzS Γ Wx g σ.length (r.st sl k) D) :
    Rz Γ Wx Rl g r σ fun v H1 => ∃ g1 h1 w, g.le g1 ∧ RH Γ g1 h1 H1 ∧ Rl g1 w v ∧ RzS Γ Wx g1 σ.length (k w h1) D := by
  cases r with
  | ok w h => exact fun g' v H' l a b => ⟨g', h, w, l, a, b, rzS_le l x⟩
  | exc c h => exact fun g' H' l a => x g' σ H' l a (SLk.mono l s) rfl
  | no => exact x
end
theorem PE.imp {X : Cx} {e : Expr} {t t' : TE} (a : PE X e t) (q : ∀ σ H Q, t' σ H Q → t σ H Q) : PE X e t' := ⟨fun pins s σ H Q I h => a.run pins s σ H Q I (q _ _ _ h)⟩
theorem PT.imp {X : Cx} {e : Expr} {t t' : TT} (a : PT X e t) (q : ∀ σ H Q, t' σ H Q → t σ H Q) : PT X e t' := ⟨fun pins s σ H Q I h => a.run pins s σ H Q I (q _ _ _ h)⟩
theorem PA.imp {X : Cx} {e : List Expr} {t t' : TA} (a : PA X e t) (q : ∀ σ H Q, t' σ H Q → t σ H Q) : PA X e t' := ⟨fun pos pins s σ H Q I h => a.run pos pins s σ H Q I (q _ _ _ h)⟩
theorem PS.imp {X : Cx} {e : Stmt} {t t' : TS} (a : PS X e t) (q : ∀ D σ H, t' D σ H → t D σ H) : PS X e t' := ⟨fun pins s σ H D I h => a.run pins s σ H D I (q _ _ _ h)⟩
theorem PSs.imp {X : Cx} {e : List Stmt} {t t' : TS} (a : PSs X e t) (q : ∀ D σ H, t' D σ H → t D σ H) : PSs X e t' := ⟨fun pins s σ H D I h => a.run pins s σ H D I (q _ _ _ h)⟩
end Pk
end

/-! PkB -/
section
set_option Elab.async false
set_option linter.all false
set_option maxRecDepth 100000
namespace Pk
open PySem PySem.Spec L2
section
variable {Γ : Γ} {Wx : WX} {g : G} {h : HS} {H : Hp} {sl : Sl} {σ : L2.St}

theorem DctH.ne {H : Hp} {a : Addr} {ks : List DK} {vs : List V} (d : DctH H a ks vs) : ∃ o, H a = some o ∧ NT o := by
  rcases d with ⟨kvs, e, _⟩ | ⟨kvs, e, _⟩
  · exact ⟨_, e, trivial⟩
  · exact ⟨_, e, trivial⟩
theorem CellOk.at {g : G} {H : Hp} {a : Addr} {c : Ct} (x : CellOk Γ g H a c) : ∃ o, H a = some o ∧ NT o := by
  cases c with
  | lst ws => obtain ⟨vs, e, _⟩ := x; exact ⟨_, e, trivial⟩
  | dic ks ws => obtain ⟨vs, d, _⟩ := x; exact d.ne
  | lck ks ws =>
    obtain ⟨vs, d, _⟩ := x
    rcases d with ⟨o, kvs, e, _⟩ | ⟨o, kvs, e, _⟩
    · exact ⟨_, e, trivial⟩
    · exact ⟨_, e, trivial⟩
  | ins c ks ws => obtain ⟨dx, vs, _, e, _⟩ := x; exact ⟨_, e, trivial⟩
theorem CellOk.mono {g g' : G} {H H' : Hp} {a : Addr} {c : Ct} (l : g.le g') (e : H' a = H a) (x : CellOk Γ g H a c) : CellOk Γ g' H' a c := by
  cases c with
  | lst ws => obtain ⟨vs, q, r⟩ := x; exact ⟨vs, e.trans q, RWs.mono l _ _ r⟩
  | dic ks ws =>
    obtain ⟨vs, d, r⟩ := x
    refine ⟨vs, ?_, RWs.mono l _ _ r⟩
    rcases d with ⟨kvs, q, z⟩ | ⟨kvs, q, z⟩
    · exact .inl ⟨kvs, e.trans q, z⟩
    · exact .inr ⟨kvs, e.trans q, z⟩
  | lck ks ws =>
    obtain ⟨vs, d, r⟩ := x
    refine ⟨vs, ?_, RWs.mono l _ _ r⟩
    rcases d with ⟨o, kvs, q, z⟩ | ⟨o, kvs, q, z⟩
    · exact .inl ⟨o, kvs, e.trans q, z⟩
    · exact .inr ⟨o, kvs, e.trans q, z⟩
  | ins c ks ws => obtain ⟨dx, vs, z, q, r⟩ := x; exact ⟨dx, vs, z, e.trans q, RWs.mono l _ _ r⟩

mutual
theorem rw_hid {K : PySem.W.Frag} {g g' : G} (e1 : g'.nx = g.nx) (e2 : g'.ρ = g.ρ) (e3 : g'.F = g.F) : ∀ {w : W} {v : V}, RW K g w v → RW K g' w v
  | .non, _, h => by unfold RW at h ⊢; exact h
  | .bl _, _, h => by unfold RW at h ⊢; exact h
  | .int _, _, h => by unfold RW at h ⊢; exact h
  | .str _, _, h => by unfold RW at h ⊢; exact h
  | .tup ws, _, h => by
    unfold RW at h ⊢
    obtain ⟨a, vs, e, s, r⟩ := h
    exact ⟨a, vs, e, by rw [e3]; exact s, rws_hid e1 e2 e3 r⟩
  | .kt ws, _, h => by
    unfold RW at h ⊢
    obtain ⟨a, vs, e, s, r⟩ := h
    exact ⟨a, vs, e, by rw [e3]; exact s, rws_hid e1 e2 e3 r⟩
  | .lst ws, _, h => by
    unfold RW at h ⊢
    obtain ⟨a, vs, e, s, r⟩ := h
    exact ⟨a, vs, e, by rw [e3]; exact s, rws_hid e1 e2 e3 r⟩
  | .dic ks ws, _, h => by
    unfold RW at h ⊢
    obtain ⟨a, vs, e, s, r⟩ := h
    exact ⟨a, vs, e, by rw [e3]; exact s, rws_hid e1 e2 e3 r⟩
  | .box n, _, h => by
    unfold RW at h ⊢
    rw [e1, e2]; exact h
  | .scr ns, _, h => by
    unfold RW at h ⊢
    obtain ⟨a, e, s⟩ := h
    exact ⟨a, e, by rw [e3]; exact s⟩
  | .tx ys, _, h => by
    unfold RW at h ⊢
    obtain ⟨a, e, s⟩ := h
    exact ⟨a, e, by rw [e3]; exact s⟩
theorem rws_hid {K : PySem.W.Frag} {g g' : G} (e1 : g'.nx = g.nx) (e2 : g'.ρ = g.ρ) (e3 : g'.F = g.F) : ∀ {ws : List W} {vs : List V}, RWs K g ws vs → RWs K g' ws vs
  | [], _, h => by unfold RWs at h ⊢; exact h
  | w :: ws, _, h => by
    unfold RWs at h ⊢
    obtain ⟨v, vr, e, r, rs⟩ := h
    exact ⟨v, vr, e, rw_hid e1 e2 e3 r, rws_hid e1 e2 e3 rs⟩
end
theorem RH.noF (x : RH Γ g h H) {p : Addr} (hp : H p = none) : g.F p = none := by
  cases q : g.F p with
  | none => rfl
  | some u =>
    rcases x.fr p u q with z | ⟨_, o, z⟩
    · rw [hp] at z; cases z
    · rw [hp] at z; cases z
theorem RH.rneq (x : RH Γ g h H) {p : Addr} (hp : H p = none) {n : Nat} (hn : n < g.nx) : g.ρ n ≠ p := fun e => by
  obtain ⟨o, q, _⟩ := x.tr n hn
  rw [e, hp] at q
  cases q
/-- a new object that is tracked, no more -/
theorem RH.aux (x : RH Γ g h H) {p : Addr} (hp : H p = none) (o : HO) : RH Γ g h (upd H p o) := by
  have keep : ∀ a u, H a = some u → upd H p o a = some u := fun a u e => by rw [upd_ne (ne_of_none e hp)]; exact e
  refine ⟨fun a u e => ?_, x.nx, x.inj, fun n hn => ?_, fun n c e => ?_, tabs_upd x.tab (fun o e => by rw [hp] at e; cases e), x.nt, fun a o' e => ?_, fun a o' e => ⟨keep _ _ (x.lks a o' e).1, (x.lks a o' e).2⟩, x.lkc⟩
  · rcases x.fr a u e with z | ⟨d, o', z⟩
    · exact .inl (keep _ _ z)
    · exact .inr ⟨d, o', keep _ _ z⟩
  · obtain ⟨o', q, no⟩ := x.tr n hn
    exact ⟨o', keep _ _ q, no⟩
  · obtain ⟨a, b, c'⟩ := x.cell n c e
    exact ⟨a, b, c'.mono (.refl g) (upd_ne (x.rneq hp a))⟩
  · obtain ⟨h1, h2⟩ := x.hd a o' e
    exact ⟨keep _ _ h1, h2⟩
theorem nt_frz {F : Hp} {p : Addr} {o : HO} (h : ∀ a u, F a = some u → NB u) (no : NB o) : ∀ a u, upd F p o a = some u → NB u := fun a u e => by
  by_cases ha : a = p
  · rw [ha, upd_same] at e
    cases e
    exact no
  · rw [upd_ne ha] at e
    exact h a u e
/-- the tables grow -/
theorem RH.tabs {H1 : Hp} (x : RH Γ g h H) (e : LamX.ExtN H H1) (t : LamX.Tabs Γ.tabs H1) : RH Γ g h H1 := by
  have ex : ∀ a o, H a = some o → NB o → H1 a = some o := fun a o q n => e a o q fun ps z => by rw [z] at n; exact n
  refine ⟨fun a u q => ?_, x.nx, x.inj, fun n hn => ?_, fun n c q => ?_, t, x.nt, fun a o q => ?_, fun a o e => ⟨ex _ _ (x.lks a o e).1 (x.lks a o e).2.nt.nb, (x.lks a o e).2⟩, x.lkc⟩
  · rcases x.fr a u q with z | ⟨d, o', z⟩
    · exact .inl (ex _ _ z (x.nt _ _ q))
    · exact .inr ⟨d, o', ex _ _ z trivial⟩
  · obtain ⟨o, q, n⟩ := x.tr n hn
    exact ⟨o, ex _ _ q n.nb, n⟩
  · obtain ⟨q1, q2, q3⟩ := x.cell n c q
    obtain ⟨o, e1, n1⟩ := q3.at
    exact ⟨q1, q2, q3.mono (.refl g) ((ex _ _ e1 n1.nb).trans e1.symm)⟩
  · obtain ⟨h1, h2, h3, h4⟩ := x.hd a o q
    exact ⟨ex _ _ h1 h2.nt.nb, h2, h3, h4⟩
/-- a new object that is frozen -/
def G.frz (g : G) (p : Addr) (o : HO) : G := { g with F := upd g.F p o }
theorem RH.frz (x : RH Γ g h H) {p : Addr} (hp : H p = none) (o : HO) (no : NB o := by trivial) : g.le (g.frz p o) ∧ RH Γ (g.frz p o) h (upd H p o) ∧ (g.frz p o).F p = some o := by
  have hF := x.noF hp
  have l : g.le (g.frz p o) := ⟨Nat.le_refl _, fun _ _ => rfl, fun a u e => by
    show upd g.F p o a = some u
    rw [upd_ne (ne_of_none e hF)]; exact e, Same.refl _, Same.refl _⟩
  have y := x.aux hp o
  refine ⟨l, ⟨fun a u e => ?_, x.nx, x.inj, y.tr, fun n c e => ?_, y.tab, nt_frz x.nt no, fun a o' e => ?_, y.lks, y.lkc⟩, upd_same⟩
  · by_cases ha : a = p
    · subst ha
      have e' : upd g.F a o a = some u := e
      rw [upd_same] at e'
      cases e'
      exact .inl upd_same
    · have e' : upd g.F p o a = some u := e
      rw [upd_ne ha] at e'
      exact y.fr a u e'
  · obtain ⟨a, b, c'⟩ := y.cell n c e
    refine ⟨a, ?_, c'.mono l rfl⟩
    show upd g.F p o (g.ρ n) = none
    rw [upd_ne (x.rneq hp a)]
    exact b
  · obtain ⟨h1, h2, h3, h4⟩ := y.hd a o' e
    refine ⟨h1, h2, ?_, h4⟩
    show upd g.F p o a = none
    rw [upd_ne (ne_of_none (x.hd a o' e).1 hp)]
    exact h3
/-- a thing told by what is true of its one object is kept from now on -/
theorem RH.ext (x : RH Γ g h H) {p : Addr} {φ : Heap → Prop} (e : H p = some (.ext φ)) : ∃ g2 : G, g.le g2 ∧ RH Γ g2 h H ∧ g2.F p = some (.ext φ) := by
  cases q : g.F p with
  | some u =>
    refine ⟨g, .refl g, x, ?_⟩
    rcases x.fr p u q with z | ⟨d, o', z⟩
    · rw [e] at z; cases z; exact q
    · rw [e] at z; cases z
  | none =>
    have l : g.le (g.frz p (.ext φ)) := ⟨Nat.le_refl _, fun _ _ => rfl, fun a u z => by
      show upd g.F p (.ext φ) a = some u
      rw [upd_ne (ne_of_none z q)]; exact z, Same.refl _, Same.refl _⟩
    refine ⟨g.frz p (.ext φ), l, ⟨fun a u z => ?_, x.nx, x.inj, x.tr, fun n c z => ?_, x.tab, nt_frz x.nt trivial, fun a o z => ?_, x.lks, x.lkc⟩, upd_same⟩
    · have z : upd g.F p (.ext φ) a = some u := z
      by_cases ha : a = p
      · rw [ha, upd_same] at z
        cases z
        exact .inl (by rw [ha]; exact e)
      · rw [upd_ne ha] at z
        exact x.fr a u z
    · obtain ⟨q1, q2, q3⟩ := x.cell n c z
      obtain ⟨o, e1, n1⟩ := q3.at
      refine ⟨q1, ?_, q3.mono l rfl⟩
      show upd g.F p (.ext φ) (g.ρ n) = none
      rw [upd_ne (fun z => by rw [z, e] at e1; cases e1; exact n1)]
      exact q2
    · obtain ⟨h1, h2, h3, h4⟩ := x.hd a o z
      refine ⟨h1, h2, ?_, h4⟩
      show upd g.F p (.ext φ) a = none
      rw [upd_ne (fun z => by rw [z, e] at h1; cases h1; exact h2.nt)]
      exact h3
/-- a new box -/
def G.box (g : G) (p : Addr) : G := { g with nx := g.nx + 1, ρ := fun n => if n = g.nx then p else g.ρ n }
theorem G.box_le (g : G) (p : Addr) : g.le (g.box p) := ⟨Nat.le_succ _, fun n hn => if_neg (Nat.ne_of_lt hn), Same.refl _, Same.refl _, Same.refl _⟩
theorem RH.box (x : RH Γ g h H) {p : Addr} {o : HO} {c : Ct} (hp : H p = none) (hc : CellOk Γ g (upd H p o) p c) (nl : ∀ ks ws, c ≠ .lck ks ws := by intro _ _ z; cases z) : g.le (g.box p) ∧ RH Γ (g.box p) (h.new c) (upd H p o) ∧ RW Γ.K (g.box p) (.box h.nx) (.ref p) := by
  have l := g.box_le p
  have y := x.aux hp o
  have hnx := x.nx
  have r0 : (g.box p).ρ g.nx = p := if_pos rfl
  have rl : ∀ n, n < g.nx → (g.box p).ρ n = g.ρ n := l.ρ
  refine ⟨l, ⟨y.fr, by show g.nx + 1 = h.nx + 1; rw [hnx], fun m n hm hn e => ?_, fun n hn => ?_, fun n c' e => ?_, y.tab, y.nt, fun a o' e => ?_, y.lks, fun n ks ws e => by
    have e' : (if n = h.nx then some c else h.at_ n) = some (.lck ks ws) := e
    by_cases b : n = h.nx
    · rw [if_pos b] at e'
      exact absurd (Option.some.inj e') (nl ks ws)
    · rw [if_neg b] at e'
      rw [show (g.box p).ρ n = g.ρ n from rl n (x.cell n _ e').1]
      exact x.lkc n ks ws e'⟩, ?_⟩
  · have hm' : m < g.nx + 1 := hm
    have hn' : n < g.nx + 1 := hn
    by_cases a : m = g.nx
    · by_cases b : n = g.nx
      · rw [a, b]
      · rw [a, r0, rl n (by omega)] at e
        exact absurd e.symm (x.rneq hp (by omega))
    · by_cases b : n = g.nx
      · rw [b, r0, rl m (by omega)] at e
        exact absurd e (x.rneq hp (by omega))
      · rw [rl m (by omega), rl n (by omega)] at e
        exact x.inj m n (by omega) (by omega) e
  · have hn' : n < g.nx + 1 := hn
    by_cases b : n = g.nx
    · rw [b, r0]; exact ⟨o, upd_same, (by obtain ⟨o1, e1, n1⟩ := hc.at; rw [upd_same] at e1; cases e1; exact n1)⟩
    · rw [rl n (by omega)]; exact y.tr n (by omega)
  · have e' : (if n = h.nx then some c else h.at_ n) = some c' := e
    by_cases b : n = h.nx
    · rw [if_pos b] at e'
      cases e'
      rw [b, ← hnx, r0]
      exact ⟨Nat.lt_succ_self _, x.noF hp, hc.mono l rfl⟩
    · rw [if_neg b] at e'
      obtain ⟨q1, q2, q3⟩ := y.cell n c' e'
      rw [rl n q1]
      exact ⟨Nat.lt_succ_of_lt q1, q2, q3.mono l rfl⟩
  · obtain ⟨h1, h2, h3, h4⟩ := y.hd a o' e
    refine ⟨h1, h2, h3, fun n hn => ?_⟩
    have hn' : n < g.nx + 1 := hn
    by_cases b : n = g.nx
    · rw [b, r0]
      exact (ne_of_none (x.hd a o' e).1 hp).symm
    · rw [rl n (by omega)]
      exact h4 n (by omega)
  · unfold RW
    rw [← hnx, r0]
    exact ⟨Nat.lt_succ_self _, rfl⟩
theorem nh_nf {o : HO} (h : NH o) (f : IsFrz o) : False := by
  cases o <;> first | exact f | exact h
theorem nofrz {H : Hp} {a : Addr} {c : Ct} {o : HO} (ok : CellOk Γ g H a c) (nl : ∀ ks ws, c ≠ .lck ks ws) (e : H a = some o) (f : IsFrz o) : False := by
  cases c with
  | lst ws => obtain ⟨vs, q, _⟩ := ok; rw [q] at e; cases e; exact f
  | ins c ks ws => obtain ⟨dx, vs, _, q, _⟩ := ok; rw [q] at e; cases e; exact f
  | lck ks ws => exact nl ks ws rfl
  | dic ks ws =>
    obtain ⟨vs, d, _⟩ := ok
    rcases d with ⟨kvs, q, _⟩ | ⟨kvs, q, _⟩
    · rw [q] at e; cases e; exact f
    · rw [q] at e; cases e; exact f
/-- a box is written -/
theorem RH.put (x : RH Γ g h H) {n : Nat} {c c' : Ct} {o : HO} (e : h.at_ n = some c) (hc : CellOk Γ g (upd H (g.ρ n) o) (g.ρ n) c') (nl : ∀ ks ws, c ≠ .lck ks ws := by intro _ _ z; cases z) (nl' : ∀ ks ws, c' ≠ .lck ks ws := by intro _ _ z; cases z) : RH Γ g (h.put n c') (upd H (g.ρ n) o) := by
  obtain ⟨hn, hF, ok⟩ := x.cell n c e
  obtain ⟨o0, ho, nt⟩ := ok.at
  refine ⟨fun a u q => ?_, x.nx, x.inj, fun m hm => ?_, fun m c2 q => ?_, tabs_upd x.tab (fun o e => by rw [ho] at e; cases e; exact nt), x.nt, fun a o' q => ?_, fun a o' q => ?_, fun m ks ws q => ?_⟩
  · have na : a ≠ g.ρ n := fun z => by rw [z, hF] at q; cases q
    rcases x.fr a u q with z | ⟨d, o', z⟩
    · exact .inl (by rw [upd_ne na]; exact z)
    · exact .inr ⟨d, o', by rw [upd_ne na]; exact z⟩
  · by_cases b : g.ρ m = g.ρ n
    · rw [b]; exact ⟨o, upd_same, (by obtain ⟨o1, e1, n1⟩ := hc.at; rw [upd_same] at e1; cases e1; exact n1)⟩
    · rw [upd_ne b]; exact x.tr m hm
  · have q' : (if m = n then some c' else h.at_ m) = some c2 := q
    by_cases b : m = n
    · rw [if_pos b] at q'
      cases q'
      rw [b]
      exact ⟨hn, hF, hc⟩
    · rw [if_neg b] at q'
      obtain ⟨q1, q2, q3⟩ := x.cell m c2 q'
      exact ⟨q1, q2, q3.mono (.refl g) (upd_ne fun z => b (x.inj m n q1 hn z))⟩
  · obtain ⟨h1, h2, h3, h4⟩ := x.hd a o' q
    exact ⟨by rw [upd_ne (h4 n hn).symm]; exact h1, h2, h3, h4⟩
  · have na : a ≠ g.ρ n := fun z => by
      have q2 := (x.lks a o' q).1
      rw [z] at q2
      exact nofrz ok nl q2 (x.lks a o' q).2
    exact ⟨by rw [upd_ne na]; exact (x.lks a o' q).1, (x.lks a o' q).2⟩
  · have q' : (if m = n then some c' else h.at_ m) = some (.lck ks ws) := q
    by_cases b : m = n
    · rw [if_pos b] at q'
      exact absurd (Option.some.inj q') (nl' ks ws)
    · rw [if_neg b] at q'
      exact x.lkc m ks ws q'
/-- a box is frozen -/
theorem RH.ice (x : RH Γ g h H) {n : Nat} {c : Ct} {o : HO} (e : h.at_ n = some c) (ho : H (g.ρ n) = some o) : g.le (g.frz (g.ρ n) o) ∧ RH Γ (g.frz (g.ρ n) o) (h.del n) H ∧ (g.frz (g.ρ n) o).F (g.ρ n) = some o := by
  obtain ⟨hn, hF, ok⟩ := x.cell n c e
  have l : g.le (g.frz (g.ρ n) o) := ⟨Nat.le_refl _, fun _ _ => rfl, fun a u q => by
    show upd g.F (g.ρ n) o a = some u
    rw [upd_ne (ne_of_none q hF)]; exact q, Same.refl _, Same.refl _⟩
  refine ⟨l, ⟨fun a u q => ?_, x.nx, x.inj, x.tr, fun m c2 q => ?_, x.tab, nt_frz x.nt (by obtain ⟨o1, e1, n1⟩ := ok.at; rw [ho] at e1; cases e1; exact n1.nb), fun a o' q => ?_, x.lks, fun m ks ws q => ?_⟩, upd_same⟩
  · by_cases ha : a = g.ρ n
    · have q' : upd g.F (g.ρ n) o a = some u := q
      rw [ha, upd_same] at q'
      cases q'
      exact .inl (by rw [ha]; exact ho)
    · have q' : upd g.F (g.ρ n) o a = some u := q
      rw [upd_ne ha] at q'
      exact x.fr a u q'
  · have q' : (if m = n then none else h.at_ m) = some c2 := q
    by_cases b : m = n
    · rw [if_pos b] at q'; cases q'
    · rw [if_neg b] at q'
      obtain ⟨q1, q2, q3⟩ := x.cell m c2 q'
      refine ⟨q1, ?_, q3.mono l rfl⟩
      show upd g.F (g.ρ n) o (g.ρ m) = none
      rw [upd_ne fun z => b (x.inj m n q1 hn z)]
      exact q2
  · obtain ⟨h1, h2, h3, h4⟩ := x.hd a o' q
    refine ⟨h1, h2, ?_, h4⟩
    show upd g.F (g.ρ n) o a = none
    rw [upd_ne (h4 n hn).symm]
    exact h3
  · have q' : (if m = n then none else h.at_ m) = some (.lck ks ws) := q
    by_cases b : m = n
    · rw [if_pos b] at q'; cases q'
    · rw [if_neg b] at q'
      exact x.lkc m ks ws q'
/-- something new is pinned, not to be seen -/
def G.hide (g : G) (p : Addr) (o : HO) : G := { g with hid := upd g.hid p o }
theorem RH.noHid (x : RH Γ g h H) {p : Addr} (hp : H p = none) : g.hid p = none := by
  cases q : g.hid p with
  | none => rfl
  | some u =>
    have := (x.hd p u q).1
    rw [hp] at this; cases this
theorem RH.hide (x : RH Γ g h H) {p : Addr} (hp : H p = none) {o : HO} (nt : NH o) : g.le (g.hide p o) ∧ RH Γ (g.hide p o) h (upd H p o) ∧ (g.hide p o).hid p = some o := by
  have hF := x.noHid hp
  have l : g.le (g.hide p o) := ⟨Nat.le_refl _, fun _ _ => rfl, Same.refl _, fun a u e => by
    show upd g.hid p o a = some u
    rw [upd_ne (ne_of_none e hF)]; exact e, Same.refl _⟩
  have y := x.aux hp o
  refine ⟨l, ⟨y.fr, y.nx, y.inj, y.tr, fun n c e => ?_, y.tab, y.nt, fun a o' e => ?_, y.lks, y.lkc⟩, upd_same⟩
  · obtain ⟨a, b, c'⟩ := y.cell n c e
    exact ⟨a, b, c'.mono l rfl⟩
  · have e' : upd g.hid p o a = some o' := e
    by_cases ha : a = p
    · rw [ha, upd_same] at e'
      cases e'
      rw [ha]
      exact ⟨upd_same, nt, x.noF hp, fun n hn => x.rneq hp hn⟩
    · rw [upd_ne ha] at e'
      exact y.hd a o' e'
/-- what is pinned is changed: the same to all but to who pinned it -/
theorem RH.rehide (x : RH Γ g h H) {p : Addr} {o o' : HO} (e : g.hid p = some o) (nt : NH o') : RH Γ (g.hide p o') h (upd H p o') ∧ (g.hide p o').hid p = some o' := by
  obtain ⟨h1, h2, h3, h4⟩ := x.hd p o e
  refine ⟨⟨fun a u q => ?_, x.nx, x.inj, fun m hm => ?_, fun m c q => ?_, tabs_upd x.tab (fun o e => by rw [h1] at e; cases e; exact h2.nt), x.nt, fun a u q => ?_, fun a u q => ?_, x.lkc⟩, upd_same⟩
  · have q : g.F a = some u := q
    have na : a ≠ p := fun z => by rw [z, h3] at q; cases q
    rcases x.fr a u q with z | ⟨d, o', z⟩
    · exact .inl (by rw [upd_ne na]; exact z)
    · exact .inr ⟨d, o', by rw [upd_ne na]; exact z⟩
  · show ∃ o, upd H p o' (g.ρ m) = some o ∧ NT o
    rw [upd_ne (h4 m hm)]; exact x.tr m hm
  · obtain ⟨q1, q2, q3⟩ := x.cell m c q
    have e2 : upd H p o' (g.ρ m) = H (g.ρ m) := upd_ne (h4 m q1)
    refine ⟨q1, q2, ?_⟩
    have z : CellOk Γ g (upd H p o') (g.ρ m) c := q3.mono (.refl g) e2
    cases c with
    | lst ws => obtain ⟨vs, a, b⟩ := z; exact ⟨vs, a, rws_hid (g := g) (by rfl) (by rfl) (by rfl) b⟩
    | dic ks ws => obtain ⟨vs, a, b⟩ := z; exact ⟨vs, a, rws_hid (g := g) (by rfl) (by rfl) (by rfl) b⟩
    | lck ks ws => obtain ⟨vs, a, b⟩ := z; exact ⟨vs, a, rws_hid (g := g) (by rfl) (by rfl) (by rfl) b⟩
    | ins c ks ws => obtain ⟨dx, vs, a, a2, b⟩ := z; exact ⟨dx, vs, a, a2, rws_hid (g := g) (by rfl) (by rfl) (by rfl) b⟩
  · have q' : upd g.hid p o' a = some u := q
    by_cases ha : a = p
    · rw [ha, upd_same] at q'
      cases q'
      rw [ha]
      exact ⟨upd_same, nt, h3, h4⟩
    · rw [upd_ne ha] at q'
      obtain ⟨a1, a2⟩ := x.hd a u q'
      exact ⟨by rw [upd_ne ha]; exact a1, a2⟩
  · have na : a ≠ p := fun z => by
      have q2 := x.lks a u q
      rw [z, h1] at q2
      obtain ⟨q2, q3⟩ := q2
      cases q2
      exact nh_nf h2 q3
    exact ⟨by rw [upd_ne na]; exact (x.lks a u q).1, (x.lks a u q).2⟩
/-- it is pinned no more: frozen instead -/
theorem RH.show_ (x : RH Γ g h H) {p : Addr} {o : HO} (e : g.hid p = some o) {g0 : G} (l0 : g0.le g) (n0 : g0.hid p = none) : ∃ g2 : G, g0.le g2 ∧ RH Γ g2 h H ∧ g2.F p = some o ∧ (∀ w v, RW Γ.K g w v → RW Γ.K g2 w v) ∧ ∀ w v, RWs Γ.K g w v → RWs Γ.K g2 w v := by
  obtain ⟨h1, h2, h3, h4⟩ := x.hd p o e
  let gm : G := { g with hid := fun a => if a = p then none else g.hid a }
  have lm : g0.le gm := ⟨l0.nx, l0.ρ, l0.F, fun a u q => by
    show (if a = p then none else g.hid a) = some u
    rw [if_neg (fun z => by rw [z, n0] at q; cases q)]
    exact l0.hid a u q, l0.lk⟩
  have lf : gm.le (gm.frz p o) := ⟨Nat.le_refl _, fun _ _ => rfl, fun a u q => by
    show upd g.F p o a = some u
    have q : g.F a = some u := q
    rw [upd_ne (ne_of_none q h3)]; exact q, Same.refl _, Same.refl _⟩
  have m1 : ∀ w v, RW Γ.K g w v → RW Γ.K gm w v := fun w v r => rw_hid (g := g) (by rfl) (by rfl) (by rfl) r
  have m2 : ∀ w v, RWs Γ.K g w v → RWs Γ.K gm w v := fun w v r => rws_hid (g := g) (by rfl) (by rfl) (by rfl) r
  refine ⟨gm.frz p o, lm.trans lf, ⟨fun a u q => ?_, x.nx, x.inj, x.tr, fun m c q => ?_, x.tab, nt_frz x.nt h2.nt.nb, fun a u q => ?_, x.lks, x.lkc⟩, upd_same, fun w v r => RW.mono lf _ _ (m1 w v r), fun w v r => RWs.mono lf _ _ (m2 w v r)⟩
  · by_cases ha : a = p
    · have q' : upd g.F p o a = some u := q
      rw [ha, upd_same] at q'
      cases q'
      exact .inl (by rw [ha]; exact h1)
    · have q' : upd g.F p o a = some u := q
      rw [upd_ne ha] at q'
      exact x.fr a u q'
  · obtain ⟨q1, q2, z⟩ := x.cell m c q
    refine ⟨q1, ?_, ?_⟩
    · show upd g.F p o (g.ρ m) = none
      rw [upd_ne (h4 m q1)]
      exact q2
    · cases c with
      | lst ws => obtain ⟨vs, a, b⟩ := z; exact ⟨vs, a, RWs.mono lf _ _ (m2 _ _ b)⟩
      | dic ks ws => obtain ⟨vs, a, b⟩ := z; exact ⟨vs, a, RWs.mono lf _ _ (m2 _ _ b)⟩
      | lck ks ws => obtain ⟨vs, a, b⟩ := z; exact ⟨vs, a, RWs.mono lf _ _ (m2 _ _ b)⟩
      | ins c ks ws => obtain ⟨dx, vs, a, a2, b⟩ := z; exact ⟨dx, vs, a, a2, RWs.mono lf _ _ (m2 _ _ b)⟩
  · have q' : (if a = p then none else g.hid a) = some u := q
    by_cases ha : a = p
    · rw [if_pos ha] at q'; cases q'
    · rw [if_neg ha] at q'
      obtain ⟨a1, a2, a3, a4⟩ := x.hd a u q'
      refine ⟨a1, a2, ?_, a4⟩
      show upd g.F p o a = none
      rw [upd_ne ha]; exact a3
/-- .. a box instead -/
theorem RH.showB (x : RH Γ g h H) {p : Addr} {o : HO} {c : Ct} (e : g.hid p = some o) (hc : CellOk Γ g H p c) {g0 : G} (l0 : g0.le g) (n0 : g0.hid p = none) (nl : ∀ ks ws, c ≠ .lck ks ws := by intro _ _ z; cases z) : ∃ g2 : G, g0.le g2 ∧ RH Γ g2 (h.new c) H ∧ RW Γ.K g2 (.box h.nx) (.ref p) := by
  obtain ⟨h1, h2, h3, h4⟩ := x.hd p o e
  let gm : G := { g with hid := fun a => if a = p then none else g.hid a }
  have lm : g0.le gm := ⟨l0.nx, l0.ρ, l0.F, fun a u q => by
    show (if a = p then none else g.hid a) = some u
    rw [if_neg (fun z => by rw [z, n0] at q; cases q)]
    exact l0.hid a u q, l0.lk⟩
  have lf := gm.box_le p
  have m2 : ∀ w v, RWs Γ.K g w v → RWs Γ.K gm w v := fun w v r => rws_hid (g := g) (by rfl) (by rfl) (by rfl) r
  have mc : ∀ {c : Ct} {a : Addr}, CellOk Γ g H a c → CellOk Γ (gm.box p) H a c := fun {c a} z => by
    cases c with
    | lst ws => obtain ⟨vs, a, b⟩ := z; exact ⟨vs, a, RWs.mono lf _ _ (m2 _ _ b)⟩
    | dic ks ws => obtain ⟨vs, a, b⟩ := z; exact ⟨vs, a, RWs.mono lf _ _ (m2 _ _ b)⟩
    | lck ks ws => obtain ⟨vs, a, b⟩ := z; exact ⟨vs, a, RWs.mono lf _ _ (m2 _ _ b)⟩
    | ins c ks ws => obtain ⟨dx, vs, a, a2, b⟩ := z; exact ⟨dx, vs, a, a2, RWs.mono lf _ _ (m2 _ _ b)⟩
  have hnx := x.nx
  have r0 : (gm.box p).ρ g.nx = p := if_pos rfl
  have rl : ∀ n, n < g.nx → (gm.box p).ρ n = g.ρ n := fun n hn => if_neg (Nat.ne_of_lt hn)
  refine ⟨gm.box p, lm.trans lf, ⟨x.fr, by show g.nx + 1 = h.nx + 1; rw [hnx], fun m n hm hn e => ?_, fun n hn => ?_, fun n c' q => ?_, x.tab, x.nt, fun a u q => ?_, x.lks, fun n ks ws e => by
    have e' : (if n = h.nx then some c else h.at_ n) = some (.lck ks ws) := e
    by_cases b : n = h.nx
    · rw [if_pos b] at e'
      exact absurd (Option.some.inj e') (nl ks ws)
    · rw [if_neg b] at e'
      rw [show (gm.box p).ρ n = g.ρ n from rl n (x.cell n _ e').1]
      exact x.lkc n ks ws e'⟩, ?_⟩
  · have hm' : m < g.nx + 1 := hm
    have hn' : n < g.nx + 1 := hn
    by_cases a : m = g.nx
    · by_cases b : n = g.nx
      · rw [a, b]
      · rw [a, r0, rl n (by omega)] at e
        exact absurd e.symm (h4 n (by omega))
    · by_cases b : n = g.nx
      · rw [b, r0, rl m (by omega)] at e
        exact absurd e (h4 m (by omega))
      · rw [rl m (by omega), rl n (by omega)] at e
        exact x.inj m n (by omega) (by omega) e
  · have hn' : n < g.nx + 1 := hn
    by_cases b : n = g.nx
    · rw [b, r0]; exact ⟨o, h1, h2.nt⟩
    · rw [rl n (by omega)]; exact x.tr n (by omega)
  · have q' : (if n = h.nx then some c else h.at_ n) = some c' := q
    by_cases b : n = h.nx
    · rw [if_pos b] at q'
      cases q'
      rw [b, ← hnx, r0]
      exact ⟨Nat.lt_succ_self _, h3, mc hc⟩
    · rw [if_neg b] at q'
      obtain ⟨q1, q2, q3⟩ := x.cell n c' q'
      rw [rl n q1]
      exact ⟨Nat.lt_succ_of_lt q1, q2, mc q3⟩
  · have q' : (if a = p then none else g.hid a) = some u := q
    by_cases ha : a = p
    · rw [if_pos ha] at q'; cases q'
    · rw [if_neg ha] at q'
      obtain ⟨a1, a2, a3, a4⟩ := x.hd a u q'
      refine ⟨a1, a2, a3, fun n hn => ?_⟩
      have hn' : n < g.nx + 1 := hn
      by_cases b : n = g.nx
      · rw [b, r0]; exact fun z => ha z.symm
      · rw [rl n (by omega)]; exact a4 n (by omega)
  · unfold RW
    rw [← hnx, r0]
    exact ⟨Nat.lt_succ_self _, rfl⟩

/-! ### views -/
/-- a list's items, in the cells or frozen -/
def lview (h : HS) : W → Option (List W)
  | .lst ws => some ws
  | .box n => match h.at_ n with
    | some (.lst ws) => some ws
    | _ => none
  | _ => none
theorem lview_ok (x : RH Γ g h H) {w : W} {v : V} {ws : List W} (r : RW Γ.K g w v) (e : lview h w = some ws) : ∃ a vs, v = .ref a ∧ H a = some (.lst vs) ∧ RWs Γ.K g ws vs := by
  cases w with
  | lst us =>
    cases e
    unfold RW at r
    obtain ⟨a, vs, rfl, q, rs⟩ := r
    rcases x.fr a _ q with z | ⟨d, _⟩
    · exact ⟨a, vs, rfl, z, rs⟩
    · exact d.elim
  | box n =>
    unfold RW at r
    obtain ⟨hn, rfl⟩ := r
    unfold lview at e
    simp only at e
    cases q : h.at_ n with
    | none => rw [q] at e; cases e
    | some c =>
      rw [q] at e
      cases c with
      | lst us =>
        cases e
        obtain ⟨_, _, vs, z, rs⟩ := x.cell n _ q
        exact ⟨_, vs, rfl, z, rs⟩
      | dic _ _ => cases e
      | ins _ _ _ => cases e
      | lck _ _ => cases e
  | _ => cases e
/-- a list or a tuple -/
def sview (h : HS) : W → Option (List W)
  | .tup ws => some ws
  | .kt ws => some ws
  | w => lview h w
theorem below_T (x : RH Γ g h H) {K : PySem.W.Frag} {a : Addr} {vs : List V} (q : SqT K g.F a vs) : SqT K H a vs := by
  rcases q with (q | ⟨o, q⟩) | q
  · rcases x.fr a _ q with z | ⟨d, _⟩
    · exact .inl (.inl z)
    · exact d.elim
  · rcases x.fr a _ q with z | ⟨d, _⟩
    · exact .inl (.inr ⟨o, z⟩)
    · exact d.elim
  · exact .inr q
theorem below_L (x : RH Γ g h H) {K : PySem.W.Frag} {a : Addr} {vs : List V} (q : SqL K g.F a vs) : SqL K H a vs := by
  rcases q with (q | ⟨o, q⟩) | q
  · rcases x.fr a _ q with z | ⟨d, _⟩
    · exact .inl (.inl z)
    · exact d.elim
  · rcases x.fr a _ q with z | ⟨d, _⟩
    · exact .inl (.inr ⟨o, z⟩)
    · exact d.elim
  · exact .inr q
theorem tup_at (x : RH Γ g h H) {v : V} {ws : List W} (r : RW Γ.K g (.tup ws) v) : ∃ a vs, v = .ref a ∧ H a = some (.tup vs) ∧ RWs Γ.K g ws vs := by
  unfold RW at r
  obtain ⟨a, vs, rfl, q, rs⟩ := r
  rcases x.fr a _ q with z | ⟨d, _⟩
  · exact ⟨a, vs, rfl, z, rs⟩
  · exact d.elim
theorem tup_ok (x : RH Γ g h H) {v : V} {ws : List W} (r : RW Γ.K g (.tup ws) v) : ∃ a vs, v = .ref a ∧ SqT Γ.K H a vs ∧ RWs Γ.K g ws vs := by
  obtain ⟨a, vs, e, q, rs⟩ := tup_at x r
  exact ⟨a, vs, e, SqT.of q, rs⟩
theorem kt_ok (x : RH Γ g h H) {v : V} {ws : List W} (r : RW Γ.K g (.kt ws) v) : ∃ a vs, v = .ref a ∧ SqT Γ.K H a vs ∧ RWs Γ.K g ws vs := by
  unfold RW at r
  obtain ⟨a, vs, rfl, q, rs⟩ := r
  exact ⟨a, vs, rfl, below_T x q, rs⟩
theorem sview_ok (x : RH Γ g h H) {w : W} {v : V} {ws : List W} (r : RW Γ.K g w v) (e : sview h w = some ws) : ∃ a vs, v = .ref a ∧ (SqL Γ.K H a vs ∨ SqT Γ.K H a vs) ∧ RWs Γ.K g ws vs := by
  cases w with
  | tup us =>
    cases e
    obtain ⟨a, vs, e1, q, rs⟩ := tup_ok x r
    exact ⟨a, vs, e1, .inr q, rs⟩
  | kt us =>
    cases e
    obtain ⟨a, vs, e1, q, rs⟩ := kt_ok x r
    exact ⟨a, vs, e1, .inr q, rs⟩
  | lst us =>
    obtain ⟨a, vs, e1, q, rs⟩ := lview_ok x r e
    exact ⟨a, vs, e1, .inl (SqL.of q), rs⟩
  | box n =>
    obtain ⟨a, vs, e1, q, rs⟩ := lview_ok x r e
    exact ⟨a, vs, e1, .inl (SqL.of q), rs⟩
  | _ => cases e
/-- a dict's entries -/
def dview (h : HS) : W → Option (List DK × List W)
  | .dic ks ws => some (ks, ws)
  | .box n => match h.at_ n with
    | some (.dic ks ws) => some (ks, ws)
    | some (.lck ks ws) => some (ks, ws)
    | _ => none
  | _ => none
def DctR (H : Hp) (a : Addr) (ks : List DK) (vs : List V) : Prop :=
  (∃ kvs : List (Key × V), Rd H a (.dK kvs) ∧ ks = kvs.map (fun p => DK.k p.1) ∧ vs = kvs.map (·.2)) ∨
  (∃ kvs : List (List Key × V), Rd H a (.dT kvs) ∧ ks = kvs.map (fun p => DK.t p.1) ∧ vs = kvs.map (·.2))
theorem dview_ok (x : RH Γ g h H) {w : W} {v : V} {ks : List DK} {ws : List W} (r : RW Γ.K g w v) (e : dview h w = some (ks, ws)) : ∃ a vs, v = .ref a ∧ DctR H a ks vs ∧ RWs Γ.K g ws vs := by
  cases w with
  | dic ks' ws' =>
    cases e
    unfold RW at r
    obtain ⟨a, vs, rfl, q, rs⟩ := r
    refine ⟨a, vs, rfl, ?_, rs⟩
    rcases q with ⟨kvs, q, z⟩ | ⟨kvs, q, z⟩
    · exact .inl ⟨kvs, (x.fr a _ q).imp id fun ⟨_, o, z⟩ => ⟨o, z⟩, z⟩
    · exact .inr ⟨kvs, (x.fr a _ q).imp id fun ⟨_, o, z⟩ => ⟨o, z⟩, z.1.1, z.2⟩
  | box n =>
    unfold RW at r
    obtain ⟨hn, rfl⟩ := r
    unfold dview at e
    simp only at e
    cases q : h.at_ n with
    | none => rw [q] at e; cases e
    | some c =>
      rw [q] at e
      cases c with
      | lst us => cases e
      | ins _ _ _ => cases e
      | dic ks' ws' =>
        cases e
        obtain ⟨_, _, vs, z, rs⟩ := x.cell n _ q
        refine ⟨_, vs, rfl, ?_, rs⟩
        rcases z with ⟨kvs, q, z⟩ | ⟨kvs, q, z⟩
        · exact .inl ⟨kvs, .inl q, z⟩
        · exact .inr ⟨kvs, .inl q, z.1.1, z.2⟩
      | lck ks' ws' =>
        cases e
        obtain ⟨_, _, vs, z, rs⟩ := x.cell n _ q
        refine ⟨_, vs, rfl, ?_, rs⟩
        rcases z with ⟨o, kvs, q, z⟩ | ⟨o, kvs, q, z⟩
        · exact .inl ⟨kvs, .inr ⟨o, q⟩, z⟩
        · exact .inr ⟨kvs, .inr ⟨o, q⟩, z.1.1, z.2⟩
  | _ => cases e

/-! ### new lists, tuples, dicts: frozen or in a box -/
def mkL (bx : Bool) (ws : List W) (h : HS) : R W := if bx then .ok (.box h.nx) (h.new (.lst ws)) else .ok (.lst ws) h
def mkD (bx : Bool) (ks : List DK) (ws : List W) (h : HS) : R W := if bx then .ok (.box h.nx) (h.new (.dic ks ws)) else .ok (.dic ks ws) h
theorem mkL_ok {bx : Bool} {ws : List W} {vs : List V} {p : Addr} {Q : VK} (x : RH Γ g h H) (hp : H p = none) (r : RWs Γ.K g ws vs) (q : Rz Γ Wx (RW Γ.K) g (mkL bx ws h) σ Q) : Q (.ref p) (upd H p (.lst vs)) := by
  cases bx with
  | true =>
    obtain ⟨l, y, z⟩ := x.box (c := .lst ws) (o := .lst vs) hp ⟨vs, upd_same, r⟩
    exact q _ _ _ l y z
  | false =>
    obtain ⟨l, y, z⟩ := x.frz hp (.lst vs)
    refine q _ _ _ l y ?_
    unfold RW
    exact ⟨p, vs, rfl, z, RWs.mono l _ _ r⟩
theorem mkT_ok {ws : List W} {vs : List V} {p : Addr} {Q : VK} (x : RH Γ g h H) (hp : H p = none) (r : RWs Γ.K g ws vs) (q : Rz Γ Wx (RW Γ.K) g (.ok (.tup ws) h) σ Q) : Q (.ref p) (upd H p (.tup vs)) := by
  obtain ⟨l, y, z⟩ := x.frz hp (.tup vs)
  refine q _ _ _ l y ?_
  unfold RW
  exact ⟨p, vs, rfl, z, RWs.mono l _ _ r⟩
theorem mkD_ok {bx : Bool} {ks : List DK} {ws : List W} {vs : List V} {p : Addr} {o : HO} {Q : VK} (x : RH Γ g h H) (hp : H p = none) (hd : DctH (upd H p o) p ks vs) (r : RWs Γ.K g ws vs) (q : Rz Γ Wx (RW Γ.K) g (mkD bx ks ws h) σ Q) : Q (.ref p) (upd H p o) := by
  cases bx with
  | true =>
    obtain ⟨l, y, z⟩ := x.box (c := .dic ks ws) (o := o) hp ⟨vs, hd, r⟩
    exact q _ _ _ l y z
  | false =>
    obtain ⟨l, y, z⟩ := x.frz hp o (by obtain ⟨o1, e1, n1⟩ := hd.ne; rw [upd_same] at e1; cases e1; exact n1.nb)
    refine q _ _ _ l y ?_
    unfold RW
    refine ⟨p, vs, rfl, ?_, RWs.mono l _ _ r⟩
    rcases hd with ⟨kvs, e, d⟩ | ⟨kvs, e, d⟩
    · rw [upd_same] at e; cases e
      exact .inl ⟨kvs, z, d⟩
    · rw [upd_same] at e; cases e
      exact .inr ⟨kvs, z, d⟩
end
end Pk
end

/-! PkC -/
section
set_option Elab.async false
set_option linter.all false
set_option maxRecDepth 100000
namespace Pk
open PySem PySem.Spec L2

/-! ### the combinators -/
def eVar (i : Nat) : Ex := fun sl h => match sl[i]? with
  | some (some w) => .ok w h
  | _ => .no
def eC (w : W) : Ex := fun _ h => .ok w h
def eBin (m : W → W → HS → R W) (fa fb : Ex) : Ex := fun sl h => (fa sl h).bind fun x h1 => (fb sl h1).bind fun y h2 => m x y h2
def eUn (m : W → HS → R W) (fa : Ex) : Ex := fun sl h => (fa sl h).bind fun x h1 => m x h1
def asB (w : W) (h : HS) : R Bool := match w with
  | .bl b => .ok b h
  | _ => .no
def tVal (f : Ex) : Tx := fun sl h => (f sl h).bind asB
def eChain (m m' : W → W → HS → R W) (fa fb fc : Ex) : Ex := fun sl h => (fa sl h).bind fun x h1 => (fb sl h1).bind fun y h2 => (m x y h2).bind fun z h3 => (asB z h3).bind fun k h3 =>
  if k then (fc sl h3).bind fun w h4 => m' y w h4 else .ok (.bl false) h3
def tAndx (a b : Tx) : Tx := fun sl h => (a sl h).bind fun k h1 => if k then b sl h1 else .ok false h1
def tOrx (a b : Tx) : Tx := fun sl h => (a sl h).bind fun k h1 => if k then .ok true h1 else b sl h1
def tNotx (a : Tx) : Tx := fun sl h => (a sl h).bind fun k h1 => .ok (!k) h1
def eAnd (a b : Ex) : Ex := fun sl h => (a sl h).bind fun x h1 => (asB x h1).bind fun k h1 => if k then b sl h1 else .ok (.bl false) h1
def eOr (a b : Ex) : Ex := fun sl h => (a sl h).bind fun x h1 => (asB x h1).bind fun k h1 => if k then .ok (.bl true) h1 else b sl h1
def eNot (a : Ex) : Ex := fun sl h => (a sl h).bind fun x h1 => (asB x h1).bind fun k h1 => .ok (.bl (!k)) h1
def eIf (t : Tx) (a b : Ex) : Ex := fun sl h => (t sl h).bind fun k h1 => if k then a sl h1 else b sl h1
def aNil : Ax := fun _ h => .ok [] h
def aCons (f : Ex) (r : Ax) : Ax := fun sl h => (f sl h).bind fun x h1 => (r sl h1).bind fun xs h2 => .ok (x :: xs) h2
def eTup (a : Ax) : Ex := fun sl h => (a sl h).bind fun xs h1 => if xs.length ≤ sizeLine then .ok (.tup xs) h1 else .no
def eLst (bx : Bool) (a : Ax) : Ex := fun sl h => (a sl h).bind fun xs h1 => if xs.length ≤ sizeLine then mkL bx xs h1 else .no

/-- what an operation on two values is -/
def OpS (Γ : Γ) (Wx : WX) (X : Cx) (f : Value → Value → Sem Value) (m : W → W → HS → R W) : Prop :=
  ∃ r : R2, OpR X f r ∧ ∀ {g : G} {h : HS} {H : Hp} {σ : L2.St} {x y : W} {vx vy : V} {Q : VK}, RH Γ g h H → RW Γ.K g x vx → RW Γ.K g y vy → Rz Γ Wx (RW Γ.K) g (m x y h) σ Q → r vx vy H Q
def UnS (Γ : Γ) (Wx : WX) (X : Cx) (f : Value → Sem Value) (m : W → HS → R W) : Prop :=
  ∃ r : V → Hp → VK → Prop, UnR X f r ∧ ∀ {g : G} {h : HS} {H : Hp} {σ : L2.St} {x : W} {vx : V} {Q : VK}, RH Γ g h H → RW Γ.K g x vx → Rz Γ Wx (RW Γ.K) g (m x h) σ Q → r vx H Q

section
variable {Γ : Γ} {Wx : WX} {X : Cx} {a b c : Expr} {fa fb fc : Ex} {pos : Pos} {m m' : W → W → HS → R W}
theorem e_var {x : Str} (i : Nat) (hN : X.N[i]? = some x := by rfl) (hv : Vis X.env.scope x := by first | exact Or.inl rfl | exact Or.inr (Or.inl rfl) | exact Or.inr (Or.inr rfl)) (hd : (x == ("__debug__" : Str)) = false := by decide)
    (hcd : (x == ("__classdict__" : Str)) = false := by decide) : PE X (.Name x pos) (RDE Γ Wx (eVar i)) := by
  refine PE.imp (pe_var (i := i) hN hv hd hcd) fun σ H Q ⟨g, sl, h, hH, hS, q⟩ => ?_
  unfold eVar at q
  cases e : sl[i]? with
  | none => simp only [e] at q; exact q.elim
  | some o =>
    cases o with
    | none => simp only [e] at q; exact q.elim
    | some w =>
      simp only [e] at q
      obtain ⟨v, e1, r⟩ := hS i w e
      exact ⟨v, e1, q g v H (.refl g) hH r⟩
theorem e_c {e : Expr} {v : V} {w : W} (p : PE X e (tC v)) (r : ∀ g, RW Γ.K g w v) : PE X e (RDE Γ Wx (eC w)) :=
  PE.imp p fun σ H Q ⟨g, sl, h, hH, hS, q⟩ => q g v H (.refl g) hH (r g)
theorem e_int {i : Int} {j} : PE X (.Constant (.int i) j pos) (RDE Γ Wx (eC (.int i))) := e_c pe_int fun g => by unfold RW; rfl
theorem e_bl {i : Bool} {j} : PE X (.Constant (.bool i) j pos) (RDE Γ Wx (eC (.bl i))) := e_c pe_bl fun g => by unfold RW; rfl
theorem e_non {j} : PE X (.Constant .none j pos) (RDE Γ Wx (eC .non)) := e_c pe_non fun g => by unfold RW; rfl
theorem e_str {x : Str} {j} : PE X (.Constant (.str x) j pos) (RDE Γ Wx (eC (.str x))) := e_c pe_str fun g => by unfold RW; rfl

theorem bin_rd {r : R2} {f : Value → Value → Sem Value} (hm : ∀ {g : G} {h : HS} {H : Hp} {σ : L2.St} {x y : W} {vx vy : V} {Q : VK}, RH Γ g h H → RW Γ.K g x vx → RW Γ.K g y vy → Rz Γ Wx (RW Γ.K) g (m x y h) σ Q → r vx vy H Q) {σ : L2.St} {H : Hp} {Q : VK}
    (x : RDE Γ Wx (eBin m fa fb) σ H Q) : tOp r (RDE Γ Wx fa) (RDE Γ Wx fb) σ H Q := by
  obtain ⟨g, sl, h, hH, hS, q⟩ := x
  refine RDE.mono (fun v H1 ⟨g1, h1, w1, l1, hH1, r1, q1⟩ => ?_) (RDE.step hH hS q)
  refine RDE.mono (fun v2 H2 ⟨g2, h2, w2, l2, hH2, r2, q2⟩ => ?_) (RDE.step hH1 (SLk.mono l1 hS) q1)
  exact hm hH2 (RW.mono l2 _ _ r1) r2 q2
theorem e_bin {op : Operator} (o : OpS Γ Wx X (binaryOp op) m) (ha : PE X a (RDE Γ Wx fa)) (hb : PE X b (RDE Γ Wx fb)) : PE X (.BinOp a op b pos) (RDE Γ Wx (eBin m fa fb)) := by
  obtain ⟨r, o1, o2⟩ := o
  exact PE.imp (pe_op o1 ha hb) fun σ H Q x => bin_rd (f := binaryOp op) o2 x
theorem e_cmp {op : CmpOp} (o : OpS Γ Wx X (compareOp op) m) (ha : PE X a (RDE Γ Wx fa)) (hb : PE X b (RDE Γ Wx fb)) (hm : behindInMarks op b = false := by first | exact nomark _ (by decide) (by decide) | rfl | with_unfolding_all rfl) : PE X (.Compare a [op] [b] pos) (RDE Γ Wx (eBin m fa fb)) := by
  obtain ⟨r, o1, o2⟩ := o
  exact PE.imp (pe_cmpR o1 ha hb hm) fun σ H Q x => bin_rd (f := compareOp op) o2 x
theorem rz_asB {g : G} {h : HS} {H : Hp} {σ : L2.St} {w : W} {v : V} {Q : Bool → Hp → Prop} (hH : RH Γ g h H) (r : RW Γ.K g w v) (q : Rz Γ Wx (fun _ (a b : Bool) => a = b) g (asB w h) σ Q) : ∃ k, v = .bl k ∧ Q k H := by
  cases w with
  | bl k => unfold RW at r; exact ⟨k, r, q g k H (.refl g) hH rfl⟩
  | _ => exact q.elim
theorem t_val {e : Expr} {f : Ex} (p : PE X e (RDE Γ Wx f)) (he : ∀ whole, isTrue e X.env whole = (do let v ← whole; standAt e.pos; holding [v] (truthy v)) := by intro _; rfl) : PT X e (RDT Γ Wx (tVal f)) := by
  refine PT.imp (pt_val p he) fun σ H Q ⟨g, sl, h, hH, hS, q⟩ => ?_
  refine RDE.mono (fun v H1 ⟨g1, h1, w1, l1, hH1, r1, q1⟩ => ?_) (RDE.step hH hS q)
  exact rz_asB hH1 r1 q1
theorem t_cmp {op : CmpOp} (o : OpS Γ Wx X (compareOp op) m) (ha : PE X a (RDE Γ Wx fa)) (hb : PE X b (RDE Γ Wx fb)) (hm : behindInMarks op b = false := by first | exact nomark _ (by decide) (by decide) | rfl | with_unfolding_all rfl) : PT X (.Compare a [op] [b] pos) (RDT Γ Wx (tVal (eBin m fa fb))) := by
  obtain ⟨r, o1, o2⟩ := o
  refine PT.imp (pt_cmpR o1 ha hb hm) fun σ H Q ⟨g, sl, h, hH, hS, q⟩ => ?_
  refine bin_rd (f := compareOp op) o2 ⟨g, sl, h, hH, hS, ?_⟩
  refine Rz.mono (fun v H1 ⟨g1, h1, w1, l1, hH1, r1, q1⟩ => ?_) (rz_step q)
  exact rz_asB hH1 r1 q1
theorem chain_rd {r r' : R2} (hm : ∀ {g : G} {h : HS} {H : Hp} {σ : L2.St} {x y : W} {vx vy : V} {Q : VK}, RH Γ g h H → RW Γ.K g x vx → RW Γ.K g y vy → Rz Γ Wx (RW Γ.K) g (m x y h) σ Q → r vx vy H Q)
    (hm' : ∀ {g : G} {h : HS} {H : Hp} {σ : L2.St} {x y : W} {vx vy : V} {Q : VK}, RH Γ g h H → RW Γ.K g x vx → RW Γ.K g y vy → Rz Γ Wx (RW Γ.K) g (m' x y h) σ Q → r' vx vy H Q) {σ : L2.St} {H : Hp} {Q : VK}
    (x : RDE Γ Wx (eChain m m' fa fb fc) σ H Q) : tChain r r' (RDE Γ Wx fa) (RDE Γ Wx fb) (RDE Γ Wx fc) σ H Q := by
  obtain ⟨g, sl, h, hH, hS, q⟩ := x
  refine RDE.mono (fun v H1 ⟨g1, h1, w1, l1, hH1, r1, q1⟩ => ?_) (RDE.step hH hS q)
  refine RDE.mono (fun v2 H2 ⟨g2, h2, w2, l2, hH2, r2, q2⟩ => ?_) (RDE.step hH1 (SLk.mono l1 hS) q1)
  refine hm hH2 (RW.mono l2 _ _ r1) r2 (Rz.mono (fun v3 H3 ⟨g3, h3, w3, l3, hH3, r3, q3⟩ => ?_) (rz_step q2))
  cases w3 with
  | bl k =>
    unfold RW at r3
    refine ⟨k, r3, ?_⟩
    have q3' : Rz Γ Wx (RW Γ.K) g3 (if k = true then (fc sl h3).bind fun w h4 => m' w2 w h4 else .ok (.bl false) h3) σ Q := q3
    by_cases hk : k = true
    · rw [if_pos hk] at q3' ⊢
      refine RDE.mono (fun v4 H4 ⟨g4, h4, w4, l4, hH4, r4, q4⟩ => ?_) (RDE.step hH3 (SLk.mono (l1.trans (l2.trans l3)) hS) q3')
      exact hm' hH4 (RW.mono (l3.trans l4) _ _ r2) r4 q4
    · rw [if_neg hk] at q3' ⊢
      exact q3' g3 _ _ (.refl _) hH3 (by unfold RW; rfl)
  | _ => exact q3.elim
theorem e_chain {op op' : CmpOp} (o : OpS Γ Wx X (compareOp op) m) (o' : OpS Γ Wx X (compareOp op') m') (ha : PE X a (RDE Γ Wx fa)) (hb : PE X b (RDE Γ Wx fb)) (hc : PE X c (RDE Γ Wx fc))
    (hm : lastMarks [op, op'] [b, c] = false := by with_unfolding_all rfl) : PE X (.Compare a [op, op'] [b, c] pos) (RDE Γ Wx (eChain m m' fa fb fc)) := by
  obtain ⟨r, o1, o2⟩ := o
  obtain ⟨r', o1', o2'⟩ := o'
  exact PE.imp (pe_chain o1 o1' ha hb hc hm) fun σ H Q x => chain_rd o2 o2' x
theorem t_chain {op op' : CmpOp} (o : OpS Γ Wx X (compareOp op) m) (o' : OpS Γ Wx X (compareOp op') m') (ha : PE X a (RDE Γ Wx fa)) (hb : PE X b (RDE Γ Wx fb)) (hc : PE X c (RDE Γ Wx fc))
    (hm : lastMarks [op, op'] [b, c] = false := by with_unfolding_all rfl) : PT X (.Compare a [op, op'] [b, c] pos) (RDT Γ Wx (tVal (eChain m m' fa fb fc))) := by
  obtain ⟨r, o1, o2⟩ := o
  obtain ⟨r', o1', o2'⟩ := o'
  refine PT.imp (pt_chain o1 o1' ha hb hc hm) fun σ H Q ⟨g, sl, h, hH, hS, q⟩ => ?_
  refine chain_rd o2 o2' ⟨g, sl, h, hH, hS, ?_⟩
  refine Rz.mono (fun v H1 ⟨g1, h1, w1, l1, hH1, r1, q1⟩ => ?_) (rz_step q)
  exact rz_asB hH1 r1 q1

/-! tests -/
variable {ta tb : Tx} {rest : List Expr}
theorem t_and1 (ha : PT X a (RDT Γ Wx ta)) : PW X (.BoolOp .And [a] pos) (RDT Γ Wx ta) := pw_and1 ha
theorem t_or1 (ha : PT X a (RDT Γ Wx ta)) : PW X (.BoolOp .Or [a] pos) (RDT Γ Wx ta) := pw_or1 ha
theorem t_andC (ha : PT X a (RDT Γ Wx ta)) (hb : PW X (.BoolOp .And (b :: rest) pos) (RDT Γ Wx tb)) : PW X (.BoolOp .And (a :: b :: rest) pos) (RDT Γ Wx (tAndx ta tb)) := by
  refine ⟨fun whole pins s σ H Q I x => (pw_and ha hb).run whole pins s σ H Q I ?_⟩
  obtain ⟨g, sl, h, hH, hS, q⟩ := x
  refine RDT.mono (fun v H1 ⟨g1, h1, w1, l1, hH1, r1, q1⟩ => ?_) (RDT.step hH hS q)
  subst r1
  by_cases hk : w1 = true
  · rw [if_pos hk] at q1 ⊢
    exact ⟨g1, sl, h1, hH1, SLk.mono l1 hS, q1⟩
  · rw [if_neg hk] at q1 ⊢
    exact q1 g1 _ _ (.refl _) hH1 rfl
theorem t_orC (ha : PT X a (RDT Γ Wx ta)) (hb : PW X (.BoolOp .Or (b :: rest) pos) (RDT Γ Wx tb)) : PW X (.BoolOp .Or (a :: b :: rest) pos) (RDT Γ Wx (tOrx ta tb)) := by
  refine ⟨fun whole pins s σ H Q I x => (pw_or ha hb).run whole pins s σ H Q I ?_⟩
  obtain ⟨g, sl, h, hH, hS, q⟩ := x
  refine RDT.mono (fun v H1 ⟨g1, h1, w1, l1, hH1, r1, q1⟩ => ?_) (RDT.step hH hS q)
  subst r1
  by_cases hk : w1 = true
  · rw [if_pos hk] at q1 ⊢
    exact q1 g1 _ _ (.refl _) hH1 rfl
  · rw [if_neg hk] at q1 ⊢
    exact ⟨g1, sl, h1, hH1, SLk.mono l1 hS, q1⟩
theorem t_not (ha : PT X a (RDT Γ Wx ta)) : PT X (.UnaryOp .Not a pos) (RDT Γ Wx (tNotx ta)) := by
  refine PT.imp (pt_not ha) fun σ H Q ⟨g, sl, h, hH, hS, q⟩ => ?_
  refine RDT.mono (fun v H1 ⟨g1, h1, w1, l1, hH1, r1, q1⟩ => ?_) (RDT.step hH hS q)
  subst r1
  exact q1 g1 _ _ (.refl _) hH1 rfl
theorem e_one {op} (ha : PE X a (RDE Γ Wx fa)) : PE X (.BoolOp op [a] pos) (RDE Γ Wx fa) := pe_one ha
theorem e_and (ha : PE X a (RDE Γ Wx fa)) (hb : PE X (.BoolOp .And (b :: rest) pos) (RDE Γ Wx fb)) : PE X (.BoolOp .And (a :: b :: rest) pos) (RDE Γ Wx (eAnd fa fb)) := by
  refine PE.imp (pe_and ha hb) fun σ H Q ⟨g, sl, h, hH, hS, q⟩ => ?_
  refine RDE.mono (fun v H1 ⟨g1, h1, w1, l1, hH1, r1, q1⟩ => ?_) (RDE.step hH hS q)
  cases w1 with
  | bl k =>
    unfold RW at r1
    refine ⟨k, r1, ?_⟩
    have q1' : Rz Γ Wx (RW Γ.K) g1 (if k = true then fb sl h1 else .ok (.bl false) h1) σ Q := q1
    by_cases hk : k = true
    · rw [if_pos hk] at q1' ⊢
      exact ⟨g1, sl, h1, hH1, SLk.mono l1 hS, q1'⟩
    · rw [if_neg hk] at q1' ⊢
      exact q1' g1 _ _ (.refl _) hH1 (by unfold RW; rfl)
  | _ => exact q1.elim
theorem e_or (ha : PE X a (RDE Γ Wx fa)) (hb : PE X (.BoolOp .Or (b :: rest) pos) (RDE Γ Wx fb)) : PE X (.BoolOp .Or (a :: b :: rest) pos) (RDE Γ Wx (eOr fa fb)) := by
  refine PE.imp (pe_or ha hb) fun σ H Q ⟨g, sl, h, hH, hS, q⟩ => ?_
  refine RDE.mono (fun v H1 ⟨g1, h1, w1, l1, hH1, r1, q1⟩ => ?_) (RDE.step hH hS q)
  cases w1 with
  | bl k =>
    unfold RW at r1
    refine ⟨k, r1, ?_⟩
    have q1' : Rz Γ Wx (RW Γ.K) g1 (if k = true then .ok (.bl true) h1 else fb sl h1) σ Q := q1
    by_cases hk : k = true
    · rw [if_pos hk] at q1' ⊢
      exact q1' g1 _ _ (.refl _) hH1 (by unfold RW; rfl)
    · rw [if_neg hk] at q1' ⊢
      exact ⟨g1, sl, h1, hH1, SLk.mono l1 hS, q1'⟩
  | _ => exact q1.elim
theorem e_not (ha : PE X a (RDE Γ Wx fa)) : PE X (.UnaryOp .Not a pos) (RDE Γ Wx (eNot fa)) := by
  refine PE.imp (pe_not ha) fun σ H Q ⟨g, sl, h, hH, hS, q⟩ => ?_
  refine RDE.mono (fun v H1 ⟨g1, h1, w1, l1, hH1, r1, q1⟩ => ?_) (RDE.step hH hS q)
  cases w1 with
  | bl k =>
    unfold RW at r1
    exact ⟨k, r1, q1 g1 _ _ (.refl _) hH1 (by unfold RW; rfl)⟩
  | _ => exact q1.elim
theorem e_if (hc : PT X c (RDT Γ Wx ta)) (ha : PE X a (RDE Γ Wx fa)) (hb : PE X b (RDE Γ Wx fb)) : PE X (.IfExp c a b pos) (RDE Γ Wx (eIf ta fa fb)) := by
  refine PE.imp (pe_ifExp hc ha hb) fun σ H Q ⟨g, sl, h, hH, hS, q⟩ => ?_
  refine RDT.mono (fun v H1 ⟨g1, h1, w1, l1, hH1, r1, q1⟩ => ?_) (RDT.step hH hS q)
  subst r1
  by_cases hk : w1 = true
  · rw [if_pos hk] at q1 ⊢
    exact ⟨g1, sl, h1, hH1, SLk.mono l1 hS, q1⟩
  · rw [if_neg hk] at q1 ⊢
    exact ⟨g1, sl, h1, hH1, SLk.mono l1 hS, q1⟩
theorem e_un {op : UnaryOp} {mu : W → HS → R W} (o : UnS Γ Wx X (unaryOp op) mu) (ha : PE X a (RDE Γ Wx fa)) : PE X (.UnaryOp op a pos) (RDE Γ Wx (eUn mu fa)) := by
  obtain ⟨r, o1, o2⟩ := o
  refine PE.imp (pe_un o1 ha) fun σ H Q ⟨g, sl, h, hH, hS, q⟩ => ?_
  refine RDE.mono (fun v H1 ⟨g1, h1, w1, l1, hH1, r1, q1⟩ => ?_) (RDE.step hH hS q)
  exact o2 hH1 r1 q1

/-! arguments, displays -/
variable {es : List Expr} {fr : Ax}
theorem a_nil : PA X [] (RDA Γ Wx aNil) := PA.imp pa_nil fun σ H Q ⟨g, sl, h, hH, hS, q⟩ => q g _ _ (.refl _) hH .nil
theorem a_cons (ha : PE X a (RDE Γ Wx fa)) (hr : PA X es (RDA Γ Wx fr)) (hs : starEach (a :: es) X.env = (false, eval a X.env) :: starEach es X.env := by rfl) : PA X (a :: es) (RDA Γ Wx (aCons fa fr)) := by
  refine PA.imp (pa_cons ha hr hs) fun σ H Q ⟨g, sl, h, hH, hS, q⟩ => ?_
  refine RDE.mono (fun v H1 ⟨g1, h1, w1, l1, hH1, r1, q1⟩ => ?_) (RDE.step hH hS q)
  refine RDA.mono (fun v2 H2 ⟨g2, h2, w2, l2, hH2, r2, q2⟩ => ?_) (RDA.step hH1 (SLk.mono l1 hS) q1)
  exact q2 g2 _ _ (.refl _) hH2 (.cons (RW.mono l2 _ _ r1) r2)
theorem e_tup {x1} (ha : PA X es (RDA Γ Wx fr)) : PE X (.Tuple es x1 pos) (RDE Γ Wx (eTup fr)) := by
  refine PE.imp (pe_tup ha) fun σ H Q ⟨g, sl, h, hH, hS, q⟩ => ?_
  refine RDA.mono (fun v H1 ⟨g1, h1, w1, l1, hH1, r1, q1⟩ => ?_) (RDA.step hH hS q)
  by_cases hl : w1.length ≤ sizeLine
  · rw [if_pos hl] at q1
    exact ⟨by rw [← r1.len]; exact hl, fun p hp => mkT_ok hH1 hp r1 q1⟩
  · rw [if_neg hl] at q1
    exact q1.elim
theorem e_lst (bx : Bool) (ha : PA X es (RDA Γ Wx fr)) : PE X (.List es pos) (RDE Γ Wx (eLst bx fr)) := by
  refine PE.imp (pe_lst ha) fun σ H Q ⟨g, sl, h, hH, hS, q⟩ => ?_
  refine RDA.mono (fun v H1 ⟨g1, h1, w1, l1, hH1, r1, q1⟩ => ?_) (RDA.step hH hS q)
  by_cases hl : w1.length ≤ sizeLine
  · rw [if_pos hl] at q1
    exact ⟨by rw [← r1.len]; exact hl, fun p hp => mkL_ok hH1 hp r1 q1⟩
  · rw [if_neg hl] at q1
    exact q1.elim
end
end Pk
end

/-! PkD -/
section
set_option Elab.async false
set_option linter.all false
set_option maxRecDepth 100000
namespace Pk
open PySem PySem.Spec L2

/-! ### arithmetic -/
def catL (bx : Bool) (x y : W) (h : HS) : R W := match lview h x, lview h y with
  | some a, some b => if a.length + b.length ≤ sizeLine then mkL bx (a ++ b) h else .no
  | _, _ => .no
def wAdd (bx : Bool) (x y : W) (h : HS) : R W := match x, y with
  | .int a, .int b => .ok (.int (a + b)) h
  | .str a, .str b => if a.length + b.length ≤ sizeLine then .ok (.str (a ++ b)) h else .no
  | .tup a, .tup b => if a.length + b.length ≤ sizeLine then .ok (.tup (a ++ b)) h else .no
  | x, y => catL bx x y h
def wSub (x y : W) (h : HS) : R W := match x, y with
  | .int a, .int b => .ok (.int (a - b)) h
  | _, _ => .no
def wMul (bx : Bool) (x y : W) (h : HS) : R W := match x, y with
  | .int a, .int b => if (-(2 ^ 64) < a ∧ a < 2 ^ 64) ∨ (-(2 ^ 64) < b ∧ b < 2 ^ 64) then .ok (.int (a * b)) h else .no
  | .tup a, .int k => if a ≠ [] ∧ 2 ≤ k ∧ k ≤ 1000 ∧ a.length ≤ 1000 then .ok (.tup (List.replicate k.toNat a).flatten) h else .no
  | x, .int k => match lview h x with
    | some a => if -(2 ^ 63) ≤ k ∧ k < 2 ^ 63 ∧ a.length * k.toNat ≤ sizeLine then mkL bx (List.replicate k.toNat a).flatten h else .no
    | none => .no
  | _, _ => .no
def wDiv (x y : W) (h : HS) : R W := match x, y with
  | .int a, .int b => if 0 < b ∧ b < 1073741824 then .ok (.int (a / b)) h else .no
  | _, _ => .no
def wMod (x y : W) (h : HS) : R W := match x, y with
  | .int a, .int b => if 0 < b then .ok (.int (a % b)) h else .no
  | _, _ => .no
def wPow (x y : W) (h : HS) : R W := match x, y with
  | .int a, .int b => if 0 ≤ b ∧ b ≤ 1000000 ∧ a.natAbs < 2 ^ 64 then .ok (.int (a ^ b.toNat)) h else .no
  | _, _ => .no
def wNeg (x : W) (h : HS) : R W := match x with
  | .int a => .ok (.int (-a)) h
  | _ => .no

instance instDecNe (a : List W) : Decidable (a ≠ []) := match a with
  | [] => .isFalse fun h => h rfl
  | _ :: _ => .isTrue fun h => by cases h

section
variable {Γ : Γ} {Wx : WX} {X : Cx}
theorem rint {K : PySem.W.Frag} {g : G} {a : Int} {v : V} (r : RW K g (.int a) v) : v = .int a := by unfold RW at r; exact r
theorem rbl {K : PySem.W.Frag} {g : G} {a : Bool} {v : V} (r : RW K g (.bl a) v) : v = .bl a := by unfold RW at r; exact r
theorem rstr {K : PySem.W.Frag} {g : G} {a : Str} {v : V} (r : RW K g (.str a) v) : v = .str a := by unfold RW at r; exact r
theorem rnon {K : PySem.W.Frag} {g : G} {v : V} (r : RW K g .non v) : v = .non := by unfold RW at r; exact r
theorem mint {K : PySem.W.Frag} {g : G} (a : Int) : RW K g (.int a) (.int a) := by unfold RW; rfl
theorem mbl {K : PySem.W.Frag} {g : G} (a : Bool) : RW K g (.bl a) (.bl a) := by unfold RW; rfl
theorem mstr {K : PySem.W.Frag} {g : G} (a : Str) : RW K g (.str a) (.str a) := by unfold RW; rfl
theorem mnon {K : PySem.W.Frag} {g : G} : RW K g .non .non := by unfold RW; rfl
/-- the end is there at once -/
theorem rz_now {g : G} {h : HS} {H : Hp} {σ : L2.St} {w : W} {v : V} {Q : VK} (q : Rz Γ Wx (RW Γ.K) g (.ok w h) σ Q) (hH : RH Γ g h H) (r : RW Γ.K g w v) : Q v H := q g v H (.refl g) hH r

theorem o_add (bx : Bool) (hK : X.K = Γ.K) : OpS Γ Wx X (binaryOp .Add) (wAdd bx) := by
  refine ⟨_, op_add.or (op_add_str.or (op_catA.or op_cat)), fun {g h H σ x y vx vy Q} hH rx ry q => ?_⟩
  unfold wAdd at q
  split at q
  · cases rint rx; cases rint ry
    exact .inl ⟨_, _, rfl, rfl, rz_now q hH (mint _)⟩
  · cases rstr rx; cases rstr ry
    split at q
    · rename_i hl
      exact .inr (.inl ⟨_, _, rfl, rfl, hl, rz_now q hH (mstr _)⟩)
    · exact q.elim
  · rename_i a b
    split at q
    · rename_i hl
      obtain ⟨p1, vs1, e1, s1, rs1⟩ := tup_ok hH rx
      obtain ⟨p2, vs2, e2, s2, rs2⟩ := tup_ok hH ry
      rw [← hK] at s1 s2
      have l1 := rs1.len
      have l2 := rs2.len
      refine .inr (.inr (.inl ⟨p1, p2, vs1, vs2, e1, e2, s1, s2, by omega, fun z => ?_, fun _ z => ?_, fun _ _ p hp => ?_⟩))
      · subst z
        have ea : a = [] := List.length_eq_zero_iff.mp (by simpa using l1)
        subst ea
        rw [← e2]
        exact rz_now q hH ry
      · subst z
        have eb : b = [] := List.length_eq_zero_iff.mp (by simpa using l2)
        subst eb
        rw [List.append_nil] at q
        rw [← e1]
        exact rz_now q hH rx
      · exact mkT_ok hH hp (rs1.app rs2) q
    · exact q.elim
  · unfold catL at q
    split at q
    · rename_i a b ea eb
      split at q
      · rename_i hl
        obtain ⟨p1, vs1, e1, s1, rs1⟩ := lview_ok hH rx ea
        obtain ⟨p2, vs2, e2, s2, rs2⟩ := lview_ok hH ry eb
        exact .inr (.inr (.inr ⟨p1, p2, vs1, vs2, e1, e2, s1, s2, by rw [← rs1.len, ← rs2.len]; exact hl, fun p hp => mkL_ok hH hp (rs1.app rs2) q⟩))
      · exact q.elim
    · exact q.elim
theorem o_sub : OpS Γ Wx X (binaryOp .Sub) wSub := by
  refine ⟨_, op_sub, fun {g h H σ x y vx vy Q} hH rx ry q => ?_⟩
  unfold wSub at q
  split at q
  · cases rint rx; cases rint ry
    exact ⟨_, _, rfl, rfl, rz_now q hH (mint _)⟩
  · exact q.elim
theorem rws_rep {K : PySem.W.Frag} {g : G} {ws : List W} {vs : List V} (r : RWs K g ws vs) : ∀ n : Nat, RWs K g (List.replicate n ws).flatten (List.replicate n vs).flatten
  | 0 => .nil
  | n + 1 => by
    rw [List.replicate_succ, List.replicate_succ, List.flatten_cons, List.flatten_cons]
    exact r.app (rws_rep r n)
theorem o_mul (bx : Bool) (hK : X.K = Γ.K) : OpS Γ Wx X (binaryOp .Mult) (wMul bx) := by
  refine ⟨_, op_mul.or (op_repT.or op_rep), fun {g h H σ x y vx vy Q} hH rx ry q => ?_⟩
  unfold wMul at q
  split at q
  · cases rint rx; cases rint ry
    split at q
    · rename_i hc
      exact .inl ⟨_, _, rfl, rfl, hc, rz_now q hH (mint _)⟩
    · exact q.elim
  · cases rint ry
    rename_i a k
    split at q
    · rename_i hc
      obtain ⟨h1, h2, h3, h4⟩ := hc
      obtain ⟨p1, vs1, e1, s1, rs1⟩ := tup_ok hH rx
      rw [← hK] at s1
      refine .inr (.inl ⟨p1, k, vs1, e1, rfl, s1, fun z => h1 ?_, h2, h3, by rw [← rs1.len]; exact h4, fun p hp => mkT_ok hH hp (rws_rep rs1 _) q⟩)
      subst z
      exact List.length_eq_zero_iff.mp (by simpa using rs1.len)
    · exact q.elim
  · cases rint ry
    rename_i k _ _
    split at q
    · rename_i a ea
      split at q
      · rename_i hc
        obtain ⟨h1, h2, h3⟩ := hc
        obtain ⟨p1, vs1, e1, s1, rs1⟩ := lview_ok hH rx ea
        exact .inr (.inr ⟨p1, k, vs1, e1, rfl, s1, h1, h2, by rw [← rs1.len]; exact h3, fun p hp => mkL_ok hH hp (rws_rep rs1 _) q⟩)
      · exact q.elim
    · exact q.elim
  · exact q.elim
theorem o_div : OpS Γ Wx X (binaryOp .FloorDiv) wDiv := by
  refine ⟨_, op_fdiv, fun {g h H σ x y vx vy Q} hH rx ry q => ?_⟩
  unfold wDiv at q
  split at q
  · cases rint rx; cases rint ry
    split at q
    · rename_i hc
      exact ⟨_, _, rfl, rfl, hc, rz_now q hH (mint _)⟩
    · exact q.elim
  · exact q.elim
theorem o_mod : OpS Γ Wx X (binaryOp .Mod) wMod := by
  refine ⟨_, op_mod, fun {g h H σ x y vx vy Q} hH rx ry q => ?_⟩
  unfold wMod at q
  split at q
  · cases rint rx; cases rint ry
    split at q
    · rename_i hc
      exact ⟨_, _, rfl, rfl, hc, rz_now q hH (mint _)⟩
    · exact q.elim
  · exact q.elim
theorem o_pow : OpS Γ Wx X (binaryOp .Pow) wPow := by
  refine ⟨_, op_pow, fun {g h H σ x y vx vy Q} hH rx ry q => ?_⟩
  unfold wPow at q
  split at q
  · cases rint rx; cases rint ry
    split at q
    · rename_i hc
      exact ⟨_, _, rfl, rfl, hc, rz_now q hH (mint _)⟩
    · exact q.elim
  · exact q.elim
theorem u_neg : UnS Γ Wx X (unaryOp .USub) wNeg := by
  refine ⟨_, un_neg, fun {g h H σ x vx Q} hH rx q => ?_⟩
  unfold wNeg at q
  split at q
  · cases rint rx
    exact ⟨_, rfl, rz_now q hH (mint _)⟩
  · exact q.elim
end

/-! ### order -/
def wLt (x y : W) (h : HS) : R W := match x, y with
  | .int a, .int b => .ok (.bl (decide (a < b))) h
  | _, _ => .no
def wLe (x y : W) (h : HS) : R W := match x, y with
  | .int a, .int b => .ok (.bl (decide (a ≤ b))) h
  | _, _ => .no
def wGt (x y : W) (h : HS) : R W := match x, y with
  | .int a, .int b => .ok (.bl (decide (b < a))) h
  | _, _ => .no
def wGe (x y : W) (h : HS) : R W := match x, y with
  | .int a, .int b => .ok (.bl (decide (b ≤ a))) h
  | _, _ => .no
def isNon : W → Bool
  | .non => true
  | _ => false
def wIs (x y : W) (h : HS) : R W := if isNon y then .ok (.bl (isNon x)) h else .no
def wIsN (x y : W) (h : HS) : R W := if isNon y then .ok (.bl (!isNon x)) h else .no
section
variable {Γ : Γ} {Wx : WX} {X : Cx}
theorem o_lt : OpS Γ Wx X (compareOp .Lt) wLt := by
  refine ⟨_, op_lt, fun {g h H σ x y vx vy Q} hH rx ry q => ?_⟩
  unfold wLt at q
  split at q
  · cases rint rx; cases rint ry
    exact ⟨_, _, rfl, rfl, rz_now q hH (mbl _)⟩
  · exact q.elim
theorem o_le : OpS Γ Wx X (compareOp .LtE) wLe := by
  refine ⟨_, op_le, fun {g h H σ x y vx vy Q} hH rx ry q => ?_⟩
  unfold wLe at q
  split at q
  · cases rint rx; cases rint ry
    exact ⟨_, _, rfl, rfl, rz_now q hH (mbl _)⟩
  · exact q.elim
theorem o_gt : OpS Γ Wx X (compareOp .Gt) wGt := by
  refine ⟨_, op_gt, fun {g h H σ x y vx vy Q} hH rx ry q => ?_⟩
  unfold wGt at q
  split at q
  · cases rint rx; cases rint ry
    exact ⟨_, _, rfl, rfl, rz_now q hH (mbl _)⟩
  · exact q.elim
theorem o_ge : OpS Γ Wx X (compareOp .GtE) wGe := by
  refine ⟨_, op_ge, fun {g h H σ x y vx vy Q} hH rx ry q => ?_⟩
  unfold wGe at q
  split at q
  · cases rint rx; cases rint ry
    exact ⟨_, _, rfl, rfl, rz_now q hH (mbl _)⟩
  · exact q.elim
theorem isNon_ok {K : PySem.W.Frag} {g : G} {x : W} {v : V} (r : RW K g x v) : isNon x = decide (v = V.non) := by
  cases x with
  | non => cases rnon r; rfl
  | bl _ => cases rbl r; rfl
  | int _ => cases rint r; rfl
  | str _ => cases rstr r; rfl
  | tup _ => unfold RW at r; obtain ⟨a, vs, rfl, _⟩ := r; rfl
  | lst _ => unfold RW at r; obtain ⟨a, vs, rfl, _⟩ := r; rfl
  | dic _ _ => unfold RW at r; obtain ⟨a, vs, rfl, _⟩ := r; rfl
  | box _ => unfold RW at r; obtain ⟨_, rfl⟩ := r; rfl
  | scr _ => unfold RW at r; obtain ⟨a, rfl, _⟩ := r; rfl
  | kt _ => unfold RW at r; obtain ⟨a, vs, rfl, _⟩ := r; rfl
  | tx _ => unfold RW at r; obtain ⟨a, rfl, _⟩ := r; rfl
theorem o_is : OpS Γ Wx X (compareOp .Is) wIs := by
  refine ⟨_, op_isN, fun {g h H σ x y vx vy Q} hH rx ry q => ?_⟩
  unfold wIs at q
  split at q
  · rename_i e
    rw [isNon_ok ry, decide_eq_true_eq] at e
    refine ⟨e, ?_⟩
    rw [← isNon_ok rx]
    exact rz_now q hH (mbl _)
  · exact q.elim
theorem o_isN : OpS Γ Wx X (compareOp .IsNot) wIsN := by
  refine ⟨_, op_notN, fun {g h H σ x y vx vy Q} hH rx ry q => ?_⟩
  unfold wIsN at q
  split at q
  · rename_i e
    rw [isNon_ok ry, decide_eq_true_eq] at e
    refine ⟨e, ?_⟩
    rw [← isNon_ok rx]
    exact rz_now q hH (mbl _)
  · exact q.elim
end

/-! ### == -/
def pdl (f : W → Option PyData) : List W → Option (List PyData)
  | [] => some []
  | w :: ws => match f w, pdl f ws with
    | some d, some ds => some (d :: ds)
    | _, _ => none
def pd (h : HS) : Nat → W → Option PyData
  | 0, _ => none
  | n + 1, w => match w with
    | .non => some .none
    | .bl b => some (.bool b)
    | .int i => some (.int i)
    | .str x => some (.str x)
    | .tup ws => (pdl (pd h n) ws).map .tuple
    | .kt ws => (pdl (pd h n) ws).map .tuple
    | w => match lview h w with
      | some ws => (pdl (pd h n) ws).map .list
      | none => none
def flV : W → Option V
  | .non => some .non
  | .bl b => some (.bl b)
  | .int i => some (.int i)
  | .str x => some (.str x)
  | _ => none
def dlook : List DK → List W → DK → Option W
  | k :: ks, w :: ws, j => if k = j then some w else dlook ks ws j
  | _, _, _ => none
def isK : DK → Bool
  | .k _ => true
  | .t _ => false
/-- two dicts are equal: the same keys, the same flat values -/
def dEqT (ks' : List DK) (ws' : List W) : List DK → List W → Bool
  | [], [] => true
  | k :: ks, w :: ws => isK k && (match flV w, dlook ks' ws' k with
    | some v, some w' => decide (flV w' = some v)
    | _, _ => false) && dEqT ks' ws' ks ws
  | _, _ => false
def weq (h : HS) (x y : W) : Option Bool := match x, y with
  | .int a, .int b => some (decide (a = b))
  | .str a, .str b => some (decide (a = b))
  | .bl a, .bl b => some (decide (a = b))
  | x, y => match dview h x, dview h y with
    | some (ks, ws), some (ks', ws') => if ks.length = ks'.length ∧ ks'.all isK = true ∧ dEqT ks' ws' ks ws = true then some true else none
    | _, _ => match pd h 9 x, pd h 9 y with
      | some d, some e => if SeqAt.shaped d = true ∧ SeqAt.shaped e = true then some (PyData.eqv d e) else none
      | _, _ => none
def wEq (x y : W) (h : HS) : R W := match weq h x y with
  | some b => .ok (.bl b) h
  | none => .no
def wNe (x y : W) (h : HS) : R W := match weq h x y with
  | some b => .ok (.bl (!b)) h
  | none => .no
section
variable {Γ : Γ} {Wx : WX} {X : Cx} {g : G} {h : HS} {H : Hp}
theorem pdl_ok {f : W → Option PyData} (hf : ∀ w v d, RW Γ.K g w v → f w = some d → Dp Γ.K H v d) : ∀ (ws : List W) (vs : List V) (ds : List PyData), RWs Γ.K g ws vs → pdl f ws = some ds → DpAll Γ.K H vs ds
  | [], _, _, r, e => by
    unfold RWs at r
    subst r
    cases e
    exact .nil
  | w :: ws, _, _, r, e => by
    unfold RWs at r
    obtain ⟨v, vr, rfl, r1, rs⟩ := r
    unfold pdl at e
    split at e
    · rename_i d ds e1 e2
      cases e
      exact .cons (hf w v d r1 e1) (pdl_ok hf ws vr ds rs e2)
    · cases e
theorem pd_ok (hH : RH Γ g h H) : ∀ (n : Nat) (w : W) (v : V) (d : PyData), RW Γ.K g w v → pd h n w = some d → Dp Γ.K H v d
  | 0, _, _, _, _, e => by cases e
  | n + 1, w, v, d, r, e => by
    have viaL : ∀ w', RW Γ.K g w' v → (match lview h w' with
      | some ws => (pdl (pd h n) ws).map PyData.list
      | none => none) = some d → Dp Γ.K H v d := fun w' r' e' => by
      split at e'
      · rename_i ws el
        obtain ⟨a, vs, rfl, s, rs⟩ := lview_ok hH r' el
        cases q : pdl (pd h n) ws with
        | none => rw [q] at e'; cases e'
        | some ds =>
          rw [q] at e'
          cases e'
          exact .lst (SqL.of s) (pdl_ok (pd_ok hH n) ws vs ds rs q)
      · cases e'
    cases w with
    | non => cases rnon r; cases e; exact .non
    | bl b => cases rbl r; cases e; exact .bl b
    | int i => cases rint r; cases e; exact .int i
    | str x => cases rstr r; cases e; exact .str x
    | tup ws =>
      obtain ⟨a, vs, rfl, s, rs⟩ := tup_ok hH r
      unfold pd at e
      simp only at e
      cases q : pdl (pd h n) ws with
      | none => rw [q] at e; cases e
      | some ds =>
        rw [q] at e
        cases e
        exact .tup s (pdl_ok (pd_ok hH n) ws vs ds rs q)
    | tx ys => exact viaL _ r e
    | kt ws =>
      obtain ⟨a, vs, rfl, s, rs⟩ := kt_ok hH r
      unfold pd at e
      simp only at e
      cases q : pdl (pd h n) ws with
      | none => rw [q] at e; cases e
      | some ds =>
        rw [q] at e
        cases e
        exact .tup s (pdl_ok (pd_ok hH n) ws vs ds rs q)
    | lst ws => exact viaL _ r e
    | dic _ _ => exact viaL _ r e
    | box _ => exact viaL _ r e
    | scr _ => exact viaL _ r e

theorem flV_ok {K : PySem.W.Frag} {w : W} {v u : V} (r : RW K g w v) (e : flV w = some u) : v = u ∧ flatB u = true := by
  cases w with
  | non => cases e; exact ⟨rnon r, rfl⟩
  | bl _ => cases e; exact ⟨rbl r, rfl⟩
  | int _ => cases e; exact ⟨rint r, rfl⟩
  | str _ => cases e; exact ⟨rstr r, rfl⟩
  | _ => cases e
theorem dlook_ok {K : PySem.W.Frag} : ∀ {ks : List DK} {ws : List W} {kvs : List (Key × V)} {j : Key} {w : W}, ks = kvs.map (fun p => DK.k p.1) → RWs K g ws (kvs.map (·.2)) → dlook ks ws (.k j) = some w → ∃ v, valV kvs j = some v ∧ RW K g w v
  | [], _, _, _, _, _, _, e => by simp [dlook] at e
  | k :: ks, [], _, _, _, _, _, e => by simp [dlook] at e
  | k :: ks, w :: ws, [], _, _, hk, _, _ => by cases hk
  | k :: ks, w :: ws, p :: kvs, j, w', hk, r, e => by
    rw [List.map_cons] at hk r
    cases hk
    unfold RWs at r
    obtain ⟨v, vr, e1, r1, rs⟩ := r
    cases e1
    unfold dlook at e
    by_cases hj : p.1 = j
    · rw [if_pos (by rw [hj])] at e
      cases e
      exact ⟨_, valV_pos hj, r1⟩
    · rw [if_neg (fun z => hj (by injection z))] at e
      obtain ⟨v', q1, q2⟩ := dlook_ok rfl rs e
      exact ⟨v', by rw [valV_neg hj]; exact q1, q2⟩
theorem dEqT_ok {K : PySem.W.Frag} {ks' : List DK} {ws' : List W} {ls : List (Key × V)} (hl : ks' = ls.map (fun p => DK.k p.1)) (rl : RWs K g ws' (ls.map (·.2))) : ∀ {ks : List DK} {ws : List W} {kvs : List (Key × V)},
    ks = kvs.map (fun p => DK.k p.1) → RWs K g ws (kvs.map (·.2)) → dEqT ks' ws' ks ws = true → ∀ p ∈ kvs, valV ls p.1 = some p.2 ∧ flatB p.2 = true
  | _, _, [], _, _, _ => fun p hp => by cases hp
  | [], _, _ :: _, hk, _, _ => by cases hk
  | k :: ks, [], p :: kvs, hk, r, e => by simp [dEqT] at e
  | k :: ks, w :: ws, p :: kvs, hk, r, e => by
    rw [List.map_cons] at hk r
    cases hk
    unfold RWs at r
    obtain ⟨v, vr, e1, r1, rs⟩ := r
    cases e1
    unfold dEqT at e
    rw [Bool.and_eq_true, Bool.and_eq_true] at e
    obtain ⟨⟨_, e2⟩, e3⟩ := e
    intro q hq
    rcases List.mem_cons.mp hq with rfl | hq
    · split at e2
      · rename_i u w' f1 f2
        obtain ⟨v', g1, g2⟩ := dlook_ok hl rl f2
        obtain ⟨h1, h2⟩ := flV_ok r1 f1
        obtain ⟨h3, _⟩ := flV_ok g2 (of_decide_eq_true e2)
        rw [h1]
        exact ⟨by rw [g1, h3], h2⟩
      · cases e2
    · exact dEqT_ok hl rl rfl rs e3 q hq
/-- two dicts of ints and texts, read, of one content -/
def rEqR (b : Bool) : R2 := fun x y H Q => ∃ a a' ks ls, x = .ref a ∧ y = .ref a' ∧ Rd H a (.dK ks) ∧ Rd H a' (.dK ls) ∧ ks.length = ls.length ∧ (∀ p ∈ ks, valV ls p.1 = some p.2 ∧ flatB p.2 = true) ∧ Q (.bl b) H
theorem op_eq_R (hu : X.A.units < cLine) : OpR X (compareOp .Eq) (rEqR true) := by
  intro pins s σ H x y v u Q I rx ry h
  obtain ⟨a, b, ks, ls, rfl, rfl, ea, eb, hlen, hp, q⟩ := h
  obtain rfl : v = Value.ref a := rx
  obtain rfl : u = Value.ref b := ry
  obtain ⟨_, ya, va, ra, da⟩ := dk_rd I.hok ea
  obtain ⟨_, yb, vb, rb, db⟩ := dk_rd I.hok eb
  have hl : va.length = vb.length := by rw [← ra.length, ← rb.length]; exact hlen
  exact PySem.W.keq_eq (knd := mixKind X.prog X.w) (r := true) ya yb da db hu (fun _ => hits_all rb ra hp) (fin_bl I q (by simp [hl]))
theorem op_ne_R (hu : X.A.units < cLine) : OpR X (compareOp .NotEq) (rEqR false) := by
  intro pins s σ H x y v u Q I rx ry h
  obtain ⟨a, b, ks, ls, rfl, rfl, ea, eb, hlen, hp, q⟩ := h
  obtain rfl : v = Value.ref a := rx
  obtain rfl : u = Value.ref b := ry
  obtain ⟨_, ya, va, ra, da⟩ := dk_rd I.hok ea
  obtain ⟨_, yb, vb, rb, db⟩ := dk_rd I.hok eb
  have hl : va.length = vb.length := by rw [← ra.length, ← rb.length]; exact hlen
  exact PySem.W.keq_ne (knd := mixKind X.prog X.w) (r := true) ya yb da db hu (fun _ => hits_all rb ra hp) (fin_bl I q (by simp [hl]))
theorem all_isK : ∀ {ks : List DK} {vs : List V} {a : Addr} {H : Hp}, ks.all isK = true → ks ≠ [] → DctR H a ks vs → ∃ kvs : List (Key × V), Rd H a (.dK kvs) ∧ ks = kvs.map (fun p => DK.k p.1) ∧ vs = kvs.map (·.2)
  | ks, vs, a, H, hk, hn, .inl z => z
  | ks, vs, a, H, hk, hn, .inr ⟨kvs, _, e, _⟩ => by
    cases kvs with
    | nil => exact absurd e hn
    | cons p r => subst e; simp [isK] at hk
theorem dEqT_isK {ks' : List DK} {ws' : List W} : ∀ {ks : List DK} {ws : List W}, dEqT ks' ws' ks ws = true → ks.all isK = true
  | [], _, _ => rfl
  | k :: ks, [], e => by simp [dEqT] at e
  | k :: ks, w :: ws, e => by
    unfold dEqT at e
    rw [Bool.and_eq_true, Bool.and_eq_true] at e
    rw [List.all_cons, e.1.1, dEqT_isK e.2]
    rfl
/-- what == or != of two values may rest on -/
def rEqA (K : PySem.W.Frag) (c : Bool) : R2 := fun x y H Q => (if c then rEq x y H Q else rNe x y H Q) ∨ (if c then rEqD K x y H Q else rNeD K x y H Q) ∨ rEqR c x y H Q ∨ (∃ p q : Addr, x = .ref p ∧ y = .ref q ∧ (∃ vs, DctR H p [] vs) ∧ (∃ vs, DctR H q [] vs) ∧ Q (.bl c) H)
theorem weq_ok {x y : W} {vx vy : V} {b c : Bool} (hK : X.K = Γ.K) (hH : RH Γ g h H) (rx : RW Γ.K g x vx) (ry : RW Γ.K g y vy) (e : weq h x y = some b) (Q : VK) (q : Q (.bl (if c then b else !b)) H) : rEqA X.K c vx vy H Q := by
  have sca : ∀ v u : V, vx = v → vy = u → scal v u = true → b = decide (v = u) → rEqA X.K c vx vy H Q := by
    intro v u e1 e2 hs e
    subst e1; subst e2
    left
    cases c with
    | true => exact ⟨hs, by rw [← e]; exact q⟩
    | false => exact ⟨hs, by rw [← e]; exact q⟩
  unfold weq at e
  split at e
  · cases e
    exact sca _ _ (rint rx) (rint ry) rfl (by simp)
  · cases e
    exact sca _ _ (rstr rx) (rstr ry) rfl (by simp)
  · cases e
    exact sca _ _ (rbl rx) (rbl ry) rfl (by simp)
  · right
    split at e
    · rename_i ks ws ks' ws' e1 e2
      split at e
      · rename_i hc
        cases e
        obtain ⟨h1, h2, h3⟩ := hc
        right
        have q' : Q (.bl c) H := by cases c <;> exact q
        obtain ⟨p, vs, rfl, d1, r1⟩ := dview_ok hH rx e1
        obtain ⟨p', vs', rfl, d2, r2⟩ := dview_ok hH ry e2
        by_cases hn : ks = []
        · right
          subst hn
          have : ks' = [] := List.length_eq_zero_iff.mp (by simpa using h1.symm)
          subst this
          exact ⟨p, p', rfl, rfl, ⟨_, d1⟩, ⟨_, d2⟩, q'⟩
        · left
          have hn' : ks' ≠ [] := fun z => hn (by subst z; exact List.length_eq_zero_iff.mp (by simpa using h1))
          obtain ⟨kvs, a1, a2, a3⟩ := all_isK (dEqT_isK h3) hn d1
          obtain ⟨ls, b1, b2, b3⟩ := all_isK h2 hn' d2
          subst a3
          subst b3
          refine ⟨p, p', kvs, ls, rfl, rfl, a1, b1, ?_, dEqT_ok b2 r2 a2 r1 h3, q'⟩
          have z1 := congrArg List.length a2
          have z2 := congrArg List.length b2
          rw [List.length_map] at z1 z2
          omega
      · cases e
    · split at e
      · rename_i d d' e1 e2
        split at e
        · rename_i hc
          cases e
          left
          rw [hK]
          have a1 := pd_ok hH _ _ _ _ rx e1
          have a2 := pd_ok hH _ _ _ _ ry e2
          cases c with
          | true => exact ⟨d, d', a1, a2, hc.1, hc.2, q⟩
          | false => exact ⟨d, d', a1, a2, hc.1, hc.2, q⟩
        · cases e
      · cases e
/-- an empty dict, whatever its keys were to be -/
theorem empty_at {P : Program} {w : World} {a : Addr} {hp : Heap} {vs : List V} (ok : HOk P w H hp) (d : DctR H a [] vs) : (a == sysModules) = false ∧ hp.DictOf (mixKind P w) a [] := by
  rcases d with ⟨kvs, e, hk, _⟩ | ⟨kvs, e, hk, _⟩
  · have : kvs = [] := by cases kvs with
      | nil => rfl
      | cons _ _ => cases hk
    subst this
    obtain ⟨_, y, us, r, d⟩ := dk_rd ok e
    cases r
    exact ⟨y, d⟩
  · have : kvs = [] := by cases kvs with
      | nil => rfl
      | cons _ _ => cases hk
    subst this
    obtain ⟨_, y, us, r, o, es, ep, h1, h2, h3, h4, _⟩ := (show ObjOk P w H hp a (.dT []) from rd_of ok e)
    cases r
    refine ⟨y, o, es, ep, h1, h2, h3, ?_, ?_, List.nodup_nil⟩
    · have : es = #[] := Array.toList_eq_nil_iff.mp h4
      subst this
      first
        | exact fun i e he => absurd he (by simp)
        | (intro i; simp)
        | simp [KeysOf]
    · rw [show es.toList = [] from h4]
      first
        | exact .nil
        | constructor
theorem op_eqA (hu : X.A.units + 64 < cLine) : OpR X (compareOp .Eq) (rEqA X.K true) := by
  refine OpR.or (r := fun x y H Q => rEq x y H Q) op_eq (OpR.or (r := fun x y H Q => rEqD X.K x y H Q) (op_eqD hu) (OpR.or (op_eq_R (by omega)) ?_))
  rintro pins s σ H x y v u Q I rx ry ⟨p, q, rfl, rfl, ⟨_, d1⟩, ⟨_, d2⟩, k⟩
  obtain rfl : v = Value.ref p := rx
  obtain rfl : u = Value.ref q := ry
  obtain ⟨ya, da⟩ := empty_at I.hok d1
  obtain ⟨yb, db⟩ := empty_at I.hok d2
  exact PySem.W.keq_eq (knd := mixKind X.prog X.w) (r := true) ya yb da db (by omega) (fun _ => .nil) (fin_bl I k (by simp))
theorem op_neA (hu : X.A.units + 64 < cLine) : OpR X (compareOp .NotEq) (rEqA X.K false) := by
  refine OpR.or (r := fun x y H Q => rNe x y H Q) op_ne (OpR.or (r := fun x y H Q => rNeD X.K x y H Q) (op_neD hu) (OpR.or (op_ne_R (by omega)) ?_))
  rintro pins s σ H x y v u Q I rx ry ⟨p, q, rfl, rfl, ⟨_, d1⟩, ⟨_, d2⟩, k⟩
  obtain rfl : v = Value.ref p := rx
  obtain rfl : u = Value.ref q := ry
  obtain ⟨ya, da⟩ := empty_at I.hok d1
  obtain ⟨yb, db⟩ := empty_at I.hok d2
  exact PySem.W.keq_ne (knd := mixKind X.prog X.w) (r := true) ya yb da db (by omega) (fun _ => .nil) (fin_bl I k (by simp))
theorem o_eq (hK : X.K = Γ.K) (hu : X.A.units + 64 < cLine) : OpS Γ Wx X (compareOp .Eq) wEq := by
  refine ⟨_, op_eqA hu, fun {g h H σ x y vx vy Q} hH rx ry q => ?_⟩
  unfold wEq at q
  split at q
  · rename_i b e
    exact weq_ok (c := true) hK hH rx ry e Q (rz_now q hH (mbl _))
  · exact q.elim
theorem o_ne (hK : X.K = Γ.K) (hu : X.A.units + 64 < cLine) : OpS Γ Wx X (compareOp .NotEq) wNe := by
  refine ⟨_, op_neA hu, fun {g h H σ x y vx vy Q} hH rx ry q => ?_⟩
  unfold wNe at q
  split at q
  · rename_i b e
    exact weq_ok (c := false) hK hH rx ry e Q (rz_now q hH (mbl _))
  · exact q.elim
end
end Pk
end

/-! PkE -/
section
set_option Elab.async false
set_option linter.all false
set_option maxRecDepth 100000
namespace Pk
open PySem PySem.Spec L2

/-! ### keys -/
def keysOf : List W → Option (List Key)
  | [] => some []
  | .int i :: ws => (keysOf ws).map (.inl i :: ·)
  | .str x :: ws => (keysOf ws).map (.inr x :: ·)
  | _ => none
def kOf : W → Option DK
  | .int i => some (.k (.inl i))
  | .str x => some (.k (.inr x))
  | .tup ws => (keysOf ws).map .t
  | _ => none
theorem keysOf_ok {K : PySem.W.Frag} {g : G} : ∀ {ws : List W} {vs : List V} {l : List Key}, RWs K g ws vs → keysOf ws = some l → vs = l.map kV
  | [], _, _, r, e => by unfold RWs at r; subst r; cases e; rfl
  | w :: ws, _, l, r, e => by
    unfold RWs at r
    obtain ⟨v, vr, rfl, r1, rs⟩ := r
    cases w with
    | int i =>
      unfold keysOf at e
      cases q : keysOf ws with
      | none => rw [q] at e; cases e
      | some l' => rw [q] at e; cases e; rw [rint r1, keysOf_ok rs q]; rfl
    | str i =>
      unfold keysOf at e
      cases q : keysOf ws with
      | none => rw [q] at e; cases e
      | some l' => rw [q] at e; cases e; rw [rstr r1, keysOf_ok rs q]; rfl
    | _ => cases e
def sameK (k j : DK) : Bool := isK k == isK j

/-! ### what a dict holds, an empty one at any key -/
def IsKey (H : Hp) (y : V) : Prop := (∃ k, y = kV k) ∨ ∃ (b : Addr) (l : List Key), y = .ref b ∧ H b = some (.tup (l.map kV))
def DG (H : Hp) (a : Addr) (y : V) (r : Option V) : Prop := DGet H a y r ∨ (r = none ∧ (∃ vs, DctR H a [] vs) ∧ IsKey H y)
theorem empty_atH {P : Program} {w : World} {a : Addr} {hp : Heap} {vs : List V} {H : Hp} (ok : HOk P w H hp) (d : DctR H a [] vs) : hp.DictOfH (tupleKind (mixKind P w)) a [] := by
  obtain ⟨o, es, ep, h1, h2, h3, h4, h5, h6⟩ := (empty_at ok d).2
  refine ⟨o, es, ep, h1, h2, h3, ?_, (fun x hx => by cases hx), List.nodup_nil⟩
  have := h5
  cases hes : es.toList with
  | nil => rfl
  | cons z zs =>
    rw [hes] at this
    first
      | cases this
      | (exfalso; simpa using this)
section
variable {X : Cx} {pins : List (Addr × Obj)} {σ : L2.St} {H : Hp} {s : Shared} {a : Addr} {y d : V} {u r : Value} {o : Option V} {A : Around} {E : Value → Shared → Prop}
theorem dg_in {Q : Value → Shared → Prop} (hu : A.units + 1 < cLine) (I : Inv X pins σ H s) (g : DG H a y o) (ry : RelV y u) (h : ∀ s', Inv X pins σ H s' → Q (.bool o.isSome) s') : wpAny (model X.prog X.w) A (compareOp .In u (.ref a)) Q E s := by
  rcases g with g | ⟨rfl, ⟨vs, d⟩, k⟩
  · exact d_in hu I g ry h
  · obtain ⟨hd, dd⟩ := empty_at I.hok d
    rcases k with ⟨k, rfl⟩ | ⟨b, l, rfl, hb⟩
    · exact PySem.wpAny_in_of (kV_is ry) hd dd.mapOf (h _ (I.tok _))
    · cases (show u = Value.ref b from ry)
      exact PySem.wpAny_in_heap (tupleKind_room_in1 hu) (key_of I.hok hb) hd (empty_atH I.hok d) (h _ (I.tok _))
theorem dg_notIn {Q : Value → Shared → Prop} (hu : A.units + 1 < cLine) (I : Inv X pins σ H s) (g : DG H a y o) (ry : RelV y u) (h : ∀ s', Inv X pins σ H s' → Q (.bool (!o.isSome)) s') : wpAny (model X.prog X.w) A (compareOp .NotIn u (.ref a)) Q E s := by
  rcases g with g | ⟨rfl, ⟨vs, d⟩, k⟩
  · exact d_notIn hu I g ry h
  · obtain ⟨hd, dd⟩ := empty_at I.hok d
    rcases k with ⟨k, rfl⟩ | ⟨b, l, rfl, hb⟩
    · exact PySem.wpAny_notIn_of (kV_is ry) hd dd.mapOf (h _ (I.tok _))
    · cases (show u = Value.ref b from ry)
      exact PyProof.Rows.wpAny_notIn_heap (tupleKind_room_in1 hu) (key_of I.hok hb) hd (empty_atH I.hok d) (h _ (I.tok _))
theorem dg_get1 {Q : Value → Shared → Prop} (hu : A.units + 1 < cLine) (I : Inv X pins σ H s) (g : DG H a y o) (ry : RelV y u) (h : ∀ w' s', Inv X pins σ H s' → RelV (o.getD .non) w' → Q w' s') :
    wpAny (model X.prog X.w) A (call (.builtin "dict.get") [.ref a, u]) Q E s := by
  rcases g with g | ⟨rfl, ⟨vs, d⟩, k⟩
  · exact d_get1 hu I g ry h
  · obtain ⟨hd, dd⟩ := empty_at I.hok d
    rcases k with ⟨k, rfl⟩ | ⟨b, l, rfl, hb⟩
    · exact PySem.call_meetsIn PySem.F.slot_dict_get dd.typeIs PySem.F.entry_dict_get (PySem.F.args_dict_get_2 _ _) (meets_dict_get (mixKind X.prog X.w) a (kV_is ry) hd) ⟨_, dd.mapOf, h _ _ (I.tok _) rfl⟩
    · cases (show u = Value.ref b from ry)
      have ddH := empty_atH I.hok d
      exact PySem.call_meetsIn PySem.F.slot_dict_get ddH.typeIs PySem.F.entry_dict_get (PySem.F.args_dict_get_2 _ _) (meetsH_dict_get (tupleKind (mixKind X.prog X.w)) a b hd) ⟨tupleKind_room_in1 hu, l, _, key_of I.hok hb, ddH, h _ _ (I.tok _) rfl⟩
theorem dg_get2 {Q : Value → Shared → Prop} (hu : A.units + 1 < cLine) (I : Inv X pins σ H s) (g : DG H a y o) (ry : RelV y u) (rd : RelV d r) (h : ∀ w' s', Inv X pins σ H s' → RelV (o.getD d) w' → Q w' s') :
    wpAny (model X.prog X.w) A (call (.builtin "dict.get") [.ref a, u, r]) Q E s := by
  rcases g with g | ⟨rfl, ⟨vs, dr⟩, k⟩
  · exact d_get2 hu I g ry rd h
  · obtain ⟨hd, dd⟩ := empty_at I.hok dr
    rcases k with ⟨k, rfl⟩ | ⟨b, l, rfl, hb⟩
    · exact PySem.call_meetsIn PySem.F.slot_dict_get dd.typeIs PySem.F.entry_dict_get (PySem.F.args_dict_get_3 _ _ _) (meets_dict_get_default (mixKind X.prog X.w) a (kV_is ry) hd r) ⟨_, dd.mapOf, h _ _ (I.tok _) rd⟩
    · cases (show u = Value.ref b from ry)
      have ddH := empty_atH I.hok dr
      exact PySem.call_meetsIn PySem.F.slot_dict_get ddH.typeIs PySem.F.entry_dict_get (PySem.F.args_dict_get_3 _ _ _) (meetsH_dict_get_default (tupleKind (mixKind X.prog X.w)) a b hd r) ⟨tupleKind_room_in1 hu, l, _, key_of I.hok hb, ddH, h _ _ (I.tok _) rd⟩
end
section
variable {Γ : Γ} {Wx : WX} {X : Cx}
theorem op_inDG (hu : X.A.units + 1 < cLine) : OpR X (compareOp .In) (fun x y H Q => ∃ a o, y = .ref a ∧ DG H a x o ∧ Q (.bl o.isSome) H) := by
  rintro pins s σ H x y v u Q I rx ry ⟨a, o, rfl, g, q⟩
  obtain rfl : u = Value.ref a := ry
  exact dg_in hu I g rx fun s' I' => fin_bl I' q rfl
theorem op_notInDG (hu : X.A.units + 1 < cLine) : OpR X (compareOp .NotIn) (fun x y H Q => ∃ a o, y = .ref a ∧ DG H a x o ∧ Q (.bl (!o.isSome)) H) := by
  rintro pins s σ H x y v u Q I rx ry ⟨a, o, rfl, g, q⟩
  obtain rfl : u = Value.ref a := ry
  exact dg_notIn hu I g rx fun s' I' => fin_bl I' q rfl
variable {g : G} {h : HS} {H : Hp}
theorem dlook_none {K : PySem.W.Frag} : ∀ {ks : List DK} {ws : List W} {kvs : List (Key × V)} {j : Key}, ks = kvs.map (fun p => DK.k p.1) → RWs K g ws (kvs.map (·.2)) → dlook ks ws (.k j) = none → valV kvs j = none
  | _, _, [], _, _, _, _ => rfl
  | [], _, _ :: _, _, hk, _, _ => by cases hk
  | k :: ks, [], p :: kvs, _, _, r, _ => by unfold RWs at r; cases r
  | k :: ks, w :: ws, p :: kvs, j, hk, r, e => by
    rw [List.map_cons] at hk r
    cases hk
    unfold RWs at r
    obtain ⟨v, vr, e1, r1, rs⟩ := r
    cases e1
    unfold dlook at e
    by_cases hj : p.1 = j
    · rw [if_pos (by rw [hj])] at e; cases e
    · rw [if_neg (fun z => hj (by injection z))] at e
      rw [valV_neg hj]
      exact dlook_none rfl rs e
theorem dlookT {K : PySem.W.Frag} : ∀ {ks : List DK} {ws : List W} {kvs : List (List Key × V)} {j : List Key}, ks = kvs.map (fun p => DK.t p.1) → RWs K g ws (kvs.map (·.2)) →
    (∀ w, dlook ks ws (.t j) = some w → ∃ v, valV kvs j = some v ∧ RW K g w v) ∧ (dlook ks ws (.t j) = none → valV kvs j = none)
  | _, _, [], _, hk, _ => by
    subst hk
    exact ⟨fun w e => by simp [dlook] at e, fun _ => rfl⟩
  | [], _, _ :: _, _, hk, _ => by cases hk
  | k :: ks, [], p :: kvs, _, _, r => by unfold RWs at r; cases r
  | k :: ks, w :: ws, p :: kvs, j, hk, r => by
    rw [List.map_cons] at hk r
    cases hk
    unfold RWs at r
    obtain ⟨v, vr, e1, r1, rs⟩ := r
    cases e1
    obtain ⟨i1, i2⟩ := dlookT (j := j) rfl rs
    unfold dlook
    by_cases hj : p.1 = j
    · rw [if_pos (by rw [hj])]
      exact ⟨fun w' e => by cases e; exact ⟨_, valV_pos hj, r1⟩, fun e => by cases e⟩
    · rw [if_neg (fun z => hj (by injection z)), valV_neg hj]
      exact ⟨i1, i2⟩
/-- what a dict holds at a key -/
def dget (h : HS) (d k : W) : Option (Option W) := match dview h d, kOf k with
  | some (ks, ws), some j => if ks.all (sameK j) = true then some (dlook ks ws j) else none
  | _, _ => none
def RWo (K : PySem.W.Frag) (g : G) : Option W → Option V → Prop
  | some w, some v => RW K g w v
  | none, none => True
  | _, _ => False
theorem all_sameT : ∀ {ks : List DK} {l : List Key} {vs : List V} {a : Addr}, ks.all (sameK (.t l)) = true → ks ≠ [] → DctR H a ks vs → ∃ kvs : List (List Key × V), Rd H a (.dT kvs) ∧ ks = kvs.map (fun p => DK.t p.1) ∧ vs = kvs.map (·.2)
  | ks, l, vs, a, hk, hn, .inr z => z
  | ks, l, vs, a, hk, hn, .inl ⟨kvs, _, e, _⟩ => by
    cases kvs with
    | nil => exact absurd e hn
    | cons p r => subst e; simp [sameK, isK] at hk
theorem all_sameK : ∀ {ks : List DK} {l : Key} {vs : List V} {a : Addr}, ks.all (sameK (.k l)) = true → ks ≠ [] → DctR H a ks vs → ∃ kvs : List (Key × V), Rd H a (.dK kvs) ∧ ks = kvs.map (fun p => DK.k p.1) ∧ vs = kvs.map (·.2)
  | ks, l, vs, a, hk, hn, .inl z => z
  | ks, l, vs, a, hk, hn, .inr ⟨kvs, _, e, _⟩ => by
    cases kvs with
    | nil => exact absurd e hn
    | cons p r => subst e; simp [sameK, isK] at hk
theorem kOf_ok {k : W} {vk : V} {j : DK} (hH : RH Γ g h H) (rk : RW Γ.K g k vk) (e2 : kOf k = some j) : (∃ l, j = .k l ∧ vk = kV l) ∨ ∃ (l : List Key) (b : Addr), j = .t l ∧ vk = .ref b ∧ H b = some (.tup (l.map kV)) := by
  cases k with
  | int i => cases e2; exact .inl ⟨_, rfl, rint rk⟩
  | str i => cases e2; exact .inl ⟨_, rfl, rstr rk⟩
  | tup ws' =>
    right
    have e3 : (keysOf ws').map DK.t = some j := e2
    cases q : keysOf ws' with
    | none => rw [q] at e3; cases e3
    | some l =>
      rw [q] at e3
      cases e3
      obtain ⟨b, us, eb, hb, rs⟩ := tup_at hH rk
      rw [keysOf_ok rs q] at hb
      exact ⟨l, b, rfl, eb, hb⟩
  | _ => cases e2
theorem dget_ok {d k : W} {vd vk : V} {r : Option W} (hH : RH Γ g h H) (rd : RW Γ.K g d vd) (rk : RW Γ.K g k vk) (e : dget h d k = some r) : ∃ a o, vd = .ref a ∧ DG H a vk o ∧ RWo Γ.K g r o := by
  unfold dget at e
  split at e
  · rename_i ks ws j e1 e2
    split at e
    · rename_i hs
      cases e
      obtain ⟨a, vs, rfl, dr, rs⟩ := dview_ok hH rd e1
      refine ⟨a, ?_⟩
      have key := kOf_ok hH rk e2
      by_cases hn : ks = []
      · subst hn
        refine ⟨none, rfl, Or.inr ⟨rfl, ⟨_, dr⟩, ?_⟩, ?_⟩
        · rcases key with ⟨l, _, z⟩ | ⟨l, b, _, z, q⟩
          · exact (Or.inl ⟨l, z⟩ : IsKey H vk)
          · exact (Or.inr ⟨b, l, z, q⟩ : IsKey H vk)
        · have : dlook [] ws j = none := by cases ws <;> rfl
          rw [this]; exact True.intro
      · rcases key with ⟨l, rfl, rfl⟩ | ⟨l, b, rfl, rfl, hb⟩
        · obtain ⟨kvs, e, hk, hv⟩ := all_sameK hs hn dr
          subst hv
          refine ⟨valV kvs l, rfl, Or.inl (Or.inl ⟨kvs, l, e, rfl, rfl⟩), ?_⟩
          cases q : dlook ks ws (.k l) with
          | none => rw [dlook_none hk rs q]; exact True.intro
          | some w => obtain ⟨v, z, r1⟩ := dlook_ok hk rs q; rw [z]; exact r1
        · obtain ⟨kvs, e, hk, hv⟩ := all_sameT hs hn dr
          subst hv
          refine ⟨valV kvs l, rfl, Or.inl (Or.inr ⟨kvs, l, b, e, rfl, hb, rfl⟩), ?_⟩
          obtain ⟨i1, i2⟩ := dlookT (j := l) hk rs
          cases q : dlook ks ws (.t l) with
          | none => rw [i2 q]; exact True.intro
          | some w => obtain ⟨v, z, r1⟩ := i1 w q; rw [z]; exact r1
    · cases e
  · cases e
end
end Pk
end

/-! PkF -/
section
set_option Elab.async false
set_option linter.all false
set_option maxRecDepth 100000
namespace Pk
open PySem PySem.Spec L2

/-! ### in -/
def flVs : List W → Option (List V)
  | [] => some []
  | w :: ws => match flV w, flVs ws with
    | some v, some vs => some (v :: vs)
    | _, _ => none
def strIn (i j : Str) : Bool := match i.cps with
  | ⟨[c]⟩ => decide (c ∈ j.cps.toList)
  | _ => !(Builtin.Str.occurrences j i 0 j.length 1).isEmpty
def win (h : HS) (x y : W) : Option Bool := match dget h y x with
  | some r => some r.isSome
  | none => match x, y with
    | .str i, .str j => some (strIn i j)
    | x, y => match sview h y with
      | some ws => match flV x, flVs ws with
        | some v, some vs => some (inV v vs)
        | _, _ => none
      | none => none
def wIn (x y : W) (h : HS) : R W := match win h x y with
  | some b => .ok (.bl b) h
  | none => .no
def wNotIn (x y : W) (h : HS) : R W := match win h x y with
  | some b => .ok (.bl (!b)) h
  | none => .no
section
variable {Γ : Γ} {Wx : WX} {X : Cx} {g : G} {h : HS} {H : Hp}
theorem flV_flat {K : PySem.W.Frag} {w : W} {v u : V} (r : RW K g w v) (e : flV w = some u) : v = u ∧ flatV u = true := by
  cases w with
  | non => cases e; exact ⟨rnon r, rfl⟩
  | bl _ => cases e; exact ⟨rbl r, rfl⟩
  | int _ => cases e; exact ⟨rint r, rfl⟩
  | str _ => cases e; exact ⟨rstr r, rfl⟩
  | _ => cases e
theorem flVs_ok {K : PySem.W.Frag} : ∀ {ws : List W} {vs us : List V}, RWs K g ws vs → flVs ws = some us → vs = us ∧ us.all flatV = true
  | [], _, _, r, e => by unfold RWs at r; subst r; cases e; exact ⟨rfl, rfl⟩
  | w :: ws, _, _, r, e => by
    unfold RWs at r
    obtain ⟨v, vr, rfl, r1, rs⟩ := r
    unfold flVs at e
    split at e
    · rename_i u us e1 e2
      cases e
      obtain ⟨h1, h2⟩ := flV_flat r1 e1
      obtain ⟨h3, h4⟩ := flVs_ok rs e2
      exact ⟨by rw [h1, h3], by rw [List.all_cons, h2, h4]; rfl⟩
    · cases e
def rInA (K : PySem.W.Frag) (c : Bool) : R2 := fun x y H Q => (∃ a o, y = .ref a ∧ DG H a x o ∧ Q (.bl (if c then o.isSome else !o.isSome)) H) ∨
  (∃ i j, x = .str i ∧ y = .str j ∧ Q (.bl (if c then strIn i j else !strIn i j)) H) ∨ rIn K (!c) x y H Q
theorem RWo.isSome {K : PySem.W.Frag} {r : Option W} {o : Option V} (z : RWo K g r o) : r.isSome = o.isSome := by
  cases r with
  | none => cases o with
    | none => rfl
    | some _ => exact (show False from z).elim
  | some _ => cases o with
    | none => exact (show False from z).elim
    | some _ => rfl
theorem win_ok {x y : W} {vx vy : V} {b c : Bool} (hK : X.K = Γ.K) (hH : RH Γ g h H) (rx : RW Γ.K g x vx) (ry : RW Γ.K g y vy) (e : win h x y = some b) (Q : VK) (q : Q (.bl (if c then b else !b)) H) : rInA X.K c vx vy H Q := by
  unfold win at e
  split at e
  · rename_i r e1
    cases e
    obtain ⟨a, o, rfl, d, ro⟩ := dget_ok hH ry rx e1
    left
    refine ⟨a, o, rfl, d, ?_⟩
    rw [← ro.isSome]
    exact q
  · right
    split at e
    · cases e
      exact .inl ⟨_, _, rstr rx, rstr ry, q⟩
    · right
      split at e
      · rename_i ws e1
        split at e
        · rename_i v vs e2 e3
          cases e
          obtain ⟨a, us, rfl, s, rs⟩ := sview_ok hH ry e1
          obtain ⟨h1, h2⟩ := flV_flat rx e2
          obtain ⟨h3, h4⟩ := flVs_ok rs e3
          subst h1; subst h3
          rw [hK]
          exact ⟨a, us, rfl, s, h2, h4, by cases c <;> exact q⟩
        · cases e
      · cases e
theorem op_strIn : OpR X (compareOp .In) (fun x y H Q => ∃ i j, x = .str i ∧ y = .str j ∧ Q (.bl (strIn i j)) H) := by
  rintro pins s σ H x y v u Q I rx ry ⟨i, j, rfl, rfl, q⟩
  unfold strIn at q
  split at q
  · rename_i c e
    obtain ⟨cps⟩ := i
    have e' : cps = #[c] := e
    subst e'
    exact op_in_sign pins s σ H _ _ v u Q I rx ry ⟨c, j, rfl, rfl, q⟩
  · exact op_in_str pins s σ H _ _ v u Q I rx ry ⟨i, j, rfl, rfl, q⟩
theorem op_strNotIn : OpR X (compareOp .NotIn) (fun x y H Q => ∃ i j, x = .str i ∧ y = .str j ∧ Q (.bl (!strIn i j)) H) := by
  rintro pins s σ H x y v u Q I rx ry ⟨i, j, rfl, rfl, q⟩
  unfold strIn at q
  split at q
  · rename_i c e
    obtain ⟨cps⟩ := i
    have e' : cps = #[c] := e
    subst e'
    exact op_notIn_sign pins s σ H _ _ v u Q I rx ry ⟨c, j, rfl, rfl, q⟩
  · exact op_notin_str pins s σ H _ _ v u Q I rx ry ⟨i, j, rfl, rfl, q⟩
theorem o_in (hK : X.K = Γ.K) (hu : X.A.units + 1 < cLine) : OpS Γ Wx X (compareOp .In) wIn := by
  refine ⟨rInA X.K true, OpR.or (op_inDG hu) (OpR.or op_strIn op_in_seq), fun {g h H σ x y vx vy Q} hH rx ry q => ?_⟩
  unfold wIn at q
  split at q
  · rename_i b e
    exact win_ok (c := true) hK hH rx ry e Q (rz_now q hH (mbl _))
  · exact q.elim
theorem o_notIn (hK : X.K = Γ.K) (hu : X.A.units + 1 < cLine) : OpS Γ Wx X (compareOp .NotIn) wNotIn := by
  refine ⟨rInA X.K false, OpR.or (op_notInDG hu) (OpR.or op_strNotIn op_notIn_seq), fun {g h H σ x y vx vy Q} hH rx ry q => ?_⟩
  unfold wNotIn at q
  split at q
  · rename_i b e
    exact win_ok (c := false) hK hH rx ry e Q (rz_now q hH (mbl _))
  · exact q.elim
end

/-! ### subscripts -/
def wIx (x i : W) (h : HS) : R W := match x, i with
  | .str z, .int i => if z.length ≤ sizeLine then (match atI z.cps.toList i with
    | some c => .ok (.str ⟨#[c]⟩) h
    | none => .no) else .no
  | x, i => match sview h x, i with
    | some ws, .int i => match atI ws i with
      | some w => .ok w h
      | none => .no
    | _, i => match dget h x i with
      | some (some w) => .ok w h
      | _ => .no
section
variable {Γ : Γ} {Wx : WX} {X : Cx} {g : G} {h : HS} {H : Hp}
theorem atI_ok {K : PySem.W.Frag} {ws : List W} {vs : List V} {i : Int} {w : W} (r : RWs K g ws vs) (e : atI ws i = some w) : ∃ v, atI vs i = some v ∧ RW K g w v := by
  unfold atI at e ⊢
  rw [r.len] at e
  cases q : ixN vs.length i with
  | none => rw [q] at e; cases e
  | some j => rw [q] at e; exact r.get e
theorem ix_dict (hu : X.A.units + 1 < cLine) : IxR X (fun x y H Q => ∃ a v, x = .ref a ∧ DGet H a y (some v) ∧ Q v H) := by
  rintro value slice pins s σ H x y v u Q I rx ry ⟨a, v', rfl, d, q⟩ hs
  obtain rfl : v = Value.ref a := rx
  exact PyProof.Rows.tail_any (dict_typeIs I d) PySem.F.slot_dict_getitem.lookup (d_getItem hu I d ry fun w' s' I' r' => ⟨v', H, I', r', q⟩) hs
theorem e_ix {a b : Expr} {fa fb : Ex} {pos : Pos} (hK : X.K = Γ.K) (hu : X.A.units + 1 < cLine) (ha : PE X a (RDE Γ Wx fa)) (hb : PE X b (RDE Γ Wx fb)) (hs : PlainIx b := by exact fun _ _ => rfl) : PE X (.Subscript a b pos) (RDE Γ Wx (eBin wIx fa fb)) := by
  refine PE.imp (pe_ix (ix_seq.or (ix_dict hu)) ha hb hs) fun σ H Q x => bin_rd (f := fun _ _ => Sem.unsupported "") (fun {g h H σ x y vx vy Q} hH rx ry q => ?_) x
  unfold wIx at q
  split at q
  · split at q
    · rename_i hl
      split at q
      · rename_i c ec
        cases rstr rx; cases rint ry
        exact .inl (.inr (.inr ⟨_, _, c, rfl, rfl, hl, ec, rz_now q hH (mstr _)⟩))
      · exact q.elim
    · exact q.elim
  · split at q
    · rename_i ws i e1 
      split at q
      · rename_i w ew
        cases rint ry
        obtain ⟨p, us, rfl, s, rs⟩ := sview_ok hH rx (by assumption)
        obtain ⟨v, e2, rv⟩ := atI_ok rs ew
        left
        rw [hK]
        rcases s with s | s
        · exact .inl ⟨p, us, _, v, rfl, rfl, s, e2, rz_now q hH rv⟩
        · exact .inr (.inl ⟨p, us, _, v, rfl, rfl, s, e2, rz_now q hH rv⟩)
      · exact q.elim
    · split at q
      · rename_i w ew
        obtain ⟨p, o, rfl, d, ro⟩ := dget_ok hH rx ry ew
        cases o with
        | none => exact (show False from ro).elim
        | some v =>
          refine .inr ⟨p, v, rfl, ?_, rz_now q hH ro⟩
          rcases d with d | ⟨z, _⟩
          · exact d
          · cases z
      · exact q.elim
end

/-! ### slices -/
abbrev Px := Sl → HS → R (Option Int)
def RDP (Γ : Γ) (Wx : WX) (f : Px) : TO := fun σ H Q => ∃ g sl h, RH Γ g h H ∧ SLk Γ g sl σ ∧ Rz Γ Wx (fun _ (a b : Option Int) => a = b) g (f sl h) σ Q
def pNo : Px := fun _ h => .ok none h
def pSome (f : Ex) : Px := fun sl h => (f sl h).bind fun x h1 => match x with
  | .int i => .ok (some i) h1
  | _ => .no
def cutW (ws : List W) (lo hi : Option Int) : List W := (ws.drop (HT.sIx ws.length 0 lo)).take (HT.sIx ws.length ws.length hi - HT.sIx ws.length 0 lo)
def wCut (bx : Bool) (x : W) (lo hi : Option Int) (h : HS) : R W := match x with
  | .str z => if z.length ≤ sizeLine then .ok (.str (cutS z lo hi)) h else .no
  | .tup ws => .ok (.tup (cutW ws lo hi)) h
  | .scr ns => mkL bx (cutW (ns.map W.int) lo hi) h
  | x => match lview h x with
    | some ws => mkL bx (cutW ws lo hi) h
    | none => .no
def eCut (bx : Bool) (f : Ex) (lo hi : Px) : Ex := fun sl h => (f sl h).bind fun x h1 => (lo sl h1).bind fun l h2 => (hi sl h2).bind fun u h3 => wCut bx x l u h3
section
variable {Γ : Γ} {Wx : WX} {X : Cx} {g : G} {h : HS} {H : Hp}
theorem p_no : PO X none (RDP Γ Wx pNo) := ⟨fun pins s σ H Q I ⟨g, sl, h, hH, hS, q⟩ => po_none.run pins s σ H Q I (q g _ _ (.refl g) hH rfl)⟩
theorem p_some {e : Expr} {f : Ex} (p : PE X e (RDE Γ Wx f)) : PO X (some e) (RDP Γ Wx (pSome f)) := by
  refine ⟨fun pins s σ H Q I ⟨g, sl, h, hH, hS, q⟩ => (po_some p).run pins s σ H Q I ?_⟩
  refine RDE.mono (fun v H1 ⟨g1, h1, w1, l1, hH1, r1, q1⟩ => ?_) (RDE.step hH hS q)
  cases w1 with
  | int i => cases rint r1; exact ⟨i, rfl, q1 g1 _ _ (.refl _) hH1 rfl⟩
  | _ => exact q1.elim
theorem RWs.drop {K : PySem.W.Frag} : ∀ {ws : List W} {vs : List V} (n : Nat), RWs K g ws vs → RWs K g (ws.drop n) (vs.drop n)
  | _, _, 0, r => r
  | [], _, n + 1, r => by unfold RWs at r; subst r; exact .nil
  | w :: ws, _, n + 1, r => by
    unfold RWs at r
    obtain ⟨v, vr, rfl, _, rs⟩ := r
    exact RWs.drop n rs
theorem RWs.take {K : PySem.W.Frag} : ∀ {ws : List W} {vs : List V} (n : Nat), RWs K g ws vs → RWs K g (ws.take n) (vs.take n)
  | ws, vs, 0, r => by rw [List.take_zero, List.take_zero]; exact .nil
  | [], _, n + 1, r => by unfold RWs at r; subst r; exact .nil
  | w :: ws, _, n + 1, r => by
    unfold RWs at r
    obtain ⟨v, vr, rfl, r1, rs⟩ := r
    exact .cons r1 (RWs.take n rs)
theorem cutW_ok {K : PySem.W.Frag} {ws : List W} {vs : List V} {lo hi : Option Int} (r : RWs K g ws vs) : RWs K g (cutW ws lo hi) (cutV vs lo hi) := by
  unfold cutW cutV
  rw [r.len]
  exact (r.drop _).take _
theorem e_cut {a : Expr} {lo hi : Option Expr} {fa : Ex} {pl ph : Px} {p2 pos : Pos} (bx : Bool) (hK : X.K = Γ.K) (ha : PE X a (RDE Γ Wx fa)) (hl : PO X lo (RDP Γ Wx pl)) (hh : PO X hi (RDP Γ Wx ph)) :
    PE X (.Subscript a (.Slice lo hi none p2) pos) (RDE Γ Wx (eCut bx fa pl ph)) := by
  refine PE.imp (pe_slice ((sl_str (X := X)).or (SlR.or sl_tupA sl_list)) ha hl hh) fun σ H Q ⟨g, sl, h, hH, hS, q⟩ => ?_
  refine RDE.mono (fun v H1 ⟨g1, h1, w1, l1, hH1, r1, q1⟩ => ?_) (RDE.step hH hS q)
  refine ⟨g1, sl, h1, hH1, SLk.mono l1 hS, Rz.mono (fun l H2 ⟨g2, h2, x2, l2, hH2, e2, q2⟩ => ?_) (rz_step q1)⟩
  subst e2
  refine ⟨g2, sl, h2, hH2, SLk.mono (l1.trans l2) hS, Rz.mono (fun u H3 ⟨g3, h3, x3, l3, hH3, e3, q3⟩ => ?_) (rz_step q2)⟩
  subst e3
  have r3 := RW.mono (l2.trans l3) _ _ r1
  unfold wCut at q3
  split at q3
  · split at q3
    · rename_i hz
      cases rstr r3
      exact .inl ⟨_, rfl, hz, rz_now q3 hH3 (mstr _)⟩
    · exact q3.elim
  · obtain ⟨p, vs, rfl, s, rs⟩ := tup_ok hH3 r3
    rename_i ws _
    rw [← hK] at s
    refine .inr (.inl ⟨p, vs, rfl, s, fun hw => ?_, fun _ p' hp' => mkT_ok hH3 hp' (cutW_ok rs) q3⟩)
    have e : ∀ us : List W, us.length = vs.length → cutW us x2 x3 = us := fun us hu => by
      unfold cutW
      rw [hu, hw.1, hw.2, List.drop_zero, Nat.sub_zero, ← hu, List.take_length]
    rw [e _ rs.len] at q3
    exact rz_now q3 hH3 r3
  · unfold RW at r3
    obtain ⟨p, rfl, s⟩ := r3
    have s' := below_L hH3 s
    rw [← hK] at s'
    exact .inr (.inr ⟨p, _, rfl, s', fun p' hp' => mkL_ok hH3 hp' (cutW_ok (RWs.ints _)) q3⟩)
  · split at q3
    · rename_i ws e1
      obtain ⟨p, vs, rfl, s, rs⟩ := lview_ok hH3 r3 e1
      exact .inr (.inr ⟨p, vs, rfl, SqL.of s, fun p' hp' => mkL_ok hH3 hp' (cutW_ok rs) q3⟩)
    · exact q3.elim
end

/-! ### attributes of instances -/
def slook : List Str → List W → Str → Option W
  | k :: ks, w :: ws, j => if k = j then some w else slook ks ws j
  | _, _, _ => none
def wFld (cs : List Nat) (f : Str) (x : W) (h : HS) : R W := match x with
  | .box n => match h.at_ n with
    | some (.ins c ks ws) => if cs.contains c then (match slook ks ws f with
      | some w => .ok w h
      | none => .no) else .no
    | _ => .no
  | _ => .no
section
variable {Γ : Γ} {Wx : WX} {X : Cx} {g : G} {h : HS} {H : Hp}
theorem slook_ok {K : PySem.W.Frag} : ∀ {ks : List Str} {ws : List W} {vs : List V} {j : Str} {w : W}, RWs K g ws vs → slook ks ws j = some w → ∃ v, (ks.zip vs).lookup j = some v ∧ RW K g w v
  | [], _, _, _, _, _, e => by simp [slook] at e
  | k :: ks, [], _, _, _, _, e => by simp [slook] at e
  | k :: ks, w :: ws, _, j, w', r, e => by
    unfold RWs at r
    obtain ⟨v, vr, rfl, r1, rs⟩ := r
    unfold slook at e
    rw [List.zip_cons_cons, List.lookup_cons]
    by_cases hj : k = j
    · rw [if_pos hj] at e
      cases e
      subst hj
      simp only [beq_self_eq_true]
      exact ⟨v, rfl, r1⟩
    · rw [if_neg hj] at e
      have : (j == k) = false := beq_eq_false_iff_ne.mpr (fun z => hj z.symm)
      rw [this]
      exact slook_ok rs e
theorem e_fld {a : Expr} {f : Str} {fa : Ex} {pos : Pos} (hK : X.K = Γ.K) (cs : List Nat) (hc : ∀ c ∈ cs, Cls Γ.K (Γ.cls c) ∧ NoAttr Γ.K (Γ.cls c) f) (ha : PE X a (RDE Γ Wx fa)) (hb : attributeBase a f X.env (eval a X.env) = eval a X.env := by rfl) :
    PE X (.Attribute a f pos) (RDE Γ Wx (eUn (wFld cs f) fa)) := by
  refine PE.imp (pe_fld ha hb) fun σ H Q ⟨g, sl, h, hH, hS, q⟩ => ?_
  refine RDE.mono (fun v H1 ⟨g1, h1, w1, l1, hH1, r1, q1⟩ => ?_) (RDE.step hH hS q)
  unfold wFld at q1
  split at q1
  · rename_i n
    split at q1
    · rename_i c ks ws ec
      split at q1
      · rename_i hcs
        split at q1
        · rename_i w ew
          unfold RW at r1
          obtain ⟨hn, rfl⟩ := r1
          obtain ⟨_, _, dx, vs, hl, e1, rs⟩ := hH1.cell n _ ec
          obtain ⟨v, e2, rv⟩ := slook_ok rs ew
          obtain ⟨c1, c2⟩ := hc c (List.contains_iff_mem.mp hcs)
          rw [hK]
          exact ⟨_, _, dx, _, v, rfl, e1, c1, c2, e2, rz_now q1 hH1 rv⟩
        · exact q1.elim
      · exact q1.elim
    · exact q1.elim
  · exact q1.elim
end
end Pk
end

/-! PkG -/
section
set_option Elab.async false
set_option linter.all false
set_option maxRecDepth 100000
namespace Pk
open PySem PySem.Spec L2

/-! ### calls of built-ins, by values -/
def CallS (Γ : Γ) (Wx : WX) (X : Cx) (f : Value) (m : List W → HS → R W) : Prop :=
  ∃ r : List V → Hp → VK → Prop, CallR X f r ∧ ∀ {g : G} {h : HS} {H : Hp} {σ : L2.St} {xs : List W} {vs : List V} {Q : VK}, RH Γ g h H → RWs Γ.K g xs vs → Rz Γ Wx (RW Γ.K) g (m xs h) σ Q → r vs H Q
def eCallB (m : List W → HS → R W) (fr : Ax) : Ex := fun sl h => (fr sl h).bind fun xs h1 => m xs h1
section
variable {Γ : Γ} {Wx : WX} {X : Cx} {x : Str} {p pos : Pos} {e : Expr} {es : List Expr} {fr : Ax} {id T : String} {m : List W → HS → R W}
theorem e_callB (o : CallS Γ Wx X (.builtin id) m) (hg : Gl X x) (hm : X.mg x = none) (hv : bootBuiltins x = some (.builtin id)) (ha : PA X (e :: es) (RDA Γ Wx fr)) (hn : x ≠ "__name__" := by decide) (hdb : (x == ("__debug__" : Str)) = false := by decide)
    (he : starEach (e :: es) X.env = (false, eval e X.env) :: starEach es X.env := by rfl) (hpl : (backTo pos (starEach es X.env)).any (·.1) = false := by rfl) : PE X (.Call (.Name x p) (e :: es) [] pos) (RDE Γ Wx (eCallB m fr)) := by
  obtain ⟨r, o1, o2⟩ := o
  refine PE.imp (pe_callB o1 hg hm hv ha hn hdb he hpl) fun σ H Q ⟨g, sl, h, hH, hS, q⟩ => ?_
  exact RDA.mono (fun v H1 ⟨g1, h1, w1, l1, hH1, r1, q1⟩ => o2 hH1 r1 q1) (RDA.step hH hS q)
theorem e_callTy (o : CallS Γ Wx X (.type T) m) (hg : Gl X x) (hm : X.mg x = none) (hv : bootBuiltins x = some (.type T)) (ha : PA X (e :: es) (RDA Γ Wx fr)) (hn : x ≠ "__name__" := by decide) (hdb : (x == ("__debug__" : Str)) = false := by decide)
    (he : starEach (e :: es) X.env = (false, eval e X.env) :: starEach es X.env := by rfl) (hpl : (backTo pos (starEach es X.env)).any (·.1) = false := by rfl) : PE X (.Call (.Name x p) (e :: es) [] pos) (RDE Γ Wx (eCallB m fr)) := by
  obtain ⟨r, o1, o2⟩ := o
  refine PE.imp (pe_callTy o1 hg hm hv ha hn hdb he hpl) fun σ H Q ⟨g, sl, h, hH, hS, q⟩ => ?_
  exact RDA.mono (fun v H1 ⟨g1, h1, w1, l1, hH1, r1, q1⟩ => o2 hH1 r1 q1) (RDA.step hH hS q)
end

def m_len (xs : List W) (h : HS) : R W := match xs with
  | [.str z] => if z.length ≤ sizeLine then .ok (.int z.length) h else .no
  | [x] => match sview h x with
    | some ws => .ok (.int ws.length) h
    | none => match dview h x with
      | some (ks, _) => if ks.all isK = true ∧ ks ≠ [] then .ok (.int ks.length) h else .no
      | none => .no
  | _ => .no
def m_abs (xs : List W) (h : HS) : R W := match xs with
  | [.int i] => .ok (.int (if i < 0 then -i else i)) h
  | _ => .no
def m_int (xs : List W) (h : HS) : R W := match xs with
  | [.int i] => .ok (.int i) h
  | [.bl k] => .ok (.int (if k then 1 else 0)) h
  | [.str a] => match PySem.intText? a with
    | some n => if a.length ≤ 640 then .ok (.int n) h else .no
    | none => .no
  | _ => .no
def m_str (xs : List W) (h : HS) : R W := match xs with
  | [.int i] => if i.natAbs.log2 < 1920 then .ok (.str (toString i)) h else .no
  | _ => .no
def m_tuple (xs : List W) (h : HS) : R W := match xs with
  | [.tup ws] => .ok (.tup ws) h
  | [.kt ws] => .ok (.kt ws) h
  | [x] => match lview h x with
    | some ws => .ok (.tup ws) h
    | none => .no
  | _ => .no
def unK : DK → Option W
  | .k (.inl i) => some (.int i)
  | .k (.inr x) => some (.str x)
  | .t _ => none
def unKs : List DK → Option (List W)
  | [] => some []
  | k :: ks => match unK k, unKs ks with
    | some w, some ws => some (w :: ws)
    | _, _ => none
def m_list (bx : Bool) (xs : List W) (h : HS) : R W := match xs with
  | [x] => match sview h x with
    | some ws => mkL bx ws h
    | none => match dview h x with
      | some (ks, _) => match unKs ks with
        | some ws => if ks ≠ [] then mkL bx ws h else .no
        | none => .no
      | none => .no
  | _ => .no
def intsOf : List W → Option (List Int)
  | [] => some []
  | .int i :: ws => (intsOf ws).map (i :: ·)
  | _ => none
def m_max2 (xs : List W) (h : HS) : R W := match xs with
  | [.int i, .int j] => .ok (.int (if j > i then j else i)) h
  | _ => .no
def m_min2 (xs : List W) (h : HS) : R W := match xs with
  | [.int i, .int j] => .ok (.int (if j < i then j else i)) h
  | _ => .no
instance instDecNeK (a : List DK) : Decidable (a ≠ []) := match a with
  | [] => .isFalse fun h => h rfl
  | _ :: _ => .isTrue fun h => by cases h
section
variable {Γ : Γ} {Wx : WX} {X : Cx} {g : G} {h : HS} {H : Hp}
theorem rws1 {K : PySem.W.Frag} {x : W} {vs : List V} (r : RWs K g [x] vs) : ∃ v, vs = [v] ∧ RW K g x v := by
  unfold RWs at r
  obtain ⟨v, vr, rfl, r1, rs⟩ := r
  unfold RWs at rs
  subst rs
  exact ⟨v, rfl, r1⟩
theorem rws2 {K : PySem.W.Frag} {x y : W} {vs : List V} (r : RWs K g [x, y] vs) : ∃ v u, vs = [v, u] ∧ RW K g x v ∧ RW K g y u := by
  unfold RWs at r
  obtain ⟨v, vr, rfl, r1, rs⟩ := r
  obtain ⟨u, rfl, r2⟩ := rws1 rs
  exact ⟨v, u, rfl, r1, r2⟩
theorem call_len_R : CallR X (.builtin "len") (fun xs H Q => ∃ (a : Addr) (kvs : List (Key × V)), xs = [.ref a] ∧ Rd H a (.dK kvs) ∧ Q (.int kvs.length) H) := by
  rintro pins s σ H xs us Q I r ⟨a, kvs, rfl, e, q⟩
  cases r with
  | cons r1 rs =>
    cases rs
    cases r1
    exact d_len I e fun t s' I' => ⟨.int kvs.length, H, I', ⟨t, rfl⟩, q⟩
theorem c_len (hK : X.K = Γ.K) : CallS Γ Wx X (.builtin "len") m_len := by
  refine ⟨_, call_len_str.or (call_len_seq.or call_len_R), fun {g h H σ xs vs Q} hH r q => ?_⟩
  unfold m_len at q
  split at q
  · split at q
    · rename_i hl
      obtain ⟨v, rfl, r1⟩ := rws1 r
      cases rstr r1
      exact .inl ⟨_, rfl, hl, rz_now q hH (mint _)⟩
    · exact q.elim
  · obtain ⟨v, rfl, r1⟩ := rws1 r
    split at q
    · rename_i ws e
      obtain ⟨p, us, rfl, s, rs⟩ := sview_ok hH r1 e
      rw [← hK] at s
      refine .inr (.inl ⟨p, us, rfl, s, ?_⟩)
      rw [← rs.len]
      exact rz_now q hH (mint _)
    · split at q
      · rename_i ks ws e
        split at q
        · rename_i hc
          obtain ⟨p, us, rfl, d, rs⟩ := dview_ok hH r1 e
          obtain ⟨kvs, e1, hk, hv⟩ := all_isK hc.1 hc.2 d
          refine .inr (.inr ⟨p, kvs, rfl, e1, ?_⟩)
          have : kvs.length = ks.length := by rw [hk, List.length_map]
          rw [this]
          exact rz_now q hH (mint _)
        · exact q.elim
      · exact q.elim
  · exact q.elim
theorem c_abs : CallS Γ Wx X (.builtin "abs") m_abs := by
  refine ⟨_, call_abs, fun {g h H σ xs vs Q} hH r q => ?_⟩
  unfold m_abs at q
  split at q
  · obtain ⟨v, rfl, r1⟩ := rws1 r
    cases rint r1
    exact ⟨_, rfl, rz_now q hH (mint _)⟩
  · exact q.elim
theorem c_int : CallS Γ Wx X (.type "int") m_int := by
  refine ⟨_, call_int1.or call_int_str, fun {g h H σ xs vs Q} hH r q => ?_⟩
  unfold m_int at q
  split at q
  · obtain ⟨v, rfl, r1⟩ := rws1 r
    cases rint r1
    exact .inl (.inl ⟨_, rfl, rz_now q hH (mint _)⟩)
  · obtain ⟨v, rfl, r1⟩ := rws1 r
    cases rbl r1
    exact .inl (.inr ⟨_, rfl, rz_now q hH (mint _)⟩)
  · split at q
    · rename_i n e
      split at q
      · rename_i hl
        obtain ⟨v, rfl, r1⟩ := rws1 r
        cases rstr r1
        exact .inr ⟨_, n, rfl, e, hl, rz_now q hH (mint _)⟩
      · exact q.elim
    · exact q.elim
  · exact q.elim
theorem c_str : CallS Γ Wx X (.type "str") m_str := by
  refine ⟨_, call_str_int, fun {g h H σ xs vs Q} hH r q => ?_⟩
  unfold m_str at q
  split at q
  · split at q
    · rename_i hl
      obtain ⟨v, rfl, r1⟩ := rws1 r
      cases rint r1
      exact ⟨_, rfl, hl, rz_now q hH (mstr _)⟩
    · exact q.elim
  · exact q.elim
theorem c_tuple (hK : X.K = Γ.K) : CallS Γ Wx X (.type "tuple") m_tuple := by
  refine ⟨_, call_tuple_of, fun {g h H σ xs vs Q} hH r q => ?_⟩
  unfold m_tuple at q
  split at q
  · obtain ⟨v, rfl, r1⟩ := rws1 r
    obtain ⟨p, us, rfl, s, rs⟩ := tup_ok hH r1
    rw [← hK] at s
    exact ⟨p, us, rfl, .inr ⟨s, rz_now q hH r1⟩⟩
  · obtain ⟨v, rfl, r1⟩ := rws1 r
    obtain ⟨p, us, rfl, s, rs⟩ := kt_ok hH r1
    rw [← hK] at s
    exact ⟨p, us, rfl, .inr ⟨s, rz_now q hH r1⟩⟩
  · obtain ⟨v, rfl, r1⟩ := rws1 r
    split at q
    · rename_i ws e
      obtain ⟨p, us, rfl, s, rs⟩ := lview_ok hH r1 e
      exact ⟨p, us, rfl, .inl ⟨SqL.of s, fun l hl => mkT_ok hH hl rs q⟩⟩
    · exact q.elim
  · exact q.elim
theorem unKs_ok {K : PySem.W.Frag} : ∀ {kvs : List (Key × V)} {ws : List W}, unKs (kvs.map fun p => DK.k p.1) = some ws → RWs K g ws (kvs.map fun kv => kV kv.1)
  | [], _, e => by cases e; exact .nil
  | p :: kvs, _, e => by
    rw [List.map_cons] at e ⊢
    unfold unKs at e
    split at e
    · rename_i w ws e1 e2
      cases e
      refine .cons ?_ (unKs_ok e2)
      obtain ⟨k, v⟩ := p
      cases k with
      | inl i => cases e1; exact mint _
      | inr i => cases e1; exact mstr _
    · cases e
theorem c_list (bx : Bool) (hK : X.K = Γ.K) (hc : X.calm = true) : CallS Γ Wx X (.type "list") (m_list bx) := by
  refine ⟨_, call_list_of.or (call_listD hc), fun {g h H σ xs vs Q} hH r q => ?_⟩
  unfold m_list at q
  split at q
  · obtain ⟨v, rfl, r1⟩ := rws1 r
    split at q
    · rename_i ws e
      obtain ⟨p, us, rfl, s, rs⟩ := sview_ok hH r1 e
      rw [← hK] at s
      exact .inl ⟨p, us, rfl, s, fun l hl => mkL_ok hH hl rs q⟩
    · split at q
      · rename_i ks ws' e
        split at q
        · rename_i ws e2
          split at q
          · rename_i hn
            obtain ⟨p, us, rfl, d, rs⟩ := dview_ok hH r1 e
            have hk : ks.all isK = true := by
              clear e hn d rs q
              induction ks generalizing ws with
              | nil => rfl
              | cons k ks ih =>
                unfold unKs at e2
                split at e2
                · rename_i w ws2 a1 a2
                  rw [List.all_cons, ih _ a2]
                  cases k with
                  | k _ => rfl
                  | t _ => cases a1
                · cases e2
            obtain ⟨kvs, e1, hk, hv⟩ := all_isK hk hn d
            subst hk
            exact .inr ⟨p, kvs, rfl, e1, fun l hl => mkL_ok hH hl (unKs_ok e2) q⟩
          · exact q.elim
        · exact q.elim
      · exact q.elim
  · exact q.elim
theorem c_max2 (hc : X.calm = true) : CallS Γ Wx X (.builtin "max") m_max2 := by
  refine ⟨_, call_max2 hc, fun {g h H σ xs vs Q} hH r q => ?_⟩
  unfold m_max2 at q
  split at q
  · obtain ⟨v, u, rfl, r1, r2⟩ := rws2 r
    cases rint r1; cases rint r2
    exact ⟨_, _, rfl, rz_now q hH (mint _)⟩
  · exact q.elim
theorem c_min2 (hc : X.calm = true) : CallS Γ Wx X (.builtin "min") m_min2 := by
  refine ⟨_, call_min2 hc, fun {g h H σ xs vs Q} hH r q => ?_⟩
  unfold m_min2 at q
  split at q
  · obtain ⟨v, u, rfl, r1, r2⟩ := rws2 r
    cases rint r1; cases rint r2
    exact ⟨_, _, rfl, rz_now q hH (mint _)⟩
  · exact q.elim
end

/-! ### one's own defs -/
def spM (Γ : Γ) (n : Nat) (m : List W → HS → R W) : Sp := fun vs H Q E => vs.length = n ∧ ∃ g h ws, RH Γ g h H ∧ RWs Γ.K g ws vs ∧ (match m ws h with
  | .ok w h' => ∀ g' v H', g.le g' → RH Γ g' h' H' → RW Γ.K g' w v → Q v H'
  | .exc c h' => ∀ g' H', g.le g' → RH Γ g' h' H' → E (.ref (Γ.cls c)) none H'
  | .no => False)
def go (n : Nat) (m : List W → HS → R W) (xs : List W) (h : HS) : R W := if xs.length = n then m xs h else .no
def eCall (n : Nat) (m : List W → HS → R W) (ds : List W) (fr : Ax) : Ex := fun sl h => (fr sl h).bind fun xs h1 => go n m (xs ++ ds) h1
def insOf (c : Nat) (name : Str) (x : W) (h : HS) : Bool := match x with
  | .box n => match h.at_ n with
    | some (.ins c' ks ws) => c == c' && !ks.contains name
    | _ => false
  | _ => false
def eMeth (c : Nat) (name : Str) (n : Nat) (m : List W → HS → R W) (ds : List W) (fo : Ex) (fr : Ax) : Ex := fun sl h => (fo sl h).bind fun x h1 => if insOf c name x h1 then (fr sl h1).bind fun xs h2 => go n m (x :: (xs ++ ds)) h2 else .no
def eMake (c : Nat) (n : Nat) (m : List W → HS → R W) (ds : List W) (fr : Ax) : Ex := fun sl h => (fr sl h).bind fun xs h1 => (go n m (.box h1.nx :: (xs ++ ds)) (h1.new (.ins c [] []))).bind fun r h2 => if isNon r then .ok (.box h1.nx) h2 else .no
section
variable {Γ : Γ} {Wx : WX} {X : Cx} {g : G} {h : HS} {H : Hp} {k : Nat} {f : Addr} {fd : FuncData} {ps : List Str} {n : Nat} {m : List W → HS → R W} {dvs : List V} {ds : List Value} {dws : List W} {x : Str} {p pos apos : Pos} {e o : Expr} {es : List Expr} {fr : Ax} {fo : Ex}
theorem sp_of {σ : L2.St} {ws : List W} {vs : List V} {Q : VK} (hH : RH Γ g h H) (r : RWs Γ.K g ws vs) (q : Rz Γ Wx (RW Γ.K) g (go n m ws h) σ Q) : spM Γ n m vs H Q (WE Wx σ) := by
  unfold go at q
  split at q
  · rename_i hn
    refine ⟨by rw [← r.len]; exact hn, g, h, ws, hH, r, ?_⟩
    cases hm : m ws h with
    | ok w h' => rw [hm] at q; exact q
    | exc c h' => rw [hm] at q; exact q
    | no => rw [hm] at q; exact q
  · exact q.elim
theorem e_call (F : FnOk X.prog X.w X.K X.mg X.base (L2.CX X.prog X.w) k f fd ps (spM Γ n m)) (hr : Room k X.A) (hm : X.mg x = some (.ref f)) (hk : PySem.W.keepIn X.K (.ref f) = true) (hb : Binds X.K fd ps ds) (hd : Vals dvs ds) (rd : ∀ g, RWs Γ.K g dws dvs) (tk : Takes X Wx)
    (ha : PA X (e :: es) (RDA Γ Wx fr)) (hg : Gl X x := by rfl) (hdb : (x == ("__debug__" : Str)) = false := by decide)
    (he : starEach (e :: es) X.env = (false, eval e X.env) :: starEach es X.env := by rfl) (hpl : (backTo pos (starEach es X.env)).any (·.1) = false := by rfl) :
    PE X (.Call (.Name x p) (e :: es) [] pos) (RDE Γ Wx (eCall n m dws fr)) := by
  refine PE.imp (pe_callSD (E := WE Wx) F hr hg hm hk hb hd (fun σ => passAt tk σ) ha hdb he hpl) fun σ H Q ⟨g, sl, h, hH, hS, q⟩ => ?_
  exact RDA.mono (fun v H1 ⟨g1, h1, w1, l1, hH1, r1, q1⟩ => sp_of hH1 (r1.app (rd g1)) q1) (RDA.step hH hS q)
theorem e_call0 (F : FnOk X.prog X.w X.K X.mg X.base (L2.CX X.prog X.w) k f fd ps (spM Γ n m)) (hr : Room k X.A) (hm : X.mg x = some (.ref f)) (hk : PySem.W.keepIn X.K (.ref f) = true) (hb : Binds X.K fd ps ds) (hd : Vals dvs ds) (rd : ∀ g, RWs Γ.K g dws dvs) (tk : Takes X Wx)
    (hg : Gl X x := by rfl) (hdb : (x == ("__debug__" : Str)) = false := by decide) :
    PE X (.Call (.Name x p) [] [] pos) (RDE Γ Wx (eCall n m dws aNil)) := by
  refine ⟨fun pins s σ H Q I ⟨g, sl, h, hH, hS, q⟩ => ?_⟩
  refine wpAny_Call_Name_kw (ld_glob I hg hm ?_ hdb)
  exact PySem.W.callWith_K0 I.kIn hk (run_fnSD (E := WE Wx) (us := []) (vs := []) F hr hb hd (passAt tk σ) I .nil (sp_of hH (rd g) q))
theorem ins_ok {c : Nat} {name : Str} {w : W} {v : V} (hH : RH Γ g h H) (r : RW Γ.K g w v) (e : insOf c name w h = true) : ∃ a dx fs, v = .ref a ∧ H a = some (.ins (Γ.cls c) dx fs) ∧ fs.lookup name = none := by
  unfold insOf at e
  split at e
  · rename_i n
    split at e
    · rename_i c' ks ws ec
      rw [Bool.and_eq_true, Bool.not_eq_true'] at e
      obtain ⟨e1, e2⟩ := e
      have e1 := beq_iff_eq.mp e1
      subst e1
      unfold RW at r
      obtain ⟨hn, rfl⟩ := r
      obtain ⟨_, _, dx, vs, hl, e3, rs⟩ := hH.cell n _ ec
      refine ⟨_, dx, _, rfl, e3, ?_⟩
      cases q : (ks.zip vs).lookup name with
      | none => rfl
      | some v =>
        have hm := PySem.mem_of_lookup q
        have := (List.of_mem_zip hm).1
        have : ks.contains name = true := List.contains_iff_mem.mpr this
        rw [this] at e2
        cases e2
    · cases e
  · cases e
theorem e_meth {pl : Sem Bool} {c : Nat} {mn : Str} (F : FnOk X.prog X.w X.K X.mg X.base (L2.CX X.prog X.w) k f fd ps (spM Γ n m)) (hr : Room k X.A) (hK : X.K = Γ.K) (cl : Cls X.K (Γ.cls c)) (hm : Meth X.K (Γ.cls c) mn f) (hb : Binds X.K fd ps ds) (hd : Vals dvs ds) (rd : ∀ g, RWs Γ.K g dws dvs) (tk : Takes X Wx)
    (ho : PE X o (RDE Γ Wx fo)) (ha : PA X (e :: es) (RDA Γ Wx fr))
    (hst : starEach (e :: es) X.env = (false, eval e X.env) :: starEach es X.env := by rfl) (hpl : (backTo pos (starEach es X.env)).any (·.1) = false := by rfl)
    (ht : eval (.Call (.Attribute o mn apos) (e :: es) [] pos) X.env = (do
      let ov ← eval o X.env
      standAt apos.atName
      let (f, first) ← holding [ov] (getMethod ov mn pl)
      callWith pos f first (backTo pos (starEach (e :: es) X.env)) (backToKw pos (keywordEach [] X.env))) := by rfl) :
    PE X (.Call (.Attribute o mn apos) (e :: es) [] pos) (RDE Γ Wx (eMeth c mn n m dws fo fr)) := by
  refine ⟨fun pins s σ H Q I ⟨g, sl, h, hH, hS, q⟩ => ?_⟩
  refine PySem.W.methodCall_KW (pl := pl) (thn (ho.run pins s σ H _ I (RDE.step hH hS q)) fun u s1 ⟨x, H1, I1, rx, g1, h1, w1, l1, hH1, r1, q1⟩ => ?_) ht
  by_cases hi : insOf c mn w1 h1 = true
  · rw [if_pos hi] at q1
    obtain ⟨a, dx, fs, rfl, ea, l⟩ := ins_ok hH1 r1 hi
    obtain rfl : u = Value.ref a := rx
    refine getmeth_ok I1 ea cl hm l ?_
    refine PySem.W.callWith_K (first := [.ref a]) (h₀ := X.base) I.ok.mod.kin hm.kp (thn (ha.run pos pins s1 σ H1 _ I1 (RDA.step hH1 (SLk.mono l1 hS) q1)) fun us s2 ⟨vs, H2, I2, r, g2, h2, w2, l2, hH2, r2, q2⟩ => ⟨I2.kIn, ?_⟩) hst hpl
    exact run_fnSD (E := WE Wx) (us := .ref a :: us) (vs := .ref a :: vs) F hr hb hd (passAt tk σ) I2 (.cons rfl r) (sp_of hH2 (.cons (RW.mono l2 _ _ r1) (r2.app (rd g2))) q2)
  · rw [if_neg hi] at q1
    exact q1.elim
theorem e_meth0 {pl : Sem Bool} {c : Nat} {mn : Str} (F : FnOk X.prog X.w X.K X.mg X.base (L2.CX X.prog X.w) k f fd ps (spM Γ n m)) (hr : Room k X.A) (hK : X.K = Γ.K) (cl : Cls X.K (Γ.cls c)) (hm : Meth X.K (Γ.cls c) mn f) (hb : Binds X.K fd ps ds) (hd : Vals dvs ds) (rd : ∀ g, RWs Γ.K g dws dvs) (tk : Takes X Wx)
    (ho : PE X o (RDE Γ Wx fo))
    (ht : eval (.Call (.Attribute o mn apos) [] [] pos) X.env = (do
      let ov ← eval o X.env
      standAt apos.atName
      let (f, first) ← holding [ov] (getMethod ov mn pl)
      callWith pos f first (backTo pos (starEach [] X.env)) (backToKw pos (keywordEach [] X.env))) := by rfl) :
    PE X (.Call (.Attribute o mn apos) [] [] pos) (RDE Γ Wx (eMeth c mn n m dws fo aNil)) := by
  refine ⟨fun pins s σ H Q I ⟨g, sl, h, hH, hS, q⟩ => ?_⟩
  refine PySem.W.methodCall_KW (pl := pl) (thn (ho.run pins s σ H _ I (RDE.step hH hS q)) fun u s1 ⟨x, H1, I1, rx, g1, h1, w1, l1, hH1, r1, q1⟩ => ?_) ht
  by_cases hi : insOf c mn w1 h1 = true
  · rw [if_pos hi] at q1
    obtain ⟨a, dx, fs, rfl, ea, l⟩ := ins_ok hH1 r1 hi
    obtain rfl : u = Value.ref a := rx
    refine getmeth_ok I1 ea cl hm l ?_
    exact PySem.W.callWith_K0 (first := [.ref a]) I1.kIn hm.kp (run_fnSD (E := WE Wx) (us := [.ref a]) (vs := [.ref a]) F hr hb hd (passAt tk σ) I1 (.cons rfl .nil) (sp_of hH1 (.cons r1 (rd g1)) q1))
  · rw [if_neg hi] at q1
    exact q1.elim
/-- a new instance, __init__ at the slots -/
theorem run_makeS {CX : CXT} {C : Addr} {sp : Sp} {E : L2.St → XK} {pins : List (Addr × Obj)} {σ : L2.St} {s : Shared} {Q : VK} {us : List Value} {vs : List V} (M : Mk X.K C f) (F : FnOk X.prog X.w X.K X.mg X.base CX k f fd ps sp) (hr : Room (k + 1) X.A) (hb : Binds X.K fd ps ds) (hd : Vals dvs ds)
    (hx : PassesAt CX X σ (E σ)) (I : Inv X pins σ H s) (r : Vals vs us)
    (h : ∀ x dx, H x = none → H dx = none → dx ≠ x → sp (.ref x :: (vs ++ dvs)) (upd (upd H dx (.own x)) x (.ins C dx [])) (fun v H2 => v = .non ∧ Q (.ref x) H2) (E σ)) :
    wpAny (model X.prog X.w) X.A (call (.ref C) us) (EP X pins σ Q) X.xe s := by
  have hq := h (s.heap.objs.size + 1) s.heap.objs.size (I.hok.fresh (Nat.le_succ _)) (I.hok.fresh (Nat.le_refl _)) (Nat.ne_of_lt (Nat.lt_succ_self _))
  have I2 := Inv.made (C := C) I
  have r2 : Vals (V.ref (s.heap.objs.size + 1) :: (vs ++ dvs)) (Value.ref (s.heap.objs.size + 1) :: (us ++ ds)) := .cons rfl (r.append hd)
  have hl : (Value.ref (s.heap.objs.size + 1) :: us ++ ds).length = ps.length := by
    have e := r2.length
    rw [F.len _ _ _ _ hq] at e
    exact e.symm
  refine wpAny_call (make_map (f := f) I.kIn M.makes M.init (beq_iff_eq.mp M.fn) (codeAny_mono (F.run _ X.stack _ _ ⟨Value.ref (s.heap.objs.size + 1) :: us, []⟩ (Value.ref (s.heap.objs.size + 1) :: (us ++ ds)) _ _ (E σ) (hr.make C us [])
    (I2.env0.make C us []) (hb _ (Value.ref (s.heap.objs.size + 1) :: us) I2.kIn hl) r2 hq) fun r s' hq' => ?_))
  cases r with
  | error e => exact hx pins _ _ e s' I2 hq'
  | ok fl =>
    cases fl with
    | ret u =>
      obtain ⟨v, H', I3, rv, ev, q3⟩ := I2.after hq'
      subst ev
      exact ⟨rv, ⟨V.ref (s.heap.objs.size + 1), H', I3, rfl, q3⟩⟩
    | next => exact False.elim hq'
    | brk => exact False.elim hq'
    | cont => exact False.elim hq'
theorem make_rd {c : Nat} {σ : L2.St} {Q : VK} {xs : List W} {vs : List V} (hH : RH Γ g h H) (r : RWs Γ.K g xs vs) (rd : ∀ g, RWs Γ.K g dws dvs)
    (q : Rz Γ Wx (RW Γ.K) g ((go n m (.box h.nx :: (xs ++ dws)) (h.new (.ins c [] []))).bind fun r h2 => if isNon r then .ok (.box h.nx) h2 else .no) σ Q) :
    ∀ x dx, H x = none → H dx = none → dx ≠ x → spM Γ n m (.ref x :: (vs ++ dvs)) (upd (upd H dx (.own x)) x (.ins (Γ.cls c) dx [])) (fun v H2 => v = .non ∧ Q (.ref x) H2) (WE Wx σ) := by
  intro x dx hx hdx hne
  have y := hH.aux hdx (.own x)
  have hx' : upd H dx (.own x) x = none := by rw [upd_ne hne.symm]; exact hx
  obtain ⟨l, z, rb⟩ := y.box (c := .ins c [] []) (o := .ins (Γ.cls c) dx []) hx' ⟨dx, [], rfl, upd_same, .nil⟩
  refine sp_of (n := n) z (.cons rb ((RWs.mono l _ _ r).app (rd _))) (Rz.mono (fun v H2 ⟨g2, h2, w2, l2, hH2, r2, q2⟩ => ?_) (rz_step (Rz.le l q)))
  by_cases hi : isNon w2 = true
  · rw [if_pos hi] at q2
    refine ⟨?_, rz_now q2 hH2 (RW.mono l2 _ _ rb)⟩
    rw [isNon_ok r2] at hi
    exact of_decide_eq_true hi
  · rw [if_neg hi] at q2
    exact q2.elim
theorem e_make {c : Nat} (M : Mk X.K (Γ.cls c) f) (F : FnOk X.prog X.w X.K X.mg X.base (L2.CX X.prog X.w) k f fd ps (spM Γ n m)) (hr : Room (k + 1) X.A) (hm : X.mg x = some (.ref (Γ.cls c))) (hb : Binds X.K fd ps ds) (hd : Vals dvs ds) (rd : ∀ g, RWs Γ.K g dws dvs) (tk : Takes X Wx)
    (ha : PA X (e :: es) (RDA Γ Wx fr)) (hg : Gl X x := by rfl) (hdb : (x == ("__debug__" : Str)) = false := by decide)
    (he : starEach (e :: es) X.env = (false, eval e X.env) :: starEach es X.env := by rfl) (hpl : (backTo pos (starEach es X.env)).any (·.1) = false := by rfl) :
    PE X (.Call (.Name x p) (e :: es) [] pos) (RDE Γ Wx (eMake c n m dws fr)) := by
  refine ⟨fun pins s σ H Q I ⟨g, sl, h, hH, hS, q⟩ => ?_⟩
  refine wpAny_Call_Name_kw (ld_glob I hg hm ?_ hdb)
  refine PySem.W.callWith_K (h₀ := X.base) I.ok.mod.kin M.kp (thn (ha.run pos pins s σ H _ I (RDA.step hH hS q)) fun us s1 ⟨vs, H1, I1, r, g1, h1, w1, l1, hH1, r1, q1⟩ => ⟨I1.kIn, ?_⟩) he hpl
  exact run_makeS (E := WE Wx) M F hr hb hd (passAt tk σ) I1 r (make_rd hH1 r1 rd q1)
theorem e_make0 {c : Nat} (M : Mk X.K (Γ.cls c) f) (F : FnOk X.prog X.w X.K X.mg X.base (L2.CX X.prog X.w) k f fd ps (spM Γ n m)) (hr : Room (k + 1) X.A) (hm : X.mg x = some (.ref (Γ.cls c))) (hb : Binds X.K fd ps ds) (hd : Vals dvs ds) (rd : ∀ g, RWs Γ.K g dws dvs) (tk : Takes X Wx)
    (hg : Gl X x := by rfl) (hdb : (x == ("__debug__" : Str)) = false := by decide) :
    PE X (.Call (.Name x p) [] [] pos) (RDE Γ Wx (eMake c n m dws aNil)) := by
  refine ⟨fun pins s σ H Q I ⟨g, sl, h, hH, hS, q⟩ => ?_⟩
  refine wpAny_Call_Name_kw (ld_glob I hg hm ?_ hdb)
  exact PySem.W.callWith_K0 I.kIn M.kp (run_makeS (E := WE Wx) (us := []) (vs := []) M F hr hb hd (passAt tk σ) I .nil (make_rd hH .nil rd q))

/-- a def by its body -/
def bodyM (N : Nat) (f : Sx) (ws : List W) (h : HS) : R W := match f (ws.map some ++ List.replicate (N - ws.length) none) h with
  | .nx _ h' => .ok .non h'
  | .rt w h' => .ok w h'
  | .exc c _ h' => .exc c h'
  | _ => .no
theorem slk_start {N : List Str} {ws : List W} {vs : List V} (r : RWs Γ.K g ws vs) : SLk Γ g (ws.map some ++ List.replicate (N.length - ws.length) none) (L2.start N vs) := by
  intro i w e
  by_cases hi : i < ws.length
  · rw [List.getElem?_append_left (by simpa using hi), List.getElem?_map] at e
    cases q : ws[i]? with
    | none => rw [q] at e; cases e
    | some w' =>
      rw [q] at e
      cases e
      obtain ⟨v, e1, r1⟩ := r.get q
      refine ⟨v, ?_, r1⟩
      unfold L2.start
      rw [List.getElem?_append_left (by rw [List.length_map, ← r.len]; exact hi), List.getElem?_map, e1]
      rfl
  · rw [List.getElem?_append_right (by simpa using hi), List.getElem?_replicate] at e
    split at e <;> cases e
theorem start_len {N : List Str} {vs : List V} (h : vs.length ≤ N.length) : (L2.start N vs).length = N.length := by
  unfold L2.start
  rw [List.length_append, List.length_map, List.length_replicate]
  omega
theorem fn_ok {P : Program} {w : World} {K : PySem.W.Frag} {mg : Str → Option Value} {base : Heap} {x qual : Str} {st : Stmt} {f : Addr} {fd : FuncData} {N ps : List Str} {k : Nat} {b : Sx} (F : Fun K x qual st f fd) (S : FnScope N ps (defScope st))
    (hn : n = ps.length) (hb : ∀ (cdv : Value) (A : Around) (outer : List Env) (s : Shared) (H : Hp) (E : XK), Room k (A.deeper (PyProof.Rows.envOfC qual (defScope st) s.heap.objs.size f cdv)) →
      Takes (cxOf (L2.CX P w) P w K mg base N qual (defScope st) f cdv A outer s H E) (fun c d _ H' => E c d H') → PSs (cxOf (L2.CX P w) P w K mg base N qual (defScope st) f cdv A outer s H E) (defBody st) (RDS Γ (fun c d _ H' => E c d H') b)) :
    FnOk P w K mg base (L2.CX P w) (k + 1) f fd ps (spM Γ n (bodyM N.length b)) := by
  refine F.okX S (fun vs H Q E h => by rw [← hn]; exact h.1) fun cdv A outer s H vs Q E hr h => ?_
  obtain ⟨hl, g, h0, ws, hH, rs, q⟩ := h
  have tk : Takes (cxOf (L2.CX P w) P w K mg base N qual (defScope st) f cdv A outer s H E) (fun c d _ H' => E c d H') := takes_of rfl rfl rfl rfl
  refine ⟨_, hb cdv A outer s H E hr tk, g, _, h0, hH, slk_start (N := N) rs, ?_⟩
  unfold bodyM at q
  cases e : b (ws.map some ++ List.replicate (N.length - ws.length) none) h0 with
  | nx s1 h1 => rw [e] at q; exact fun g' σ' H' l a _ _ => q g' _ H' l a mnon
  | rt w1 h1 => rw [e] at q; exact q
  | exc c s1 h1 => rw [e] at q; exact fun g' σ' H' l a _ _ => q g' H' l a
  | bk s1 h1 => rw [e] at q; exact q.elim
  | ct s1 h1 => rw [e] at q; exact q.elim
  | no => rw [e] at q; exact q.elim
end
end Pk
end

/-! PkH -/
section
set_option Elab.async false
set_option linter.all false
set_option maxRecDepth 100000
namespace Pk
open PySem PySem.Spec L2

/-! ### statements -/
def sNil : Sx := fun sl h => .nx sl h
def RS.then (r : RS) (k : Sl → HS → RS) : RS := match r with
  | .nx s h => k s h
  | r => r
def sSeq (a b : Sx) : Sx := fun sl h => (a sl h).then b
def sExpr (f : Ex) : Sx := fun sl h => (f sl h).st sl fun _ h1 => .nx sl h1
def sRet (f : Ex) : Sx := fun sl h => (f sl h).st sl fun w h1 => .rt w h1
def sRetN : Sx := fun _ h => .rt .non h
def sIf (t : Tx) (a b : Sx) : Sx := fun sl h => (t sl h).st sl fun k h1 => if k then a sl h1 else b sl h1
def sRaise (c : Nat) : Sx := fun sl h => .exc c sl h
abbrev Gx := W → Sl → HS → Option (Sl × HS)
def gN (i : Nat) : Gx := fun w sl h => some (sl.set i (some w), h)
def gNilx : List W → Sl → HS → Option (Sl × HS)
  | [], sl, h => some (sl, h)
  | _ :: _, _, _ => none
def gConsx (t : Gx) (u : List W → Sl → HS → Option (Sl × HS)) : List W → Sl → HS → Option (Sl × HS)
  | [], _, _ => none
  | w :: ws, sl, h => match t w sl h with
    | some (s, h1) => u ws s h1
    | none => none
def gTupx (u : List W → Sl → HS → Option (Sl × HS)) : Gx := fun w sl h => match sview h w with
  | some ws => u ws sl h
  | none => none
def sAsg (f : Ex) (t : Gx) : Sx := fun sl h => (f sl h).st sl fun w h1 => match t w sl h1 with
  | some (s, h2) => .nx s h2
  | none => .no
def sPar (i j : Nat) (fr : Ax) : Sx := fun sl h => (fr sl h).st sl fun ws h1 => match ws with
  | [v, w] => .nx ((sl.set i (some v)).set j (some w)) h1
  | _ => .no
def sPar3 (i j k : Nat) (fr : Ax) : Sx := fun sl h => (fr sl h).st sl fun ws h1 => match ws with
  | [u, v, w] => .nx (((sl.set i (some u)).set j (some v)).set k (some w)) h1
  | _ => .no
def sAug (i : Nat) (m : W → W → HS → R W) (f : Ex) : Sx := fun sl h => match sl[i]? with
  | some (some x) => (f sl h).st sl fun y h1 => (m x y h1).st sl fun z h2 => .nx (sl.set i (some z)) h2
  | _ => .no
def whileL (t : Tx) (b : Sx) : Nat → Sl → HS → RS
  | 0, _, _ => .no
  | n + 1, sl, h => (t sl h).st sl fun k h1 => if k then (match b sl h1 with
    | .nx s h2 => whileL t b n s h2
    | .ct s h2 => whileL t b n s h2
    | .bk s h2 => .nx s h2
    | r => r) else .nx sl h1
def fuel : Nat := 1000000000000
def sWhile (t : Tx) (b : Sx) : Sx := whileL t b fuel

/-- the slots at vs alone may differ -/
def OnlyAt (vs : List Nat) (σ σ' : L2.St) : Prop := σ'.length = σ.length ∧ ∀ j, j ∉ vs → σ'[j]? = σ[j]?
theorem OnlyAt.refl (vs : List Nat) (σ : L2.St) : OnlyAt vs σ σ := ⟨rfl, fun _ _ => rfl⟩
def GR (Γ : Γ) (g : G) (vs : List Nat) (σ : L2.St) (r : Option (Sl × HS)) (Q : L2.St → Hp → Prop) : Prop := match r with
  | some (s, h1) => ∀ g' σ' H', g.le g' → RH Γ g' h1 H' → SLk Γ g' s σ' → OnlyAt vs σ σ' → Q σ' H'
  | none => False
def RDG (Γ : Γ) (vs : List Nat) (t : Gx) : TG := fun v σ H Q => ∃ g w sl h, RH Γ g h H ∧ SLk Γ g sl σ ∧ RW Γ.K g w v ∧ GR Γ g vs σ (t w sl h) Q
def RDGs (Γ : Γ) (is : List Nat) (t : List W → Sl → HS → Option (Sl × HS)) : TGs := fun vs σ H Q => ∃ g ws sl h, RH Γ g h H ∧ SLk Γ g sl σ ∧ RWs Γ.K g ws vs ∧ GR Γ g is σ (t ws sl h) Q
theorem GR.le {Γ : Γ} {g g' : G} {vs : List Nat} {σ : L2.St} {r : Option (Sl × HS)} {Q : L2.St → Hp → Prop} (l : g.le g') (x : GR Γ g vs σ r Q) : GR Γ g' vs σ r Q := by
  cases r with
  | none => exact x
  | some p => exact fun g2 σ' H' l2 => x g2 σ' H' (l.trans l2)

section
variable {Γ : Γ} {Wx : WX} {X : Cx} {a b e c : Expr} {f fa fb : Ex} {pos : Pos} {s1 s2 : Sx} {st : Stmt} {rest body orelse : List Stmt} {t : Tx}
theorem s_nil : PSs X [] (RDS Γ Wx sNil) := PSs.imp pss_nil fun D σ H ⟨g, sl, h, hH, hS, q⟩ => q g σ H (.refl g) hH hS rfl
theorem s_cons (p : PS X st (RDS Γ Wx s1)) (q : PSs X rest (RDS Γ Wx s2)) : PSs X (st :: rest) (RDS Γ Wx (sSeq s1 s2)) := by
  refine PSs.imp (pss_cons p q) fun D σ H ⟨g, sl, h, hH, hS, q⟩ => ⟨g, sl, h, hH, hS, ?_⟩
  unfold sSeq at q
  cases e : s1 sl h with
  | nx s h1 =>
    rw [e] at q
    intro g' σ' H' l a b hl
    refine ⟨g', s, h1, a, b, ?_⟩
    rw [hl]
    exact rzS_le l q
  | rt w h1 => rw [e] at q; exact q
  | bk s h1 => rw [e] at q; exact q
  | ct s h1 => rw [e] at q; exact q
  | exc c s h1 => rw [e] at q; exact q
  | no => rw [e] at q; exact q
theorem s_one (p : PS X st (RDS Γ Wx s1)) : PSs X [st] (RDS Γ Wx s1) := pss_one p
theorem s_pass : PS X (.Pass pos) (RDS Γ Wx sNil) := PS.imp ps_pass fun D σ H ⟨g, sl, h, hH, hS, q⟩ => q g σ H (.refl g) hH hS rfl
theorem s_expr (p : PE X e (RDE Γ Wx f)) (hs : swapsWith e none pos.line X.env = pure false := by rfl) : PS X (.Expr e pos) (RDS Γ Wx (sExpr f)) :=
  PS.imp (ps_expr p hs) fun D σ H ⟨g, sl, h, hH, hS, q⟩ => ⟨g, sl, h, hH, hS, Rz.mono (fun v H1 ⟨g1, h1, w1, l1, hH1, r1, q1⟩ => q1 g1 σ _ (.refl _) hH1 (SLk.mono l1 hS) rfl) (rz_st hS q)⟩
theorem s_ret (p : PE X e (RDE Γ Wx f)) : PS X (.Return (some e) pos) (RDS Γ Wx (sRet f)) :=
  PS.imp (ps_ret p) fun D σ H ⟨g, sl, h, hH, hS, q⟩ => ⟨g, sl, h, hH, hS, Rz.mono (fun v H1 ⟨g1, h1, w1, l1, hH1, r1, q1⟩ => q1 g1 _ _ (.refl _) hH1 r1) (rz_st hS q)⟩
theorem s_retN : PS X (.Return none pos) (RDS Γ Wx sRetN) := PS.imp ps_retN fun D σ H ⟨g, sl, h, hH, hS, q⟩ => q g _ _ (.refl g) hH mnon
theorem s_if (p : PT X c (RDT Γ Wx t)) (ha : PSs X body (RDS Γ Wx s1)) (hb : PSs X orelse (RDS Γ Wx s2)) : PS X (.If c body orelse pos) (RDS Γ Wx (sIf t s1 s2)) := by
  refine PS.imp (ps_if p ha hb) fun D σ H ⟨g, sl, h, hH, hS, q⟩ => ⟨g, sl, h, hH, hS, Rz.mono (fun v H1 ⟨g1, h1, w1, l1, hH1, r1, q1⟩ => ?_) (rz_st hS q)⟩
  subst r1
  by_cases hk : w1 = true
  · rw [if_pos hk] at q1 ⊢
    exact ⟨g1, sl, h1, hH1, SLk.mono l1 hS, q1⟩
  · rw [if_neg hk] at q1 ⊢
    exact ⟨g1, sl, h1, hH1, SLk.mono l1 hS, q1⟩
/-- raise X('..') -/
theorem s_raise {k : Nat} (hc : X.calm = true) (tk : Takes X Wx) (p : PMk X e (fun _ H Q => Q (.ref (Γ.cls k)) none H)) : PS X (.Raise (some e) none pos) (RDS Γ Wx (sRaise k)) :=
  PS.imp (ps_raise hc tk p) fun D σ H ⟨g, sl, h, hH, hS, q⟩ => q g σ H (.refl g) hH hS rfl

/-! targets, assignments -/
theorem g_name {x : Str} (i : Nat) (hN : X.N.Nodup) (hi : X.N[i]? = some x := by rfl) (hx : Loc X.env.scope x := by first | exact Or.inl rfl | exact Or.inr rfl) (hl : ∀ (pins : List (Addr × Obj)) (s : Shared) (σ : L2.St) (H : Hp), Inv X pins σ H s → i < σ.length := by
      intro pins s σ H I; rw [I.len]; exact (by decide))
    (hf : X.fn x = true ∨ X.env.scope.names.lookup x = some .local := by first | exact .inl rfl | exact .inr rfl) : PG X (.Name x pos) (RDG Γ [i] (gN i)) := by
  refine ⟨fun pins s σ H v u Q I r ⟨g, w, sl, h, hH, hS, rw, q⟩ => ?_⟩
  have q' := q g (σ.set i (some v)) H (.refl g) hH (hS.set rw (hl pins s σ H I)) ⟨by rw [List.length_set], fun j hj => List.getElem?_set_ne (fun z => hj (by rw [z]; exact List.mem_singleton.mpr rfl))⟩
  exact (pg_name (pos := pos) hN hi hx hf).run pins s σ H v u Q I r q'
theorem gs_nil : PGs X [] (RDGs Γ [] gNilx) := by
  refine ⟨fun pins s σ H vs us Q I r ⟨g, ws, sl, h, hH, hS, rw, q⟩ => ?_⟩
  cases ws with
  | nil => unfold RWs at rw; exact pgs_nil.run pins s σ H vs us Q I r ⟨rw, q g σ H (.refl g) hH hS (.refl _ _)⟩
  | cons _ _ => exact q.elim
theorem gs_cons {es : List Expr} {tg : Gx} {ug : List W → Sl → HS → Option (Sl × HS)} {is js : List Nat} (p : PG X e (RDG Γ is tg)) (p2 : PGs X es (RDGs Γ js ug)) (hs : (assignEach (e :: es) X.env).map (·.2) = assign e X.env :: (assignEach es X.env).map (·.2) := by rfl) :
    PGs X (e :: es) (RDGs Γ (is ++ js) (gConsx tg ug)) := by
  refine ⟨fun pins s σ H vs us Q I r ⟨g, ws, sl, h, hH, hS, rw, q⟩ => (pgs_cons p p2 hs).run pins s σ H vs us Q I r ?_⟩
  cases ws with
  | nil => exact q.elim
  | cons w ws =>
    unfold RWs at rw
    obtain ⟨v, vr, rfl, r1, rs⟩ := rw
    refine ⟨v, vr, rfl, g, w, sl, h, hH, hS, r1, ?_⟩
    have q : GR Γ g (is ++ js) σ (match tg w sl h with
      | some (s, h1) => ug ws s h1
      | none => none) Q := q
    cases e : tg w sl h with
    | none => rw [e] at q; exact q.elim
    | some p =>
      obtain ⟨s', h1⟩ := p
      rw [e] at q
      have q : GR Γ g (is ++ js) σ (ug ws s' h1) Q := q
      refine fun g' σ' H' l a b hl => ⟨g', ws, s', h1, a, b, RWs.mono l _ _ rs, ?_⟩
      have q := q.le l
      cases e2 : ug ws s' h1 with
      | none => rw [e2] at q; exact q.elim
      | some p =>
        rw [e2] at q
        exact fun g2 σ2 H2 l2 a2 b2 hl2 => q g2 σ2 H2 l2 a2 b2 ⟨hl2.1.trans hl.1, fun j hj => by
          rw [List.mem_append, not_or] at hj
          exact (hl2.2 j hj.2).trans (hl.2 j hj.1)⟩
theorem g_tup {es : List Expr} {k : Nat} {ug : List W → Sl → HS → Option (Sl × HS)} {is : List Nat} {n : Nat} (hK : X.K = Γ.K) (hc : X.calm = true) (p : PGs X es (RDGs Γ is ug)) (hlen : ∀ ws sl h r, ug ws sl h = some r → ws.length = n)
    (hn : (assignEach es X.env).length = n := by rfl) (hst : (assignEach es X.env).findIdx? (·.1) = none := by rfl) : PG X (.Tuple es k pos) (RDG Γ is (gTupx ug)) := by
  refine ⟨fun pins s σ H v u Q I r ⟨g, w, sl, h, hH, hS, rw, q⟩ => ?_⟩
  have q : GR Γ g is σ (match sview h w with
    | some ws => ug ws sl h
    | none => none) Q := q
  cases e : sview h w with
  | none => rw [e] at q; exact q.elim
  | some ws =>
    rw [e] at q
    have q : GR Γ g is σ (ug ws sl h) Q := q
    obtain ⟨p1, vs, rfl, s1, rs⟩ := sview_ok hH rw e
    have z1 : vs.length = n := by
      cases e2 : ug ws sl h with
      | none => rw [e2] at q; exact q.elim
      | some r => rw [← rs.len]; exact hlen ws sl h r e2
    rw [← hK] at s1
    rcases s1 with s1 | s1
    · exact (pg_lst (pos := pos) (k := k) hc p hn hst).run pins s σ H _ u Q I r ⟨p1, vs, rfl, s1, z1, g, ws, sl, h, hH, hS, rs, q⟩
    · exact (pg_tup (pos := pos) (k := k) hc p hn hst).run pins s σ H _ u Q I r ⟨p1, vs, rfl, s1, z1, g, ws, sl, h, hH, hS, rs, q⟩
theorem asg_rd {is : List Nat} {tg : Gx} {g : G} {h : HS} {H : Hp} {w : W} {v : V} {σ : L2.St} {D : Ends} {n : Nat} {sl : Sl} (hH : RH Γ g h H) (hS : SLk Γ g sl σ) (r : RW Γ.K g w v) (hn : σ.length = n) (q : RzS Γ Wx g n (match tg w sl h with
    | some (s, h2) => .nx s h2
    | none => .no) D) : RDG Γ is tg v σ H D.nx := by
  refine ⟨g, w, sl, h, hH, hS, r, ?_⟩
  cases e : tg w sl h with
  | none => rw [e] at q; exact q.elim
  | some p => obtain ⟨s, h2⟩ := p; rw [e] at q; subst hn; exact fun g' σ' H' l a b hl => q g' σ' H' l a b hl.1
theorem s_asg {target : Expr} {is : List Nat} {tg : Gx} (p : PE X e (RDE Γ Wx f)) (pg : PG X target (RDG Γ is tg)) (hs : swapsWithSole [target] e pos.line X.env = pure false := by rfl) (hw : swappedStores [target] e X.env = pure none := by rfl)
    (h1 : (assignEach [target] X.env).map (·.2) = [assign target X.env] := by rfl) : PS X (.Assign [target] e pos) (RDS Γ Wx (sAsg f tg)) :=
  PS.imp (ps_asg p pg hs hw h1) fun D σ H ⟨g, sl, h, hH, hS, q⟩ => ⟨g, sl, h, hH, hS, Rz.mono (fun v H1 ⟨g1, h1, w1, l1, hH1, r1, q1⟩ => asg_rd hH1 (SLk.mono l1 hS) r1 rfl q1) (rz_st hS q)⟩
/-- x = e, x a name of the def -/
theorem s_set {x : Str} {pos' : Pos} (i : Nat) (hN : X.N.Nodup) (p : PE X e (RDE Γ Wx f)) (hi : X.N[i]? = some x := by rfl) (hx : Loc X.env.scope x := by first | exact Or.inl rfl | exact Or.inr rfl)
    (hl : ∀ (pins : List (Addr × Obj)) (s : Shared) (σ : L2.St) (H : Hp), Inv X pins σ H s → i < σ.length := by
      intro pins s σ H I; rw [I.len]; exact (by decide))
    (hs : swapsWith e (some (.Name x pos')) pos.line X.env = pure false := by rfl) (hf : X.fn x = true ∨ X.env.scope.names.lookup x = some .local := by first | exact .inl rfl | exact .inr rfl) : PS X (.Assign [.Name x pos'] e pos) (RDS Γ Wx (sAsg f (gN i))) := by
  refine ⟨fun pins s σ H D I ⟨g, sl, h, hH, hS, q⟩ => (ps_set (pos' := pos') hN hi hx p hs hf).run pins s σ H D I ⟨g, sl, h, hH, hS, Rz.mono (fun v H1 ⟨g1, h1, w1, l1, hH1, r1, q1⟩ => ?_) (rz_st hS q)⟩⟩
  exact q1 g1 (σ.set i (some v)) H1 (.refl _) hH1 ((SLk.mono l1 hS).set r1 (hl pins s σ H I)) (by rw [List.length_set])
theorem s_par {x y : Str} {px py pt : Pos} {kt k2 pt2} {fr : Ax} (i j : Nat) (hc : X.calm = true) (hN : X.N.Nodup) (ha : PA X [a, b] (RDA Γ Wx fr)) (hi : X.N[i]? = some x := by rfl) (hj : X.N[j]? = some y := by rfl) (hij : i ≠ j := by decide)
    (hx : X.env.scope.names.lookup x = some .local := by rfl) (hy : X.env.scope.names.lookup y = some .local := by rfl)
    (hl : ∀ (pins : List (Addr × Obj)) (s : Shared) (σ : L2.St) (H : Hp), Inv X pins σ H s → i < σ.length ∧ j < σ.length := by
      intro pins s σ H I; rw [I.len]; exact (by decide))
    (hw : swappedStores [.Tuple [.Name x px, .Name y py] kt pt] (.Tuple [a, b] k2 pt2) X.env = pure (some [x, y]) := by rfl)
    (hs : swapsWithSole [.Tuple [.Name x px, .Name y py] kt pt] (.Tuple [a, b] k2 pt2) pos.line X.env = pure false := by rfl) :
    PS X (.Assign [.Tuple [.Name x px, .Name y py] kt pt] (.Tuple [a, b] k2 pt2) pos) (RDS Γ Wx (sPar i j fr)) := by
  refine ⟨fun pins s σ H D I ⟨g, sl, h, hH, hS, q⟩ => (ps_par hc hN hi hj hij hx hy ha hw hs).run pins s σ H D I ⟨g, sl, h, hH, hS, Rz.mono (fun v H1 ⟨g1, h1, w1, l1, hH1, r1, q1⟩ => ?_) (rz_st hS q)⟩⟩
  split at q1
  · obtain ⟨v1, v2, rfl, r2, r3⟩ := rws2 r1
    obtain ⟨l2, l3⟩ := hl pins s σ H I
    exact ⟨v1, v2, rfl, q1 g1 _ H1 (.refl _) hH1 (((SLk.mono l1 hS).set r2 l2).set r3 (by rw [List.length_set]; exact l3)) (by rw [List.length_set, List.length_set])⟩
  · exact q1.elim
/-- x op= e, numbers -/
theorem s_aug {op : Operator} {x : Str} {pos' : Pos} {k : Int → Int → Int} {m : W → W → HS → R W} (i : Nat) (hN : X.N.Nodup) (o : PIp X op (ipI k)) (hm : ∀ x y h, m x y h = (match x, y with
    | .int a, .int b => .ok (.int (k a b)) h
    | _, _ => .no)) (p : PE X e (RDE Γ Wx f)) (hi : X.N[i]? = some x := by rfl) (hx : Loc X.env.scope x := by first | exact Or.inl rfl | exact Or.inr rfl)
    (hl : ∀ (pins : List (Addr × Obj)) (s : Shared) (σ : L2.St) (H : Hp), Inv X pins σ H s → i < σ.length := by
      intro pins s σ H I; rw [I.len]; exact (by decide))
    (hf : X.fn x = true ∨ X.env.scope.names.lookup x = some .local := by first | exact .inl rfl | exact .inr rfl) : PS X (.AugAssign (.Name x pos') op e pos) (RDS Γ Wx (sAug i m f)) := by
  refine ⟨fun pins s σ H D I ⟨g, sl, h, hH, hS, q⟩ => (ps_aug (pos' := pos') hN hi hx p o hf).run pins s σ H D I ?_⟩
  unfold sAug at q
  split at q
  · rename_i x0 ex
    obtain ⟨v0, ev, rv⟩ := hS i _ ex
    refine ⟨v0, ev, g, sl, h, hH, hS, Rz.mono (fun v H1 ⟨g1, h1, w1, l1, hH1, r1, q1⟩ => ?_) (rz_st hS q)⟩
    rw [hm] at q1
    split at q1
    · cases rint rv; cases rint r1
      exact ⟨_, _, rfl, rfl, q1 g1 _ H1 (.refl _) hH1 ((SLk.mono l1 hS).set (mint _) (hl pins s σ H I)) (by rw [List.length_set])⟩
    · exact q1.elim
  · exact q.elim

/-! while -/
theorem s_while (hp : PassesOwn (model X.prog X.w) X.A X.env X.xe) (p : PT X c (RDT Γ Wx t)) (pb : PSs X body (RDS Γ Wx s1)) : PS X (.While c body [] pos) (RDS Γ Wx (sWhile t s1)) := by
  refine PS.imp (ps_while hp p pb) fun D σ H ⟨g, sl, h, hH, hS, q⟩ => ?_
  refine ⟨fun m σ' H' => ∃ g sl h, RH Γ g h H' ∧ SLk Γ g sl σ' ∧ σ'.length = σ.length ∧ RzS Γ Wx g σ.length (whileL t s1 m sl h) D, ⟨fuel, g, sl, h, hH, hS, rfl, q⟩, ?_⟩
  rintro m σ' H' ⟨g, sl, h, hH, hS, hn, q⟩
  cases m with
  | zero => exact q.elim
  | succ m =>
    rw [← hn] at q
    refine ⟨g, sl, h, hH, hS, Rz.mono (fun v H1 ⟨g1, h1, w1, l1, hH1, r1, q1⟩ => ?_) (rz_st hS q)⟩
    subst r1
    by_cases hk : w1 = true
    · rw [if_pos hk] at q1 ⊢
      refine ⟨fun σ2 H2 => ∃ g sl h, RH Γ g h H2 ∧ SLk Γ g sl σ2 ∧ σ2.length = σ.length ∧ RzS Γ Wx g σ.length (whileL t s1 m sl h) D, fun σ2 H2 w => ⟨m, Nat.lt_succ_self _, w⟩, g1, sl, h1, hH1, SLk.mono l1 hS, ?_⟩
      cases e : s1 sl h1 with
      | nx s h2 => rw [e] at q1; exact fun g' σ2 H2 l a b hl => ⟨g', s, h2, a, b, hl.trans hn, by rw [← hn]; exact rzS_le l q1⟩
      | ct s h2 => rw [e] at q1; exact fun g' σ2 H2 l a b hl => ⟨g', s, h2, a, b, hl.trans hn, by rw [← hn]; exact rzS_le l q1⟩
      | bk s h2 => rw [e] at q1; exact q1
      | rt w h2 => rw [e] at q1; exact q1
      | exc c s h2 => rw [e] at q1; exact q1
      | no => rw [e] at q1; exact q1
    · rw [if_neg hk] at q1 ⊢
      exact q1 g1 σ' H1 (.refl _) hH1 (SLk.mono l1 hS) rfl
end
end Pk
end

/-! PkI -/
section
set_option Elab.async false
set_option linter.all false
set_option maxRecDepth 100000
namespace Pk
open PySem PySem.Spec L2

/-! ### stores into fields, dicts, lists -/
def sputK : List Str → Str → List Str
  | [], f => [f]
  | k :: ks, f => if k = f then k :: ks else k :: sputK ks f
def sputW : List Str → List W → Str → W → List W
  | k :: ks, w :: ws, f, y => if k = f then y :: ws else w :: sputW ks ws f y
  | _, _, _, y => [y]
def setFld (cs : List Nat) (f : Str) (x y : W) (h : HS) : Option HS := match x with
  | .box n => match h.at_ n with
    | some (.ins c ks ws) => if cs.contains c = true ∧ ks.length < 1000 then some (h.put n (.ins c (sputK ks f) (sputW ks ws f y))) else none
    | _ => none
  | _ => none
def sFldx (cs : List Nat) (f : Str) (fv fo : Ex) : Sx := fun sl h => (fv sl h).st sl fun y h1 => (fo sl h1).st sl fun x h2 => match setFld cs f x y h2 with
  | some h3 => .nx sl h3
  | none => .no
def dhas (ks : List DK) (j : DK) : Bool := ks.any fun k => decide (k = j)
def drepl : List DK → List W → DK → W → List W
  | k :: ks, w :: ws, j, y => (if k = j then y else w) :: drepl ks ws j y
  | _, _, _, _ => []
def dputK (ks : List DK) (j : DK) : List DK := if dhas ks j = true then ks else ks ++ [j]
def dputW (ks : List DK) (ws : List W) (j : DK) (y : W) : List W := if dhas ks j = true then drepl ks ws j y else ws ++ [y]
def ddelK (ks : List DK) (j : DK) : List DK := ks.filter fun k => decide (k ≠ j)
def ddelW : List DK → List W → DK → List W
  | k :: ks, w :: ws, j => if k ≠ j then w :: ddelW ks ws j else ddelW ks ws j
  | _, _, _ => []
/-- o[i] = y -/
def setIx (x i y : W) (h : HS) : Option HS := match x with
  | .box n => match h.at_ n with
    | some (.dic ks ws) => match kOf i with
      | some j => if ks.all (sameK j) = true ∧ ks.length < sizeLine then some (h.put n (.dic (dputK ks j) (dputW ks ws j y))) else none
      | none => none
    | some (.lst ws) => match i with
      | .int z => match ixN ws.length z with
        | some k => some (h.put n (.lst (ws.set k y)))
        | none => none
      | _ => none
    | _ => none
  | _ => none
def gSubx (fo fi : Ex) : Sl → HS → W → R Unit := fun sl h v => (fo sl h).bind fun x h1 => (fi sl h1).bind fun i h2 => match setIx x i v h2 with
  | some h3 => .ok () h3
  | none => .no
def sSub (fv fo fi : Ex) : Sx := fun sl h => (fv sl h).st sl fun v h1 => (fo sl h1).st sl fun x h2 => (fi sl h2).st sl fun i h3 => match setIx x i v h3 with
  | some h4 => .nx sl h4
  | none => .no
section
variable {X : Cx} {pins : List (Addr × Obj)} {σ : L2.St} {H : Hp} {s : Shared} {a : Addr}
theorem dct_there (I : Inv X pins σ H s) (e : H a = some (.dK []) ∨ H a = some (.dT [])) : (a == sysModules) = false ∧ ∃ q, s.heap.get? a = some q := by
  rcases e with e | e
  · obtain ⟨_, hm, vs, _, q, _, _, hq, _⟩ := dk_of I.hok e
    exact ⟨hm, q, hq⟩
  · obtain ⟨_, hm, xs, _, q, _, _, hq, _⟩ := dt_of I.hok e
    exact ⟨hm, q, hq⟩
theorem e_rd (e : H a = some (.dK []) ∨ H a = some (.dT [])) : DctR H a [] [] := e.elim (fun e => .inl ⟨[], .inl e, rfl, rfl⟩) fun e => .inr ⟨[], .inl e, rfl, rfl⟩
theorem toK (I : Inv X pins σ H s) (e : H a = some (.dK []) ∨ H a = some (.dT [])) : Inv X pins σ (upd H a (.dK [])) s := by
  obtain ⟨hm, hq⟩ := dct_there I e
  have dd := (empty_at I.hok (e_rd e)).2
  have mu : Mut (H a) := by rcases e with e | e <;> (rw [e]; exact True.intro)
  exact I.write (x := a) (e := a) (t' := s.toks) mu (.inl rfl) (fun b u _ z => z) hq ⟨Nat.zero_le _, hm, [], .nil, dd⟩
theorem toT (I : Inv X pins σ H s) (e : H a = some (.dK []) ∨ H a = some (.dT [])) : Inv X pins σ (upd H a (.dT [])) s := by
  obtain ⟨hm, hq⟩ := dct_there I e
  obtain ⟨o, es, ep, h1, h2, h3, h4, _, h6⟩ := empty_atH I.hok (e_rd e)
  have mu : Mut (H a) := by rcases e with e | e <;> (rw [e]; exact True.intro)
  exact I.write (x := a) (e := a) (t' := s.toks) mu (.inl rfl) (fun b u _ z => z) hq ⟨Nat.zero_le _, hm, [], .nil, o, es, ep, h1, h2, h3, h4, List.nodup_nil⟩
/-- d[y] = v, an empty dict at any key -/
def DP (H : Hp) (a : Addr) (y v : V) (H' : Hp) : Prop := DPut H a y v H' ∨ ((H a = some (.dK []) ∨ H a = some (.dT [])) ∧
  ((∃ k, y = kV k ∧ H' = upd H a (.dK [(k, v)])) ∨ ∃ (b : Addr) (l : List Key), y = .ref b ∧ H b = some (.tup (l.map kV)) ∧ H' = upd H a (.dT [(l, v)])))
theorem dp_setItem {H' : Hp} {y v : V} {u r : Value} {A : Around} {E : Value → Shared → Prop} {Q : Unit → Shared → Prop} (hu : A.units + 1 < cLine) (I : Inv X pins σ H s) (g : DP H a y v H') (ry : RelV y u) (rv : RelV v r) (h : ∀ s', Inv X pins σ H' s' → Q () s') :
    wpAny (model X.prog X.w) A (setItem (.ref a) u r) Q E s := by
  have hz : (0 : Nat) < sizeLine := by rw [sizeLine_eq]; decide
  rcases g with g | ⟨e, ⟨k, rfl, rfl⟩ | ⟨b, l, rfl, hb, rfl⟩⟩
  · exact d_setItem hu I g ry rv h
  · refine d_setItem hu (toK I e) (.inl ⟨[], k, upd_same, rfl, hz, rfl⟩) ry rv fun s' I' => h s' ?_
    rw [upd_upd] at I'
    exact I'
  · have nb : b ≠ a := by rcases e with e | e <;> exact ne_of hb e (by intro z; cases z)
    refine d_setItem hu (toT I e) (.inr ⟨[], l, b, upd_same, rfl, by rw [upd_ne nb]; exact hb, hz, rfl⟩) ry rv fun s' I' => h s' ?_
    rw [upd_upd] at I'
    exact I'
theorem set_dict (hu : X.A.units + 1 < cLine) : PSet X (fun o i v H Q => ∃ a H', o = .ref a ∧ DP H a i v H' ∧ Q H') := by
  rintro pins s σ H o i v ov iv u Q I ro ri rv ⟨a, H', rfl, d, q⟩
  obtain rfl : ov = Value.ref a := ro
  exact dp_setItem hu I d ri rv fun s' I' => ⟨H', I', q⟩
theorem PSet.or {t t' : V → V → V → Hp → (Hp → Prop) → Prop} (a : PSet X t) (b : PSet X t') : PSet X (fun o i v H Q => t o i v H Q ∨ t' o i v H Q) := by
  intro pins s σ H o i v ov iv u Q I ro ri rv q
  rcases q with q | q
  · exact a pins s σ H o i v ov iv u Q I ro ri rv q
  · exact b pins s σ H o i v ov iv u Q I ro ri rv q
end
section
variable {Γ : Γ} {Wx : WX} {X : Cx} {g : G} {h : HS} {H : Hp} {o i e value : Expr} {fo fi fv : Ex} {pos pos' tpos : Pos}
theorem drepl_ok {K : PySem.W.Frag} {κ : Type} [DecidableEq κ] {c : κ → DK} (hc : ∀ a b, c a = c b → a = b) {w : W} {v : V} (rw' : RW K g w v) {j : κ} : ∀ {kvs : List (κ × V)} {ws : List W}, RWs K g ws (kvs.map (·.2)) →
    RWs K g (drepl (kvs.map fun p => c p.1) ws (c j) w) ((kvs.map (fun kv => if kv.1 = j then (kv.1, v) else kv)).map (·.2))
  | [], ws, r => by
    unfold RWs at r
    cases ws with
    | nil => exact .nil
    | cons _ _ => obtain ⟨_, _, z, _⟩ := r; cases z
  | p :: kvs, [], r => by unfold RWs at r; cases r
  | p :: kvs, x :: ws, r => by
    rw [List.map_cons] at r
    unfold RWs at r
    obtain ⟨v0, vr, e1, r1, rs⟩ := r
    cases e1
    rw [List.map_cons, List.map_cons, List.map_cons]
    unfold drepl
    refine .cons ?_ (drepl_ok hc rw' rs)
    by_cases hj : p.1 = j
    · rw [if_pos hj, if_pos (by rw [hj])]; exact rw'
    · rw [if_neg hj, if_neg (fun z => hj (hc _ _ z))]; exact r1
theorem dhas_ok {κ : Type} [DecidableEq κ] {c : κ → DK} (hc : ∀ a b, c a = c b → a = b) {j : κ} : ∀ {kvs : List (κ × V)}, dhas (kvs.map fun p => c p.1) (c j) = kvs.any fun kv => decide (kv.1 = j)
  | [] => rfl
  | p :: kvs => by
    have ih := dhas_ok hc (j := j) (kvs := kvs)
    unfold dhas at ih ⊢
    rw [List.map_cons, List.any_cons, List.any_cons, ih]
    congr 1
    exact decide_eq_decide.mpr ⟨fun z => hc _ _ z, fun z => by rw [z]⟩
theorem putK_put {K : PySem.W.Frag} {κ : Type} [DecidableEq κ] {c : κ → DK} (hc : ∀ a b, c a = c b → a = b) {w : W} {v : V} (rw' : RW K g w v) {j : κ} {kvs : List (κ × V)} {ws : List W} (r : RWs K g ws (kvs.map (·.2))) :
    dputK (kvs.map fun p => c p.1) (c j) = (putK kvs j v).map (fun p => c p.1) ∧ RWs K g (dputW (kvs.map fun p => c p.1) ws (c j) w) ((putK kvs j v).map (·.2)) := by
  unfold dputK dputW putK
  rw [dhas_ok hc]
  by_cases h : (kvs.any fun kv => decide (kv.1 = j)) = true
  · rw [if_pos h, if_pos h, if_pos h]
    refine ⟨?_, drepl_ok hc rw' r⟩
    rw [List.map_map]
    refine List.map_congr_left fun q _ => ?_
    show c q.1 = c (if q.1 = j then (q.1, v) else q).1
    split <;> rfl
  · rw [if_neg h, if_neg h, if_neg h, List.map_append, List.map_append]
    exact ⟨rfl, r.app (.cons rw' .nil)⟩
theorem dropK_ok {K : PySem.W.Frag} {κ : Type} [DecidableEq κ] {c : κ → DK} (hc : ∀ a b, c a = c b → a = b) {j : κ} : ∀ {kvs : List (κ × V)} {ws : List W}, RWs K g ws (kvs.map (·.2)) →
    ddelK (kvs.map fun p => c p.1) (c j) = (dropK kvs j).map (fun p => c p.1) ∧ RWs K g (ddelW (kvs.map fun p => c p.1) ws (c j)) ((dropK kvs j).map (·.2))
  | [], ws, r => by
    unfold RWs at r
    cases ws with
    | nil => exact ⟨rfl, .nil⟩
    | cons _ _ => obtain ⟨_, _, z, _⟩ := r; cases z
  | p :: kvs, [], r => by unfold RWs at r; cases r
  | p :: kvs, x :: ws, r => by
    rw [List.map_cons] at r
    unfold RWs at r
    obtain ⟨v0, vr, e1, r1, rs⟩ := r
    cases e1
    obtain ⟨i1, i2⟩ := dropK_ok hc (j := j) rs
    unfold ddelK dropK at i1 ⊢
    unfold dropK at i2
    rw [List.map_cons, List.filter_cons, List.filter_cons]
    unfold ddelW
    by_cases hj : p.1 = j
    · rw [if_neg (by simp [hj]), if_neg (by simp [hj]), if_neg (by simp [hj])]
      exact ⟨i1, i2⟩
    · rw [if_pos (by simp; exact fun z => hj (hc _ _ z)), if_pos (by simp [hj]), if_pos (by intro z; exact hj (hc _ _ z)), List.map_cons, List.map_cons, i1]
      exact ⟨rfl, .cons r1 i2⟩
theorem kinj : ∀ a b : Key, DK.k a = DK.k b → a = b := fun a b z => by injection z
theorem tinj : ∀ a b : List Key, DK.t a = DK.t b → a = b := fun a b z => by injection z
theorem putK_ne {α : Type} [DecidableEq α] (kvs : List (α × V)) (l : α) (v : V) : putK kvs l v ≠ [] := by
  cases kvs with
  | nil => simp [putK]
  | cons p r =>
    unfold putK
    first
      | (split <;> simp)
      | simp
theorem dctH_R {a : Addr} {ks : List DK} {vs : List V} (d : DctH H a ks vs) : DctR H a ks vs := by
  rcases d with ⟨kvs, e, z⟩ | ⟨kvs, e, z⟩
  · exact .inl ⟨kvs, .inl e, z⟩
  · exact .inr ⟨kvs, .inl e, z.1.1, z.2⟩
/-- a dict in a box is stored to -/
theorem dput_ok {n : Nat} {ks : List DK} {ws : List W} {i y : W} {vi vy : V} {j : DK} (hH : RH Γ g h H) (ec : h.at_ n = some (.dic ks ws)) (ri : RW Γ.K g i vi) (ry : RW Γ.K g y vy) (ej : kOf i = some j) (hs : ks.all (sameK j) = true) (hl : ks.length < sizeLine) :
    ∃ H', DP H (g.ρ n) vi vy H' ∧ RH Γ g (h.put n (.dic (dputK ks j) (dputW ks ws j y))) H' := by
  obtain ⟨_, _, vs, d, rs⟩ := hH.cell n _ ec
  have key := kOf_ok hH ri ej
  by_cases hn : ks = []
  · subst hn
    have e0 : (H (g.ρ n) = some (.dK []) ∨ H (g.ρ n) = some (.dT [])) ∧ vs = [] := by
      rcases d with ⟨kvs, e, hk, hv⟩ | ⟨kvs, e, hk, hv⟩
      · have : kvs = [] := by cases kvs with
          | nil => rfl
          | cons _ _ => cases hk
        subst this; exact ⟨.inl e, hv⟩
      · exact absurd (by cases kvs with
          | nil => rfl
          | cons _ _ => cases hk.1) hk.2
    obtain ⟨e0, rfl⟩ := e0
    have hws : ws = [] := by cases ws with
      | nil => rfl
      | cons _ _ => unfold RWs at rs; obtain ⟨_, _, z, _⟩ := rs; cases z
    subst hws
    rcases key with ⟨l, rfl, rfl⟩ | ⟨l, b, rfl, rfl, hb⟩
    · refine ⟨_, Or.inr ⟨e0, Or.inl ⟨l, rfl, rfl⟩⟩, hH.put ec ⟨[vy], .inl ⟨[(l, vy)], upd_same, rfl, rfl⟩, ?_⟩⟩
      exact .cons ry .nil
    · refine ⟨_, Or.inr ⟨e0, Or.inr ⟨b, l, rfl, hb, rfl⟩⟩, hH.put ec ⟨[vy], .inr ⟨[(l, vy)], upd_same, ⟨rfl, by simp⟩, rfl⟩, ?_⟩⟩
      exact .cons ry .nil
  · rcases key with ⟨l, rfl, rfl⟩ | ⟨l, b, rfl, rfl, hb⟩
    · obtain ⟨kvs, e, hk, hv⟩ := all_sameK hs hn (dctH_R d)
      have e : H (g.ρ n) = some (.dK kvs) := by
        rcases d with ⟨kvs', e', hk', hv'⟩ | ⟨kvs', e', hk', hv'⟩
        · rcases e with e | ⟨o, e⟩
          · exact e
          · rw [e'] at e; cases e
        · rcases e with e | ⟨o, e⟩
          · rw [e'] at e; cases e
          · rw [e'] at e; cases e
      subst hk; subst hv
      obtain ⟨p1, p2⟩ := putK_put (v := vy) kinj ry (j := l) rs
      refine ⟨_, Or.inl (Or.inl ⟨kvs, l, e, rfl, by simpa using hl, rfl⟩), hH.put ec ⟨_, .inl ⟨putK kvs l vy, upd_same, p1, rfl⟩, p2⟩⟩
    · obtain ⟨kvs, e, hk, hv⟩ := all_sameT hs hn (dctH_R d)
      have e : H (g.ρ n) = some (.dT kvs) := by
        rcases d with ⟨kvs', e', hk', hv'⟩ | ⟨kvs', e', hk', hv'⟩
        · rcases e with e | ⟨o, e⟩
          · rw [e'] at e; cases e
          · rw [e'] at e; cases e
        · rcases e with e | ⟨o, e⟩
          · exact e
          · rw [e'] at e; cases e
      subst hk; subst hv
      obtain ⟨p1, p2⟩ := putK_put (v := vy) tinj ry (j := l) rs
      refine ⟨_, Or.inl (Or.inr ⟨kvs, l, b, e, rfl, hb, by simpa using hl, rfl⟩), hH.put ec ⟨_, .inr ⟨putK kvs l vy, upd_same, ⟨p1, putK_ne kvs l vy⟩, rfl⟩, p2⟩⟩
theorem setIx_ok {x i y : W} {vx vi vy : V} {h' : HS} (hH : RH Γ g h H) (rx : RW Γ.K g x vx) (ri : RW Γ.K g i vi) (ry : RW Γ.K g y vy) (e : setIx x i y h = some h') (Q : Hp → Prop) (q : ∀ H', RH Γ g h' H' → Q H') :
    rSetL vx vi vy H Q ∨ ∃ a H', vx = .ref a ∧ DP H a vi vy H' ∧ Q H' := by
  unfold setIx at e
  split at e
  · rename_i n
    unfold RW at rx
    obtain ⟨hn, rfl⟩ := rx
    split at e
    · rename_i ks ws ec
      split at e
      · rename_i j ej
        split at e
        · rename_i hc
          cases e
          obtain ⟨H', d, hH'⟩ := dput_ok hH ec ri ry ej hc.1 hc.2
          exact .inr ⟨_, H', rfl, d, q H' hH'⟩
        · cases e
      · cases e
    · rename_i ws ec
      split at e
      · rename_i z
        split at e
        · rename_i k ek
          cases e
          cases rint ri
          obtain ⟨_, _, vs, ev, rs⟩ := hH.cell n _ ec
          refine .inl ⟨_, vs, z, k, rfl, rfl, ev, by rw [← rs.len]; exact ek, q _ (hH.put ec ⟨_, upd_same, rs.set ry k⟩)⟩
        · cases e
      · cases e
    · cases e
  · cases e
theorem s_sub (hu : X.A.units + 1 < cLine) (pv : PE X value (RDE Γ Wx fv)) (po : PE X o (RDE Γ Wx fo)) (pi : PE X i (RDE Γ Wx fi))
    (hs : swapsWithSole [.Subscript o i tpos] value pos.line X.env = pure false := by rfl) (hw : swappedStores [.Subscript o i tpos] value X.env = pure none := by rfl)
    (h1 : (assignEach [.Subscript o i tpos] X.env).map (·.2) = [assign (.Subscript o i tpos) X.env] := by rfl)
    (ha : ∀ v, assign (.Subscript o i tpos) X.env v = (do
      let ov ← holding [v] (eval o X.env)
      let iv ← holding [v, ov] (eval i X.env)
      standAt tpos
      holding [v, ov, iv] (setItem ov iv v)
      release [v, ov, iv] []) := by intro _; rfl) : PS X (.Assign [.Subscript o i tpos] value pos) (RDS Γ Wx (sSub fv fo fi)) := by
  refine PS.imp (ps_asg pv (pg_sub po pi (PSet.or set_list (set_dict hu)) ha) hs hw h1) fun D σ H ⟨g, sl, h, hH, hS, q⟩ => ⟨g, sl, h, hH, hS, Rz.mono (fun v H1 ⟨g1, h1, w1, l1, hH1, r1, q1⟩ => ?_) (rz_st hS q)⟩
  refine ⟨g1, sl, h1, hH1, SLk.mono l1 hS, Rz.mono (fun v2 H2 ⟨g2, h2, w2, l2, hH2, r2, q2⟩ => ?_) (rz_st (SLk.mono l1 hS) q1)⟩
  refine ⟨g2, sl, h2, hH2, SLk.mono (l1.trans l2) hS, Rz.mono (fun v3 H3 ⟨g3, h3, w3, l3, hH3, r3, q3⟩ => ?_) (rz_st (SLk.mono (l1.trans l2) hS) q2)⟩
  cases e : setIx w2 w3 w1 h3 with
  | none => rw [e] at q3; exact q3.elim
  | some h4 =>
    rw [e] at q3
    exact setIx_ok hH3 (RW.mono l3 _ _ r2) r3 (RW.mono (l2.trans l3) _ _ r1) e _ fun H' hH' => q3 g3 σ H' (.refl _) hH' (SLk.mono (l1.trans (l2.trans l3)) hS) rfl
/-- del d[k], keys ints and texts -/
def delIx (x i : W) (h : HS) : Option HS := match x with
  | .box n => match h.at_ n with
    | some (.dic ks ws) => match kOf i with
      | some (.k j) => if ks.all isK = true ∧ (dlook ks ws (.k j)).isSome = true then some (h.put n (.dic (ddelK ks (.k j)) (ddelW ks ws (.k j)))) else none
      | _ => none
    | _ => none
  | _ => none
def sDel (fo fi : Ex) : Sx := fun sl h => (fo sl h).st sl fun x h1 => (fi sl h1).st sl fun i h2 => match delIx x i h2 with
  | some h3 => .nx sl h3
  | none => .no
theorem s_del (po : PE X o (RDE Γ Wx fo)) (pi : PE X i (RDE Γ Wx fi)) : PS X (.Delete [.Subscript o i tpos] pos) (RDS Γ Wx (sDel fo fi)) := by
  refine PS.imp (ps_ddel po pi) fun D σ H ⟨g, sl, h, hH, hS, q⟩ => ⟨g, sl, h, hH, hS, Rz.mono (fun v H1 ⟨g1, h1, w1, l1, hH1, r1, q1⟩ => ?_) (rz_st hS q)⟩
  refine ⟨g1, sl, h1, hH1, SLk.mono l1 hS, Rz.mono (fun v2 H2 ⟨g2, h2, w2, l2, hH2, r2, q2⟩ => ?_) (rz_st (SLk.mono l1 hS) q1)⟩
  cases e : delIx w1 w2 h2 with
  | none => rw [e] at q2; exact q2.elim
  | some h3 =>
    rw [e] at q2
    have r1' := RW.mono l2 _ _ r1
    unfold delIx at e
    split at e
    · split at e
      · rename_i n _ _ ks ws ec
        split at e
        · rename_i j ej
          split at e
          · rename_i hc
            cases e
            unfold RW at r1'
            obtain ⟨hn, rfl⟩ := r1'
            obtain ⟨_, _, vs, d, rs⟩ := hH2.cell n _ ec
            have hne : ks ≠ [] := fun z => by
              subst z
              have : dlook [] ws (.k j) = none := by cases ws <;> rfl
              rw [this] at hc
              exact absurd hc.2 (by simp)
            obtain ⟨kvs, e1, hk, hv⟩ := all_isK hc.1 hne (dctH_R d)
            have e1 : H2 (g2.ρ n) = some (.dK kvs) := by
              rcases d with ⟨kvs', e', hk', hv'⟩ | ⟨kvs', e', hk', hv'⟩
              · rcases e1 with e1 | ⟨o, e1⟩
                · exact e1
                · rw [e'] at e1; cases e1
              · rcases e1 with e1 | ⟨o, e1⟩
                · rw [e'] at e1; cases e1
                · rw [e'] at e1; cases e1
            have ek : v2 = kV j := by
              rcases kOf_ok hH2 r2 ej with ⟨l, z1, z2⟩ | ⟨l, b, z1, _⟩
              · cases z1; exact z2
              · cases z1
            subst hk; subst hv
            obtain ⟨w0, hw0⟩ := Option.isSome_iff_exists.mp hc.2
            obtain ⟨v0, hv0, _⟩ := dlook_ok rfl rs hw0
            obtain ⟨p1, p2⟩ := dropK_ok kinj (j := j) rs
            refine ⟨_, kvs, j, rfl, e1, ek, by rw [hv0]; rfl, q2 g2 σ _ (.refl _) (hH2.put ec ⟨_, .inl ⟨dropK kvs j, upd_same, p1, rfl⟩, p2⟩) (SLk.mono (l1.trans l2) hS) rfl⟩
          · cases e
        · cases e
      · cases e
    · cases e
theorem sput_ok {K : PySem.W.Frag} {f : Str} {w : W} {v : V} (rw' : RW K g w v) : ∀ {ks : List Str} {ws : List W} {vs : List V}, ks.length = vs.length → RWs K g ws vs →
    ∃ vs', (sputK ks f).length = vs'.length ∧ putF f v (ks.zip vs) = (sputK ks f).zip vs' ∧ RWs K g (sputW ks ws f w) vs'
  | [], ws, vs, hl, r => by
    cases vs with
    | nil =>
      have : ws = [] := by cases ws with
        | nil => rfl
        | cons _ _ => unfold RWs at r; obtain ⟨_, _, z, _⟩ := r; cases z
      subst this
      exact ⟨[v], rfl, rfl, .cons rw' .nil⟩
    | cons _ _ => cases hl
  | k :: ks, [], vs, hl, r => by unfold RWs at r; subst r; cases hl
  | k :: ks, x :: ws, vs, hl, r => by
    unfold RWs at r
    obtain ⟨v0, vr, rfl, r1, rs⟩ := r
    obtain ⟨vs', i1, i2, i3⟩ := sput_ok rw' (ks := ks) (Nat.succ.inj hl) rs
    unfold sputK sputW
    rw [List.zip_cons_cons]
    unfold putF
    by_cases hk : k = f
    · rw [if_pos hk, if_pos hk, if_pos hk]
      exact ⟨v :: vr, hl, by rw [List.zip_cons_cons], .cons rw' rs⟩
    · rw [if_neg hk, if_neg hk, if_neg hk]
      exact ⟨v0 :: vs', by simp [i1], by rw [i2, List.zip_cons_cons], .cons r1 i3⟩
theorem s_fld {f : Str} (hK : X.K = Γ.K) (cs : List Nat) (hc : ∀ c ∈ cs, Cls Γ.K (Γ.cls c) ∧ NoAttr Γ.K (Γ.cls c) f) (pv : PE X value (RDE Γ Wx fv)) (po : PE X o (RDE Γ Wx fo)) (hs : swapsWith value (some (.Attribute o f pos')) pos.line X.env = pure false := by rfl) :
    PS X (.Assign [.Attribute o f pos'] value pos) (RDS Γ Wx (sFldx cs f fv fo)) := by
  refine PS.imp (ps_fld po pv hs) fun D σ H ⟨g, sl, h, hH, hS, q⟩ => ⟨g, sl, h, hH, hS, Rz.mono (fun v H1 ⟨g1, h1, w1, l1, hH1, r1, q1⟩ => ?_) (rz_st hS q)⟩
  refine ⟨g1, sl, h1, hH1, SLk.mono l1 hS, Rz.mono (fun v2 H2 ⟨g2, h2, w2, l2, hH2, r2, q2⟩ => ?_) (rz_st (SLk.mono l1 hS) q1)⟩
  cases e : setFld cs f w2 w1 h2 with
  | none => rw [e] at q2; exact q2.elim
  | some h3 =>
    rw [e] at q2
    unfold setFld at e
    split at e
    · split at e
      · rename_i c ks ws ec
        split at e
        · rename_i hcs
          cases e
          unfold RW at r2
          obtain ⟨hn, rfl⟩ := r2
          obtain ⟨_, _, dx, vs, hl, ev, rs⟩ := hH2.cell _ _ ec
          obtain ⟨c1, c2⟩ := hc c (List.contains_iff_mem.mp hcs.1)
          obtain ⟨vs', z1, z2, z3⟩ := sput_ok (f := f) (RW.mono l2 _ _ r1) hl rs
          refine ⟨_, Γ.cls c, dx, _, rfl, ev, by rw [hK]; exact c1, by rw [hK]; exact c2, ?_, ?_⟩
          · rw [List.length_zip, hl, Nat.min_self, ← hl]; exact hcs.2
          · rw [z2]
            exact q2 g2 σ _ (.refl _) (hH2.put ec ⟨dx, vs', z1, upd_same, z3⟩) (SLk.mono (l1.trans l2) hS) rfl
        · cases e
      · cases e
    · cases e
end
end Pk
end

/-! PkJ -/
section
set_option Elab.async false
set_option linter.all false
set_option maxRecDepth 100000
namespace Pk
open PySem PySem.Spec L2

/-! ### equality of trees -/
mutual
def beqW : W → W → Bool
  | .non, .non => true
  | .bl a, .bl b => a == b
  | .int a, .int b => a == b
  | .str a, .str b => decide (a = b)
  | .tup a, .tup b => beqWs a b
  | .lst a, .lst b => beqWs a b
  | .kt a, .kt b => beqWs a b
  | .dic k a, .dic l b => decide (k = l) && beqWs a b
  | .box a, .box b => a == b
  | .scr a, .scr b => a == b
  | .tx a, .tx b => decide (a = b)
  | _, _ => false
def beqWs : List W → List W → Bool
  | [], [] => true
  | a :: as, b :: bs => beqW a b && beqWs as bs
  | _, _ => false
end
mutual
theorem beqW_eq : ∀ (a b : W), beqW a b = true → a = b
  | .non, b, h => by cases b <;> first | rfl | cases h
  | .bl a, b, h => by
    cases b with
    | bl b => rw [beq_iff_eq.mp (show (a == b) = true from h)]
    | _ => cases h
  | .int a, b, h => by
    cases b with
    | int b => rw [beq_iff_eq.mp (show (a == b) = true from h)]
    | _ => cases h
  | .str a, b, h => by
    cases b with
    | str b => rw [of_decide_eq_true (show decide (a = b) = true from h)]
    | _ => cases h
  | .tup a, b, h => by
    cases b with
    | tup b => rw [beqWs_eq a b h]
    | _ => cases h
  | .lst a, b, h => by
    cases b with
    | lst b => rw [beqWs_eq a b h]
    | _ => cases h
  | .tx a, b, h => by
    cases b with
    | tx b => rw [of_decide_eq_true (show decide (a = b) = true from h)]
    | _ => cases h
  | .kt a, b, h => by
    cases b with
    | kt b => rw [beqWs_eq a b h]
    | _ => cases h
  | .dic k a, b, h => by
    cases b with
    | dic l b =>
      obtain ⟨h1, h2⟩ := Bool.and_eq_true_iff.mp (show (decide (k = l) && beqWs a b) = true from h)
      rw [of_decide_eq_true h1, beqWs_eq a b h2]
    | _ => cases h
  | .box a, b, h => by
    cases b with
    | box b => rw [beq_iff_eq.mp (show (a == b) = true from h)]
    | _ => cases h
  | .scr a, b, h => by
    cases b with
    | scr b => rw [beq_iff_eq.mp (show (a == b) = true from h)]
    | _ => cases h
theorem beqWs_eq : ∀ (a b : List W), beqWs a b = true → a = b
  | [], b, h => by cases b with
    | nil => rfl
    | cons _ _ => cases h
  | a :: as, b, h => by
    cases b with
    | nil => cases h
    | cons b bs =>
      obtain ⟨h1, h2⟩ := Bool.and_eq_true_iff.mp (show (beqW a b && beqWs as bs) = true from h)
      rw [beqW_eq a b h1, beqWs_eq as bs h2]
end
mutual
theorem beqW_refl : ∀ a : W, beqW a a = true
  | .non => rfl
  | .bl a => by show (a == a) = true; simp
  | .int a => by show (a == a) = true; simp
  | .str a => by show decide (a = a) = true; simp
  | .tup a => beqWs_refl a
  | .lst a => beqWs_refl a
  | .kt a => beqWs_refl a
  | .dic k a => by show (decide (k = k) && beqWs a a) = true; rw [beqWs_refl a]; simp
  | .box a => by show (a == a) = true; simp
  | .scr a => by show (a == a) = true; simp
  | .tx a => by show decide (a = a) = true; simp
theorem beqWs_refl : ∀ a : List W, beqWs a a = true
  | [] => rfl
  | a :: as => by show (beqW a a && beqWs as as) = true; rw [beqW_refl a, beqWs_refl as]; rfl
end

/-! ### what is walked -/
structure ItG (Γ : Γ) (J : It) (ws : List W) (kp : HS → Bool) (g : G) : Prop where
  go : ∀ g' h' H' i, g.le g' → RH Γ g' h' H' → kp h' = true → i < ws.length → J.go i H' ∧ ∀ x H'', J.yld i H' x H'' → ∃ g'', g'.le g'' ∧ RH Γ g'' h' H'' ∧ ∀ w, ws[i]? = some w → RW Γ.K g'' w x
  stop : ∀ g' h' H', g.le g' → RH Γ g' h' H' → kp h' = true → J.stop ws.length H'
abbrev Ix := Sl → HS → R (List W × (HS → Bool))
def RzI (Γ : Γ) (Wx : WX) (g : G) (r : R (List W × (HS → Bool))) (σ : L2.St) (Q : It → Hp → Prop) : Prop := match r with
  | .ok p h' => ∀ g' H' J, g.le g' → RH Γ g' h' H' → ItG Γ J p.1 p.2 g' → Q J H'
  | .exc c h' => ∀ g' H', g.le g' → RH Γ g' h' H' → Wx (.ref (Γ.cls c)) none σ H'
  | .no => False
def RDI (Γ : Γ) (Wx : WX) (src : Ix) : TI := fun σ H Q => ∃ g sl h, RH Γ g h H ∧ SLk Γ g sl σ ∧ RzI Γ Wx g (src sl h) σ Q
section
variable {Γ : Γ} {Wx : WX} {X : Cx} {g : G} {h : HS} {H : Hp} {sl : Sl} {σ : L2.St} {tg e a b c : Expr} {f fa fb fc : Ex} {p pos tpos : Pos}
theorem RzI.le {g g' : G} {r : R (List W × (HS → Bool))} {Q : It → Hp → Prop} (l : g.le g') (x : RzI Γ Wx g r σ Q) : RzI Γ Wx g' r σ Q := by
  cases r with
  | ok w h => exact fun g2 H' J l2 => x g2 H' J (l.trans l2)
  | exc c h => exact fun g2 H' l2 => x g2 H' (l.trans l2)
  | no => exact x
theorem rzI_step {α β : Type} {Rl : G → α → β → Prop} {r : R α} {k : α → HS → R (List W × (HS → Bool))} {Q : It → Hp → Prop} (x : RzI Γ Wx g (r.bind k) σ Q) :
    Rz Γ Wx Rl g r σ fun v H1 => ∃ g1 h1 w, g.le g1 ∧ RH Γ g1 h1 H1 ∧ Rl g1 w v ∧ RzI Γ Wx g1 (k w h1) σ Q := by
  cases r with
  | ok w h => exact fun g' v H' l a b => ⟨g', h, w, l, a, b, RzI.le l x⟩
  | exc c h => exact x
  | no => exact x
theorem PI.imp {wi wi' : TI} (x : PI X tg e wi) (q : ∀ σ H R, wi' σ H R → wi σ H R) : PI X tg e wi' := ⟨fun pins s σ H R I h => x.run pins s σ H R I (q _ _ _ h)⟩
/-- a list or a tuple -/
def keep (w : W) (ws : List W) (h : HS) : Bool := match w with
  | .box n => match h.at_ n with
    | some (.lst us) => beqWs us ws
    | _ => false
  | _ => true
def iSeq (f : Ex) : Ix := fun sl h => (f sl h).bind fun w h1 => match sview h1 w with
  | some ws => .ok (ws, keep w ws) h1
  | none => .no
theorem itt_ok {K : PySem.W.Frag} {a : Addr} {ws : List W} {kp : HS → Bool} (st : ∀ g' h' H', g.le g' → RH Γ g' h' H' → kp h' = true → ∃ vs, SqT K H' a vs ∧ RWs Γ.K g' ws vs) : ItG Γ (Itt K a) ws kp g := by
  refine ⟨fun g' h' H' i l r k hi => ?_, fun g' h' H' l r k => ?_⟩
  · obtain ⟨vs, q, rs⟩ := st g' h' H' l r k
    obtain ⟨v, hv, _⟩ := rs.get (List.getElem?_eq_getElem hi)
    refine ⟨⟨vs, v, q, hv⟩, fun x H'' ⟨e, y⟩ => ?_⟩
    subst e
    refine ⟨g', .refl _, r, fun w hw => ?_⟩
    obtain ⟨v', hv', rv⟩ := rs.get hw
    have := y vs q
    rw [hv'] at this
    cases this
    exact rv
  · obtain ⟨vs, q, rs⟩ := st g' h' H' l r k
    exact ⟨vs, q, by rw [rs.len]; exact Nat.le_refl _⟩
/-- the items stand as long as the walk keeps -/
theorem sview_keep {w : W} {v : V} {ws : List W} (hH : RH Γ g h H) (r : RW Γ.K g w v) (e : sview h w = some ws) : ∃ a, v = .ref a ∧
    ((∀ g' h' H', g.le g' → RH Γ g' h' H' → keep w ws h' = true → ∃ vs, H' a = some (.lst vs) ∧ RWs Γ.K g' ws vs) ∨ (∀ g' h' H', g.le g' → RH Γ g' h' H' → keep w ws h' = true → ∃ vs, SqT Γ.K H' a vs ∧ RWs Γ.K g' ws vs)) := by
  cases w with
  | tup us =>
    cases e
    obtain ⟨a, vs, e1, q, rs⟩ := tup_ok hH r
    refine ⟨a, e1, .inr fun g' h' H' l x _ => ?_⟩
    obtain ⟨a', vs', e2, q', rs'⟩ := tup_ok x (RW.mono l _ _ r)
    rw [e1] at e2; cases e2
    exact ⟨vs', q', rs'⟩
  | kt us =>
    cases e
    obtain ⟨a, vs, e1, q, rs⟩ := kt_ok hH r
    refine ⟨a, e1, .inr fun g' h' H' l x _ => ?_⟩
    obtain ⟨a', vs', e2, q', rs'⟩ := kt_ok x (RW.mono l _ _ r)
    rw [e1] at e2; cases e2
    exact ⟨vs', q', rs'⟩
  | lst us =>
    cases e
    obtain ⟨a, vs, e1, q, rs⟩ := lview_ok (ws := ws) hH r rfl
    refine ⟨a, e1, .inl fun g' h' H' l x _ => ?_⟩
    obtain ⟨a', vs', e2, q', rs'⟩ := lview_ok (ws := ws) x (RW.mono l _ _ r) rfl
    rw [e1] at e2; cases e2
    exact ⟨vs', q', rs'⟩
  | box n =>
    obtain ⟨a, vs, e1, q, rs⟩ := lview_ok hH r e
    refine ⟨a, e1, .inl fun g' h' H' l x k => ?_⟩
    have e3 : lview h' (.box n) = some ws := by
      unfold keep at k
      simp only at k
      unfold lview
      simp only
      cases q2 : h'.at_ n with
      | none => rw [q2] at k; cases k
      | some c =>
        rw [q2] at k
        cases c with
        | lst us => rw [beqWs_eq _ _ k]
        | _ => cases k
    obtain ⟨a', vs', e2, q', rs'⟩ := lview_ok x (RW.mono l _ _ r) e3
    rw [e1] at e2; cases e2
    exact ⟨vs', q', rs'⟩
  | _ => cases e
theorem i_seq (hK : X.K = Γ.K) (pe : PE X e (RDE Γ Wx f)) : PI X tg e (RDI Γ Wx (iSeq f)) := by
  refine ⟨fun pins s σ H R I ⟨g, sl, h, hH, hS, q⟩ => ?_⟩
  refine thn (pe.run pins s σ H _ I ⟨g, sl, h, hH, hS, rzI_step q⟩) fun v s1 ⟨x, H1, I1, r1, g1, h1, w1, l1, hH1, rw1, q1⟩ => ?_
  split at q1
  · rename_i ws e1
    obtain ⟨a, rfl, st⟩ := sview_keep hH1 rw1 e1
    cases r1
    have kp0 : keep w1 ws h1 = true := by
      cases w1 with
      | box n =>
        unfold keep
        have e2 : lview h1 (.box n) = some ws := e1
        unfold lview at e2
        simp only at e2
        simp only
        cases q2 : h1.at_ n with
        | none => rw [q2] at e2; cases e2
        | some c =>
          rw [q2] at e2
          cases c with
          | lst us => cases e2; exact beqWs_refl _
          | _ => cases e2
      | _ => rfl
    rcases st with st | st
    · obtain ⟨vs, hv, rs⟩ := st g1 h1 H1 (.refl _) hH1 kp0
      obtain ⟨its, rv, p, hz⟩ := I1.list (SqL.of hv)
      refine wpAny_pyIter_list p.isList ?_
      refine ⟨s1.heap.objs.size, [s1.heap.objs.size], _, _, H1, rfl, I1.kept (t' := s1.toks) fun b o e => Heap.get?_push_of_some _ e, turn_list a _, ⟨_, Heap.get?_push_size _ rfl, rfl, rfl⟩, fun b hb => ?_, q1 g1 H1 _ (.refl _) hH1 ?_⟩
      · have e : b = s1.heap.objs.size := by simpa using hb
        subst e
        exact I1.fpOk (Nat.le_refl _) (I1.hok.fresh (Nat.le_refl _))
      · refine ⟨fun g' h' H' i l r k hi => ?_, fun g' h' H' l r k => ?_⟩
        · obtain ⟨vs, q, rs⟩ := st g' h' H' l r k
          obtain ⟨v, hv, _⟩ := rs.get (List.getElem?_eq_getElem hi)
          refine ⟨⟨vs, v, SqL.of q, hv⟩, fun x H'' ⟨e, y⟩ => ?_⟩
          subst e
          refine ⟨g', .refl _, r, fun w hw => ?_⟩
          obtain ⟨v', hv', rv⟩ := rs.get hw
          have := y vs (SqL.of q)
          rw [hv'] at this
          cases this
          exact rv
        · obtain ⟨vs, q, rs⟩ := st g' h' H' l r k
          exact ⟨vs, SqL.of q, by rw [rs.len]; exact Nat.le_refl _⟩
    · obtain ⟨vs, hv, rs⟩ := st g1 h1 H1 (.refl _) hH1 kp0
      rw [← hK] at hv
      obtain ⟨its, rv, p, hz⟩ := I1.tuple hv
      refine wpAny_pyIter_tuple (show s1.heap.IsTuple a its.toArray from p) ?_
      refine ⟨s1.heap.objs.size, [s1.heap.objs.size], _, _, H1, rfl, I1.kept (t' := s1.toks) fun b o e => Heap.get?_push_of_some _ e, turn_tuple a _, ⟨_, Heap.get?_push_size _ rfl, rfl, rfl⟩, fun b hb => ?_, q1 g1 H1 _ (.refl _) hH1 ?_⟩
      · have e : b = s1.heap.objs.size := by simpa using hb
        subst e
        exact I1.fpOk (Nat.le_refl _) (I1.hok.fresh (Nat.le_refl _))
      · exact itt_ok fun g' h' H' l r k => by
          obtain ⟨vs, q, rs⟩ := st g' h' H' l r k
          exact ⟨vs, by rw [hK]; exact q, rs⟩
  · exact q1.elim
/-- ranges -/
def rItems (lo c : Int) (n : Nat) : List W := (List.range n).map fun i => W.int (lo + (i : Nat) * c)
theorem rItems_len (lo c : Int) (n : Nat) : (rItems lo c n).length = n := by unfold rItems; rw [List.length_map, List.length_range]
theorem rItems_get {lo c : Int} {n i : Nat} {w : W} (h : (rItems lo c n)[i]? = some w) : w = .int (lo + (i : Nat) * c) := by
  unfold rItems at h
  rw [List.getElem?_map] at h
  cases q : (List.range n)[i]? with
  | none => rw [q] at h; cases h
  | some j =>
    rw [q] at h
    cases h
    obtain ⟨h1, h2⟩ := List.getElem?_eq_some_iff.mp q
    rw [List.getElem_range] at h2
    rw [h2]
theorem itr_ok {lo : Int} {n : Nat} : ItG Γ (Itr lo n) (rItems lo 1 n) (fun _ => true) g := by
  refine ⟨fun g' h' H' i l r k hi => ?_, fun g' h' H' l r k => ?_⟩
  · rw [rItems_len] at hi
    refine ⟨hi, fun x H'' ⟨e, y⟩ => ?_⟩
    subst e; subst y
    refine ⟨g', .refl _, r, fun w hw => ?_⟩
    rw [rItems_get hw, Int.mul_one]
    exact mint _
  · rw [rItems_len]; exact Nat.le_refl _
theorem itc_ok {lo c : Int} {n : Nat} : ItG Γ (Itc lo c n) (rItems lo c n) (fun _ => true) g := by
  refine ⟨fun g' h' H' i l r k hi => ?_, fun g' h' H' l r k => ?_⟩
  · rw [rItems_len] at hi
    refine ⟨hi, fun x H'' ⟨e, y⟩ => ?_⟩
    subst e; subst y
    refine ⟨g', .refl _, r, fun w hw => ?_⟩
    rw [rItems_get hw]
    exact mint _
  · rw [rItems_len]; exact Nat.le_refl _
def iR1 (fr : Ax) : Ix := fun sl h => (fr sl h).bind fun ws h1 => match ws with
  | [.int j] => if -(2 ^ 62) ≤ j ∧ j < 2 ^ 62 then .ok (rItems 0 1 j.toNat, fun _ => true) h1 else .no
  | _ => .no
def iR2 (fr : Ax) : Ix := fun sl h => (fr sl h).bind fun ws h1 => match ws with
  | [.int i, .int j] => if -(2 ^ 62) ≤ i ∧ i < 2 ^ 62 ∧ -(2 ^ 62) ≤ j ∧ j < 2 ^ 62 then .ok (rItems i 1 (j - i).toNat, fun _ => true) h1 else .no
  | _ => .no
def rgN (i j c : Int) : Nat := (Builtin.Range.rangeSize i j c).toNat
def rgOk (i j c : Int) : Bool := decide (c ≠ 0) && decide (c.natAbs < 1073741824) && Builtin.Range.small i j c && decide (0 ≤ Builtin.Range.rangeSize i j c)
def iR3 (fr : Ax) : Ix := fun sl h => (fr sl h).bind fun ws h1 => match ws with
  | [.int i, .int j, .int c] => if rgOk i j c = true then .ok (rItems i c (rgN i j c), fun _ => true) h1 else .no
  | _ => .no
theorem i_r1 {fr : Ax} (hg : Gl X "range") (hm : X.mg "range" = none) (ha : PA X [a] (RDA Γ Wx fr)) (hs : starEach [a] X.env = [(false, eval a X.env)] := by rfl) : PI X tg (.Call (.Name "range" p) [a] [] pos) (RDI Γ Wx (iR1 fr)) := by
  refine PI.imp (pi_range1 hg hm ha hs) fun σ H R ⟨g, sl, h, hH, hS, q⟩ => ⟨g, sl, h, hH, hS, Rz.mono (fun v H1 ⟨g1, h1, w1, l1, hH1, r1, q1⟩ => ?_) (rzI_step q)⟩
  split at q1
  · split at q1
    · rename_i hb
      obtain ⟨v1, rfl, r2⟩ := rws1 r1
      cases rint r2
      exact ⟨_, rfl, hb.1, hb.2, q1 g1 H1 _ (.refl _) hH1 itr_ok⟩
    · exact q1.elim
  · exact q1.elim
theorem i_r2 {fr : Ax} (hg : Gl X "range") (hm : X.mg "range" = none) (ha : PA X [a, b] (RDA Γ Wx fr)) (hs : starEach [a, b] X.env = [(false, eval a X.env), (false, eval b X.env)] := by rfl) (hs2 : starEach [b] X.env = [(false, eval b X.env)] := by rfl) :
    PI X tg (.Call (.Name "range" p) [a, b] [] pos) (RDI Γ Wx (iR2 fr)) := by
  refine PI.imp (pi_range2 hg hm ha hs hs2) fun σ H R ⟨g, sl, h, hH, hS, q⟩ => ⟨g, sl, h, hH, hS, Rz.mono (fun v H1 ⟨g1, h1, w1, l1, hH1, r1, q1⟩ => ?_) (rzI_step q)⟩
  split at q1
  · split at q1
    · rename_i hb
      obtain ⟨v1, v2, rfl, r2, r3⟩ := rws2 r1
      cases rint r2; cases rint r3
      exact ⟨_, _, rfl, hb, q1 g1 H1 _ (.refl _) hH1 itr_ok⟩
    · exact q1.elim
  · exact q1.elim
theorem rws3 {K : PySem.W.Frag} {x y z : W} {vs : List V} (r : RWs K g [x, y, z] vs) : ∃ v u t, vs = [v, u, t] ∧ RW K g x v ∧ RW K g y u ∧ RW K g z t := by
  unfold RWs at r
  obtain ⟨v, vr, rfl, r1, rs⟩ := r
  obtain ⟨u, t, rfl, r2, r3⟩ := rws2 rs
  exact ⟨v, u, t, rfl, r1, r2, r3⟩
theorem rgOk_ok {i j c : Int} (h : rgOk i j c = true) : RgC i j c (rgN i j c) := by
  unfold rgOk at h
  simp only [Bool.and_eq_true, decide_eq_true_eq] at h
  obtain ⟨⟨⟨h1, h2⟩, h3⟩, h4⟩ := h
  refine ⟨h1, h2, h3, ?_⟩
  unfold rgN
  omega
theorem i_r3 {fr : Ax} (hg : Gl X "range") (hm : X.mg "range" = none) (ha : PA X [a, b, c] (RDA Γ Wx fr)) (hs : starEach [a, b, c] X.env = (false, eval a X.env) :: starEach [b, c] X.env := by rfl) (hpl : (backTo pos (starEach [b, c] X.env)).any (·.1) = false := by rfl) :
    PI X tg (.Call (.Name "range" p) [a, b, c] [] pos) (RDI Γ Wx (iR3 fr)) := by
  refine PI.imp (pi_range3 hg hm ha hs hpl) fun σ H R ⟨g, sl, h, hH, hS, q⟩ => ⟨g, sl, h, hH, hS, Rz.mono (fun v H1 ⟨g1, h1, w1, l1, hH1, r1, q1⟩ => ?_) (rzI_step q)⟩
  split at q1
  · split at q1
    · rename_i hb
      obtain ⟨v1, v2, v3, rfl, r2, r3, r4⟩ := rws3 r1
      cases rint r2; cases rint r3; cases rint r4
      exact ⟨_, _, _, _, rfl, rgOk_ok hb, q1 g1 H1 _ (.refl _) hH1 itc_ok⟩
    · exact q1.elim
  · exact q1.elim
/-- the signs of a text -/
def iTxt (f : Ex) : Ix := fun sl h => (f sl h).bind fun w h1 => match w with
  | .str x => .ok (x.cps.toList.map fun c => W.str ⟨#[c]⟩, fun _ => true) h1
  | _ => .no
theorem i_txt (pe : PE X e (RDE Γ Wx f)) : PI X tg e (RDI Γ Wx (iTxt f)) := by
  refine PI.imp (pi_str pe) fun σ H R ⟨g, sl, h, hH, hS, q⟩ => ⟨g, sl, h, hH, hS, Rz.mono (fun v H1 ⟨g1, h1, w1, l1, hH1, r1, q1⟩ => ?_) (rzI_step q)⟩
  split at q1
  · rename_i x
    cases rstr r1
    refine ⟨x, rfl, q1 g1 H1 _ (.refl _) hH1 ⟨fun g' h' H' i l r k hi => ?_, fun g' h' H' l r k => ?_⟩⟩
    · have hi' : i < x.cps.size := by simpa using hi
      refine ⟨hi', fun y H'' ⟨e, c, hc, ev⟩ => ?_⟩
      subst e; subst ev
      refine ⟨g', .refl _, r, fun w hw => ?_⟩
      rw [List.getElem?_map, Array.getElem?_toList, hc] at hw
      cases hw
      exact mstr _
    · show x.cps.size ≤ (x.cps.toList.map fun c => W.str ⟨#[c]⟩).length
      simp
  · exact q1.elim
end
end Pk
end

/-! PkK -/
section
set_option Elab.async false
set_option linter.all false
set_option maxRecDepth 100000
namespace Pk
open PySem PySem.Spec L2

def noX {α : Type} (r : R α) : R α := match r with
  | .exc _ _ => .no
  | r => r
abbrev W0 : WX := fun _ _ _ _ => False
def wipeS (sl : Sl) : List Nat → Sl
  | [] => sl
  | v :: vs => (wipeS sl vs).set v none
def tYesx : Tx := fun _ h => .ok true h
/-- the turns of a comprehension -/
def lcLoop (own : List Nat) (kp : HS → Bool) (tg : Gx) (tt : Tx) (te : Ex) (sl : Sl) : List W → List W → HS → R (List W)
  | [], acc, h => if kp h = true then .ok acc h else .no
  | w :: ws, acc, h => if kp h = true then (match tg w (wipeS sl own) h with
    | some (s, h1) => (noX (tt s h1)).bind fun b h2 => if b = true then (noX (te s h2)).bind fun y h3 => if acc.length < sizeLine then lcLoop own kp tg tt te sl ws (acc ++ [y]) h3 else .no else lcLoop own kp tg tt te sl ws acc h2
    | none => .no) else .no
def eLc (bx : Bool) (own : List Nat) (src : Ix) (tg : Gx) (tt : Tx) (te : Ex) : Ex := fun sl h => (src sl h).bind fun p h1 => (lcLoop own p.2 tg tt te sl p.1 [] h1).bind fun acc h2 => mkL bx acc h2
def forL (kp : HS → Bool) (tg : Gx) (b : Sx) : List W → Sl → HS → RS
  | [], sl, h => if kp h = true then .nx sl h else .no
  | w :: ws, sl, h => if kp h = true then (match tg w sl h with
    | some (s, h1) => (match b s h1 with
      | .nx s2 h2 => forL kp tg b ws s2 h2
      | .ct s2 h2 => forL kp tg b ws s2 h2
      | .bk s2 h2 => .nx s2 h2
      | r => r)
    | none => .no) else .no
def sFor (src : Ix) (tg : Gx) (b : Sx) : Sx := fun sl h => match src sl h with
  | .ok p h1 => forL p.2 tg b p.1 sl h1
  | .exc c h1 => .exc c sl h1
  | .no => .no

section
variable {Γ : Γ} {Wx : WX} {X : Cx} {g : G} {h : HS} {H : Hp} {sl : Sl} {σ : L2.St}
/-- .. what follows is told from the base g -/
theorem rz_noX {α β α' β' : Type} {Rl : G → α → β → Prop} {Rl' : G → α' → β' → Prop} {r : R α} {k : α → HS → R α'} {Q : β' → Hp → Prop} (σ2 : L2.St) (g' : G) (x : Rz Γ Wx Rl' g ((noX r).bind k) σ Q) :
    Rz Γ W0 Rl g' r σ2 fun v H1 => ∃ g1 h1 w, g'.le g1 ∧ RH Γ g1 h1 H1 ∧ Rl g1 w v ∧ Rz Γ Wx Rl' g (k w h1) σ Q := by
  cases r with
  | ok w h => exact fun g2 v H' l a b => ⟨g2, h, w, l, a, b, x⟩
  | exc c h => exact x.elim
  | no => exact x.elim
theorem wipeS_some {i : Nat} {x : W} : ∀ {vs : List Nat}, (wipeS sl vs)[i]? = some (some x) → sl[i]? = some (some x) ∧ i ∉ vs
  | [], h => ⟨h, by simp⟩
  | v :: vs, h => by
    unfold wipeS at h
    by_cases hi : v = i
    · subst hi
      by_cases hv : v < (wipeS sl vs).length
      · rw [List.getElem?_set_self hv] at h; cases h
      · rw [List.getElem?_eq_none (by simpa using hv)] at h; cases h
    · rw [List.getElem?_set_ne hi] at h
      obtain ⟨h1, h2⟩ := wipeS_some h
      exact ⟨h1, by simp only [List.mem_cons, not_or]; exact ⟨fun e => hi e.symm, h2⟩⟩
theorem SLk.wipe {vs : List Nat} (x : SLk Γ g sl σ) : SLk Γ g (wipeS sl vs) (L2.wipe σ vs) := fun i w e => by
  obtain ⟨e1, n⟩ := wipeS_some e
  obtain ⟨v, e2, r⟩ := x i w e1
  exact ⟨v, by rw [wipe_out n]; exact e2, r⟩
theorem wipe_in {j : Nat} : ∀ {vs : List Nat}, j ∈ vs → (L2.wipe σ vs)[j]? = if j < σ.length then some none else none
  | v :: vs, hj => by
    unfold L2.wipe
    by_cases e : v = j
    · subst e
      by_cases hl : v < σ.length
      · rw [List.getElem?_set_self (by rw [wipe_length]; exact hl), if_pos hl]
      · rw [if_neg hl]
        exact List.getElem?_eq_none (by rw [List.length_set, wipe_length]; omega)
    · rw [List.getElem?_set_ne e]
      rcases List.mem_cons.mp hj with z | z
      · exact absurd z.symm e
      · exact wipe_in z
theorem wipe_eq {is vs : List Nat} {σ2 : L2.St} (hs : ∀ j ∈ is, j ∈ vs) (o : OnlyAt is (L2.wipe σ vs) σ2) : L2.wipe σ2 vs = L2.wipe σ vs := by
  have hl : σ2.length = σ.length := by rw [o.1, wipe_length]
  refine List.ext_getElem? fun j => ?_
  by_cases hj : j ∈ vs
  · rw [wipe_in hj, wipe_in hj, hl]
  · rw [wipe_out hj, wipe_out hj, o.2 j (fun z => hj (hs j z)), wipe_out hj]
theorem hide_le {g0 g : G} {p : Addr} {o : HO} (l : g0.le g) (n : g0.hid p = none) : g0.le (g.hide p o) := ⟨l.nx, l.ρ, l.F, fun a u e => by
  show upd g.hid p o a = some u
  rw [upd_ne (ne_of_none e n)]
  exact l.hid a u e, l.lk⟩

/-- a comprehension's block: what stands within it -/
theorem lc_rd {bx : Bool} {own is : List Nat} {gt : TG} {tt : TT} {te : TE} {tg : Gx} {ttx : Tx} {tex : Ex} {p : List W × (HS → Bool)} {J : It} {D : Addr} {Q : VK} (hs : ∀ j ∈ is, j ∈ own)
    (hg : gt = RDG Γ is tg) (ht : tt = RDT Γ W0 ttx) (he : te = RDE Γ W0 tex)
    (hH : RH Γ g h H) (hS : SLk Γ g sl σ) (it : ItG Γ J p.1 p.2 g) (hD : H D = none) (q : Rz Γ Wx (RW Γ.K) g ((lcLoop own p.2 tg ttx tex sl p.1 [] h).bind fun acc h2 => mkL bx acc h2) σ Q) :
    ∃ W : Nat → Nat → Hp → Prop, (∃ m, W 0 m (upd H D (.lst []))) ∧ ∀ i m H, W i m H →
      (J.stop i H ∧ Q (.ref D) H) ∨ (J.go i H ∧ ∃ Nx : Hp → Prop, (∀ H', Nx H' → ∃ m', m' < m ∧ W (i + 1) m' H') ∧ ∀ x H', J.yld i H x H' → gt x (L2.wipe σ own) H' fun σ2 H2 => L2.wipe σ2 own = L2.wipe σ own ∧ tt σ2 H2 fun b H3 =>
        if b = true then te σ2 H3 fun y H4 => ∃ acc, H4 D = some (.lst acc) ∧ acc.length < sizeLine ∧ Nx (upd H4 D (.lst (acc ++ [y]))) else Nx H3) := by
  subst hg; subst ht; subst he
  have nD := hH.noHid hD
  refine ⟨fun i m H' => m = p.1.length - i ∧ i ≤ p.1.length ∧ ∃ g' h' acc vs, g.le g' ∧ RH Γ g' h' H' ∧ g'.hid D = some (.lst vs) ∧ RWs Γ.K g' acc vs ∧ Rz Γ Wx (RW Γ.K) g ((lcLoop own p.2 tg ttx tex sl (p.1.drop i) acc h').bind fun acc h2 => mkL bx acc h2) σ Q, ?_, ?_⟩
  · obtain ⟨l, y, z⟩ := hH.hide hD (o := .lst []) trivial
    exact ⟨_, rfl, Nat.zero_le _, _, h, [], [], l, y, z, .nil, q⟩
  · rintro i m H' ⟨rfl, hi, g', h', acc, vs, l, y, z, rs, q⟩
    by_cases hlt : i < p.1.length
    · obtain ⟨w, hw⟩ : ∃ w, p.1[i]? = some w := ⟨_, List.getElem?_eq_getElem hlt⟩
      have hd : p.1.drop i = w :: p.1.drop (i + 1) := by
        rw [List.drop_eq_getElem_cons hlt]
        rw [List.getElem?_eq_getElem hlt] at hw
        cases hw
        rfl
      rw [hd] at q
      unfold lcLoop at q
      by_cases hk : p.2 h' = true
      · rw [if_pos hk] at q
        obtain ⟨go, yl⟩ := it.go g' h' H' i l y hk hlt
        refine .inr ⟨go, fun H2 => ∃ m', m' < p.1.length - i ∧ (m' = p.1.length - (i + 1) ∧ i + 1 ≤ p.1.length ∧ ∃ g' h' acc vs, g.le g' ∧ RH Γ g' h' H2 ∧ g'.hid D = some (.lst vs) ∧ RWs Γ.K g' acc vs ∧ Rz Γ Wx (RW Γ.K) g ((lcLoop own p.2 tg ttx tex sl (p.1.drop (i + 1)) acc h').bind fun acc h2 => mkL bx acc h2) σ Q), fun H2 nx => nx, fun x H2 hy => ?_⟩
        obtain ⟨g2, l2, y2, rw2⟩ := yl x H2 hy
        refine ⟨g2, w, wipeS sl own, h', y2, SLk.wipe (SLk.mono (l.trans l2) hS), rw2 w hw, ?_⟩
        cases et : tg w (wipeS sl own) h' with
        | none => rw [et] at q; exact q.elim
        | some sp =>
          obtain ⟨s1, h1⟩ := sp
          rw [et] at q
          intro g3 σ2 H3 l3 y3 s3 o3
          refine ⟨wipe_eq hs o3, g3, s1, h1, y3, s3, ?_⟩
          have l03 : g.le g3 := l.trans (l2.trans l3)
          have q : Rz Γ Wx (RW Γ.K) g (((noX (ttx s1 h1)).bind fun b h2 => if b = true then (noX (tex s1 h2)).bind fun y h3 => if acc.length < sizeLine then lcLoop own p.2 tg ttx tex sl (p.1.drop (i + 1)) (acc ++ [y]) h3 else .no else lcLoop own p.2 tg ttx tex sl (p.1.drop (i + 1)) acc h2).bind fun acc h2 => mkL bx acc h2) σ Q := q
          have bb : ∀ {α β γ : Type} (r : R α) (k : α → HS → R β) (k2 : β → HS → R γ), (r.bind k).bind k2 = r.bind fun a h => (k a h).bind k2 := fun r k k2 => by cases r <;> rfl
          rw [bb] at q
          refine Rz.mono (fun b H4 ⟨g4, h4, b', l4, y4, eb, q4⟩ => ?_) (rz_noX σ2 g3 q)
          subst eb
          by_cases hb : b' = true
          · rw [if_pos hb] at q4 ⊢
            rw [bb] at q4
            refine ⟨g4, s1, h4, y4, SLk.mono l4 s3, Rz.mono (fun yv H5 ⟨g5, h5, yw, l5, y5, ry, q5⟩ => ?_) (rz_noX σ2 g4 q4)⟩
            have l05 : g'.le g5 := l2.trans (l3.trans (l4.trans l5))
            have z5 : g5.hid D = some (.lst vs) := l05.hid _ _ z
            by_cases hsz : acc.length < sizeLine
            · rw [if_pos hsz] at q5
              refine ⟨vs, (y5.hd D _ z5).1, by rw [← rs.len]; exact hsz, ?_⟩
              obtain ⟨y6, z6⟩ := y5.rehide z5 (o' := .lst (vs ++ [yv])) trivial
              refine ⟨p.1.length - (i + 1), by omega, rfl, hlt, g5.hide D (.lst (vs ++ [yv])), h5, acc ++ [yw], vs ++ [yv], hide_le (l.trans l05) nD, y6, z6, ?_, ?_⟩
              · exact rws_hid (g := g5) (by rfl) (by rfl) (by rfl) ((RWs.mono l05 _ _ rs).app (.cons ry .nil))
              · exact q5
            · rw [if_neg hsz] at q5
              exact q5.elim
          · rw [if_neg hb] at q4 ⊢
            have l05 : g'.le g4 := l2.trans (l3.trans l4)
            refine ⟨p.1.length - (i + 1), by omega, rfl, hlt, g4, h4, acc, vs, l.trans l05, y4, l05.hid _ _ z, RWs.mono l05 _ _ rs, q4⟩
      · rw [if_neg hk] at q
        exact q.elim
    · have e : i = p.1.length := by omega
      subst e
      rw [List.drop_length] at q
      unfold lcLoop at q
      by_cases hk : p.2 h' = true
      · rw [if_pos hk] at q
        refine .inl ⟨it.stop g' h' H' l y hk, ?_⟩
        have q : Rz Γ Wx (RW Γ.K) g (mkL bx acc h') σ Q := q
        cases bx with
        | true =>
          obtain ⟨g2, l2, y2, r2⟩ := y.showB (c := .lst acc) z ⟨vs, (y.hd D _ z).1, rs⟩ l nD
          exact q g2 _ _ l2 y2 r2
        | false =>
          obtain ⟨g2, l2, y2, f2, _, m2⟩ := y.show_ z l nD
          refine q g2 _ _ l2 y2 ?_
          unfold RW
          exact ⟨D, vs, rfl, f2, m2 _ _ rs⟩
      · rw [if_neg hk] at q
        exact q.elim
end
end Pk
end

/-! PkL -/
section
set_option Elab.async false
set_option linter.all false
set_option maxRecDepth 100000
namespace Pk
open PySem PySem.Spec L2
section
variable {Γ : Γ} {Wx : WX} {X : Cx} {g : G} {h : HS} {H : Hp} {sl : Sl} {σ : L2.St}
theorem t_yes : PTs X [] (RDT Γ W0 tYesx) := ⟨fun pins s σ H Q I ⟨g, sl, h, hH, hS, q⟩ => pts_nil.run pins s σ H Q I (q g true H (.refl g) hH rfl)⟩
theorem t_ifs {c : Expr} {t : Tx} (p : PT X c (RDT Γ W0 t)) : PTs X [c] (RDT Γ W0 t) := pts_one p
theorem lc_in {bx : Bool} {own : List (Str × Nat)} {is : List Nat} {src : Ix} {tg : Gx} {tt : Tx} {te : Ex} (hs : ∀ j ∈ is, j ∈ own.map (·.2)) {σ : L2.St} {H : Hp} {Q : VK} (x : RDE Γ Wx (eLc bx (own.map (·.2)) src tg tt te) σ H Q) :
    tLc (RDI Γ Wx src) (RDG Γ is tg) (RDT Γ W0 tt) (RDE Γ W0 te) (own.map (·.2)) σ H Q := by
  obtain ⟨g, sl, h, hH, hS, q⟩ := x
  refine ⟨g, sl, h, hH, hS, ?_⟩
  unfold eLc at q
  cases e : src sl h with
  | no => rw [e] at q; exact q.elim
  | exc c h1 => rw [e] at q; exact q
  | ok p h1 =>
    rw [e] at q
    intro g' H' J l y it D hD
    exact lc_rd hs rfl rfl rfl y (SLk.mono l hS) it hD (Rz.le l q)
theorem e_lc {elt tgt iter : Expr} {ifs : List Expr} {scope : Scope} {own : List (Str × Nat)} {pos : Pos} {is : List Nat} {src : Ix} {tg : Gx} {tt : Tx} {te : Ex} (bx : Bool) (hc : X.calm = true) (hN : X.N.Nodup) (hi : PI X tgt iter (RDI Γ Wx src)) (ok : BlkOk X.N X.env.scope scope own)
    (hg : ∀ (s : Shared) (H : Hp) (C : Addr) (cl : List (Str × Addr)) (fp : List Addr), PG (X.blk s H scope (compEnvC scope cl C X.env) fp) tgt (RDG Γ is tg))
    (ht : ∀ (s : Shared) (H : Hp) (C : Addr) (cl : List (Str × Addr)) (fp : List Addr), PTs (X.blk s H scope (compEnvC scope cl C X.env) fp) ifs (RDT Γ W0 tt))
    (he : ∀ (s : Shared) (H : Hp) (C : Addr) (cl : List (Str × Addr)) (fp : List Addr), PE (X.blk s H scope (compEnvC scope cl C X.env) fp) elt (RDE Γ W0 te))
    (hs : ∀ j ∈ is, j ∈ own.map (·.2) := by decide) (hf : ∀ x, foldedSetIterable iter X.env x = pure x := by intro _; rfl) :
    PE X (.ListComp elt [⟨tgt, iter, ifs, 0⟩] scope pos) (RDE Γ Wx (eLc bx (own.map (·.2)) src tg tt te)) :=
  PE.imp (pe_lc hc hN hi ok hg ht he hf) fun σ H Q x => lc_in hs x
/-- y = [..] on one line -/
theorem s_setLc {y : Str} {py : Pos} {elt tgt iter : Expr} {ifs : List Expr} {scope : Scope} {own : List (Str × Nat)} {pos spos : Pos} {is : List Nat} {src : Ix} {tg : Gx} {tt : Tx} {te : Ex} (bx : Bool) (i : Nat) (hc : X.calm = true) (hN : X.N.Nodup) (hi : PI X tgt iter (RDI Γ Wx src)) (ok : BlkOk X.N X.env.scope scope own)
    (hg : ∀ (s : Shared) (H : Hp) (C : Addr) (cl : List (Str × Addr)) (fp : List Addr), PG (X.blk s H scope (compEnvC scope cl C X.env) fp) tgt (RDG Γ is tg))
    (ht : ∀ (s : Shared) (H : Hp) (C : Addr) (cl : List (Str × Addr)) (fp : List Addr), PTs (X.blk s H scope (compEnvC scope cl C X.env) fp) ifs (RDT Γ W0 tt))
    (he : ∀ (s : Shared) (H : Hp) (C : Addr) (cl : List (Str × Addr)) (fp : List Addr), PE (X.blk s H scope (compEnvC scope cl C X.env) fp) elt (RDE Γ W0 te))
    (hy : X.N[i]? = some y := by rfl) (hyl : X.env.scope.names.lookup y = some .local := by rfl)
    (hl : ∀ (pins : List (Addr × Obj)) (s : Shared) (σ : L2.St) (H : Hp), Inv X pins σ H s → i < σ.length := by
      intro pins s σ H I; rw [I.len]; exact (by decide))
    (hsw : swapsWith (.ListComp elt [⟨tgt, iter, ifs, 0⟩] scope pos) (some (.Name y py)) spos.line X.env = pure true := by exact sw_true rfl rfl rfl (by decide +kernel))
    (hs : ∀ j ∈ is, j ∈ own.map (·.2) := by decide) (hf : ∀ x, foldedSetIterable iter X.env x = pure x := by intro _; rfl) :
    PS X (.Assign [.Name y py] (.ListComp elt [⟨tgt, iter, ifs, 0⟩] scope pos) spos) (RDS Γ Wx (sAsg (eLc bx (own.map (·.2)) src tg tt te) (gN i))) := by
  refine ⟨fun pins s σ H D I ⟨g, sl, h, hH, hS, q⟩ => (ps_setLc hc hN hy hyl hsw hi ok hg ht he hf).run pins s σ H D I ?_⟩
  refine lc_in (bx := bx) hs (Q := fun x H1 => gName i x σ H1 D.nx) ⟨g, sl, h, hH, hS, Rz.mono (fun v H1 ⟨g1, h1, w1, l1, hH1, r1, q1⟩ => ?_) (rz_st hS q)⟩
  exact q1 g1 (σ.set i (some v)) H1 (.refl _) hH1 ((SLk.mono l1 hS).set r1 (hl pins s σ H I)) (by rw [List.length_set])
theorem s_for {tgt iter : Expr} {body : List Stmt} {is : List Nat} {src : Ix} {tg : Gx} {b : Sx} {pos : Pos} (hp : PassesOwn (model X.prog X.w) X.A X.env X.xe) (hc : X.calm = true) (hi : PI X tgt iter (RDI Γ Wx src)) (hg : PG X tgt (RDG Γ is tg)) (hb : PSs X body (RDS Γ Wx b))
    (hf : ∀ x, foldedSetIterable iter X.env x = pure x := by intro _; rfl) : PS X (.For tgt iter body [] pos) (RDS Γ Wx (sFor src tg b)) := by
  refine PS.imp (ps_for hp hc hi hg hb hf) fun D σ H ⟨g, sl, h, hH, hS, q⟩ => ⟨g, sl, h, hH, hS, ?_⟩
  unfold sFor at q
  cases e : src sl h with
  | no => rw [e] at q; exact q.elim
  | exc c h1 => rw [e] at q; exact fun g' H' l y => q g' σ H' l y (SLk.mono l hS) rfl
  | ok p h1 =>
    rw [e] at q
    have q : RzS Γ Wx g σ.length (forL p.2 tg b p.1 sl h1) D := q
    intro g0 H0 J l0 y0 it
    refine ⟨fun i m σ' H' => m = p.1.length - i ∧ i ≤ p.1.length ∧ ∃ g' sl' h', g0.le g' ∧ RH Γ g' h' H' ∧ SLk Γ g' sl' σ' ∧ σ'.length = σ.length ∧ RzS Γ Wx g σ.length (forL p.2 tg b (p.1.drop i) sl' h') D, ⟨_, rfl, Nat.zero_le _, g0, sl, h1, .refl _, y0, SLk.mono l0 hS, rfl, q⟩, ?_⟩
    rintro i m σ' H' ⟨rfl, hi, g', sl', h', l, y, s', hn, q⟩
    by_cases hlt : i < p.1.length
    · obtain ⟨w, hw⟩ : ∃ w, p.1[i]? = some w := ⟨_, List.getElem?_eq_getElem hlt⟩
      have hd : p.1.drop i = w :: p.1.drop (i + 1) := by
        rw [List.drop_eq_getElem_cons hlt]
        rw [List.getElem?_eq_getElem hlt] at hw
        cases hw
        rfl
      rw [hd] at q
      unfold forL at q
      by_cases hk : p.2 h' = true
      · rw [if_pos hk] at q
        obtain ⟨go, yl⟩ := it.go g' h' H' i l y hk hlt
        refine .inr ⟨go, fun σ2 H2 => ∃ m', m' < p.1.length - i ∧ (m' = p.1.length - (i + 1) ∧ i + 1 ≤ p.1.length ∧ ∃ g' sl' h', g0.le g' ∧ RH Γ g' h' H2 ∧ SLk Γ g' sl' σ2 ∧ σ2.length = σ.length ∧ RzS Γ Wx g σ.length (forL p.2 tg b (p.1.drop (i + 1)) sl' h') D), fun σ2 H2 nx => nx, fun x H2 hy => ?_⟩
        obtain ⟨g2, l2, y2, rw2⟩ := yl x H2 hy
        refine ⟨g2, w, sl', h', y2, SLk.mono l2 s', rw2 w hw, ?_⟩
        cases et : tg w sl' h' with
        | none => rw [et] at q; exact q.elim
        | some sp =>
          obtain ⟨s1, h1⟩ := sp
          rw [et] at q
          have q : RzS Γ Wx g σ.length (match b s1 h1 with
            | .nx s2 h2 => forL p.2 tg b (p.1.drop (i+1)) s2 h2
            | .ct s2 h2 => forL p.2 tg b (p.1.drop (i+1)) s2 h2
            | .bk s2 h2 => .nx s2 h2
            | r => r) D := q
          intro g3 σ2 H3 l3 y3 s3 o3
          have lg : g.le g3 := l0.trans (l.trans (l2.trans l3))
          refine ⟨g3, s1, h1, y3, s3, ?_⟩
          have hn2 : σ2.length = σ.length := o3.1.trans hn
          rw [hn2]
          cases eb : b s1 h1 with
          | nx s2 h2 =>
            rw [eb] at q
            exact fun g4 σ4 H4 l4 y4 s4 n4 => ⟨p.1.length - (i + 1), by omega, rfl, hlt, g4, s2, h2, l.trans (l2.trans (l3.trans l4)), y4, s4, n4, q⟩
          | ct s2 h2 =>
            rw [eb] at q
            exact fun g4 σ4 H4 l4 y4 s4 n4 => ⟨p.1.length - (i + 1), by omega, rfl, hlt, g4, s2, h2, l.trans (l2.trans (l3.trans l4)), y4, s4, n4, q⟩
          | bk s2 h2 => rw [eb] at q; exact rzS_le lg q
          | rt w2 h2 => rw [eb] at q; exact rzS_le lg q
          | exc c s2 h2 => rw [eb] at q; exact rzS_le lg q
          | no => rw [eb] at q; exact q
      · rw [if_neg hk] at q
        exact q.elim
    · have e : i = p.1.length := by omega
      subst e
      rw [List.drop_length] at q
      unfold forL at q
      by_cases hk : p.2 h' = true
      · rw [if_pos hk] at q
        exact .inl ⟨it.stop g' h' H' l y hk, q g' σ' H' (l0.trans l) y s' hn⟩
      · rw [if_neg hk] at q
        exact q.elim
end
end Pk
end

/-! PkM -/
section
set_option Elab.async false
set_option linter.all false
set_option maxRecDepth 100000
set_option maxHeartbeats 2000000
namespace Pk
open PySem PySem.Spec L2
open Sem (wp)
/-! a generator's runs, told of a ghost x that the one who takes may change -/
structure GP (γ : Type) where
  R : γ → Result → Shared → Prop
  Y : γ → Value → γ → Shared → Prop
  Re : γ → γ → Shared → Prop
def EndG {γ : Type} (P : GP γ) (n : Nat) (go : Nat → γ → Code → Sem Fin → List Frame → Shared → Prop) (x : γ) (e : End) (s' : Shared) : Prop :=
  match e with
  | .ret r => P.R x r s'
  | .susp v g l k c p fs => (End.susp v g l k c p fs).quiet = true ∧ ∃ m, n = m + 1 ∧ ∃ x1, P.Y x v x1 s' ∧ ∀ x2 s2, P.Re x1 x2 s2 → go m x2 c (k (.send .none)) fs s2
def SegG {γ : Type} (M : Model) (A : Around) (P : GP γ) : Nat → γ → Code → Sem Fin → List Frame → Shared → Prop
  | 0 => fun x c t fs s => ∀ Γ p, Γ.code = c → Γ.Woken A → ∃ e s', Runs M Γ p t fs s e s' ∧ EndG P 0 (fun _ _ _ _ _ _ => False) x e s'
  | n + 1 => fun x c t fs s => ∀ Γ p, Γ.code = c → Γ.Woken A → ∃ e s', Runs M Γ p t fs s e s' ∧ EndG P (n + 1) (fun _ x2 c2 t2 fs2 s2 => SegG M A P n x2 c2 t2 fs2 s2) x e s'
section
variable {γ : Type} {M : Model} {A : Around} {P : GP γ} {n : Nat} {x : γ} {c : Code} {t : Sem Fin} {fs : List Frame} {s : Shared}
theorem segG_iff : SegG M A P n x c t fs s ↔ ∀ Γ p, Γ.code = c → Γ.Woken A → ∃ e s', Runs M Γ p t fs s e s' ∧ EndG P n (fun m x2 c2 t2 fs2 s2 => SegG M A P m x2 c2 t2 fs2 s2) x e s' := by
  have key : ∀ (e : End) (s' : Shared), (match n with
      | 0 => EndG P 0 (fun _ _ _ _ _ _ => False) x e s'
      | n + 1 => EndG P (n + 1) (fun _ x2 c2 t2 fs2 s2 => SegG M A P n x2 c2 t2 fs2 s2) x e s') ↔ EndG P n (fun m x2 c2 t2 fs2 s2 => SegG M A P m x2 c2 t2 fs2 s2) x e s' := by
    intro e s'
    cases n with
    | zero =>
      cases e with
      | ret r => exact Iff.rfl
      | susp v g l k c p fs =>
        constructor
        · rintro ⟨_, m, e, _⟩
          cases e
        · rintro ⟨_, m, e, _⟩
          cases e
    | succ n =>
      cases e with
      | ret r => exact Iff.rfl
      | susp v g l k c p fs =>
        constructor
        · rintro ⟨q, m, e, x1, y, z⟩
          cases e
          exact ⟨q, _, rfl, x1, y, z⟩
        · rintro ⟨q, m, e, x1, y, z⟩
          cases e
          exact ⟨q, _, rfl, x1, y, z⟩
  cases n with
  | zero => exact ⟨fun h Γ p a b => let ⟨e, s', r, z⟩ := h Γ p a b; ⟨e, s', r, (key e s').mp z⟩, fun h Γ p a b => let ⟨e, s', r, z⟩ := h Γ p a b; ⟨e, s', r, (key e s').mpr z⟩⟩
  | succ n => exact ⟨fun h Γ p a b => let ⟨e, s', r, z⟩ := h Γ p a b; ⟨e, s', r, (key e s').mp z⟩, fun h Γ p a b => let ⟨e, s', r, z⟩ := h Γ p a b; ⟨e, s', r, (key e s').mpr z⟩⟩
theorem segG_wrap {α : Type} {m : Sem α} {K : α → Sem Fin} {H : Value → Sem Fin} {gd lv}
    (h : wpAny M (A.over c fs) m (fun a s' => SegG M A P n x c (K a) fs s') (fun y s' => SegG M A P n x c (H y) fs s') s) :
    SegG M A P n x c (m.wrap K H gd lv) fs s := by
  rw [segG_iff]
  rintro Γ p rfl hΓ
  exact runs_wrap_of_wp K H gd lv m (h (Γ.over fs) p (hΓ.over fs)) (fun a p' s' h' => segG_iff.mp h' Γ p' rfl hΓ) (fun y p' s' h' => segG_iff.mp h' Γ p' rfl hΓ)
theorem segG_bind_wrap {α β : Type} {m : Sem α} {K : α → Sem β} {K' : β → Sem Fin} {H' : Value → Sem Fin} {gd lv}
    (h : wpAny M (A.over c fs) m (fun a s' => SegG M A P n x c ((K a).wrap K' H' gd lv) fs s') (fun y s' => SegG M A P n x c (H' y) fs s') s) : SegG M A P n x c ((m >>= K).wrap K' H' gd lv) fs s := by
  rw [Sem.bind_eq_wrap', Sem.wrap_wrap]; exact segG_wrap h
theorem segG_at {p' : Pos} {k : Unit → Sem Fin} (h : SegG M A P n x c (k ()) fs s) : SegG M A P n x c (.at p' k) fs s :=
  segG_wrap (m := standAt p') (K := k) (H := .raise) (gd := id) (lv := id) (wpAny_standAt h)
theorem segG_again {c' : Code} (hq : c'.quiet = true) (hc : SegG M A P n x c' (M.den c') fs s) : SegG M A P n x c (.pure (.again c')) fs s := by
  rw [segG_iff]
  rintro Γ p rfl hΓ
  obtain ⟨e, s', hr, he⟩ := segG_iff.mp hc (Γ.goto c') p rfl (hΓ.goto c')
  exact ⟨e, s', Runs.head (c₁ := c') (fun _ _ x => .again hq x) hr, he⟩
theorem segG_end (r : Result) (h : P.R x r s) : SegG M A P n x c (leafOf r) [] s := by
  rw [segG_iff]
  rintro Γ p rfl _
  exact ⟨.ret r, s, Runs.leaf r, h⟩
theorem segG_yield {v g l} {k : Resume → Sem Fin} {x1 : γ} (hfs : splitAtGen fs = none) (hg : g = false) (hfg : fs.any Frame.guarded = false)
    (hy : P.Y x v x1 s) (h : ∀ x2 s2, P.Re x1 x2 s2 → SegG M A P n x2 c (k (.send .none)) fs s2) : SegG M A P (n + 1) x c (.yield v g l k) fs s := by
  rw [segG_iff]
  rintro Γ p rfl _
  exact ⟨_, s, Runs.yield' fs hfs, ⟨by simp [End.quiet, hg, hfg], n, rfl, x1, hy, h⟩⟩
end
def GoesG {γ : Type} (M : Model) (A : Around) (P : GP γ) (n : Nat) (x : γ) (gs : GenState) (s : Shared) : Prop :=
  match gs with
  | .fresh c => SegG M A P n x c (M.den c) [] s
  | .suspended k _ c _ fs _ => SegG M A P n x c (k (.send .none)) fs s
  | _ => False
theorem wpAny_resumeG {γ : Type} {M : Model} {A : Around} {P : GP γ} {n : Nat} {x : γ} {E : Value → Shared → Prop} {s : Shared} {g : Nat} {gs : GenState} {l : List Value} {α : Type} {k : GenResult → Sem α} {Q : α → Shared → Prop} (hg : s.gens[g]? = some gs)
    (hgo : GoesG M A P n x gs (s.setGen g .running))
    (hR : ∀ r s₁, P.R x r s₁ → wpAny M A (k (End.ret r).result) Q E (s₁.setGen g .finished))
    (hY : ∀ v s₁ gs' m x1, gs'.bare = true → n = m + 1 → P.Y x v x1 s₁ → (∀ x2 s2, P.Re x1 x2 s2 → GoesG M A P m x2 gs' s2) → wpAny M A (k (.yielded v)) Q E (s₁.setGen g gs')) :
    wpAny M A (.resume g (.send .none) l k) Q E s := by
  intro Γ p hΓ
  rw [Sem.wp_resume]
  have hB : ∀ c, (Γ.wake c p).Woken A := fun c => hΓ.wake c p
  have fin : ∀ e₁ s₁, EndG P n (fun m x2 c2 t2 fs2 s2 => SegG M A P m x2 c2 t2 fs2 s2) x e₁ s₁ → wp M Γ (k e₁.result) (fun a _ s' => Q a s') (fun e _ s' => E e s') p (s₁.setGen g e₁.genState) := by
    intro e₁ s₁ he
    cases e₁ with
    | ret r => exact hR r s₁ he Γ p hΓ
    | susp v g₀ l₀ k₀ c₀ p₀ fs₀ =>
      obtain ⟨hq, m, hm, x1, hy, hz⟩ := he
      exact hY v s₁ _ m x1 (End.bare_of_quiet hq) hm hy (fun x2 s2 h2 => hz x2 s2 h2) Γ p hΓ
  have hqt : ∀ e₁ s₁, EndG P n (fun m x2 c2 t2 fs2 s2 => SegG M A P m x2 c2 t2 fs2 s2) x e₁ s₁ → e₁.quiet = true := by
    intro e₁ s₁ he
    cases e₁ with
    | ret r => rfl
    | susp v g₀ l₀ k₀ c₀ p₀ fs₀ => exact he.1
  cases gs with
  | fresh c =>
    obtain ⟨e₁, s₁, hr, he⟩ := segG_iff.mp hgo (Γ.wake c p) p rfl (hB c)
    exact ⟨_, _, by unfold Wakes; rw [hg]; exact ⟨e₁, s₁, hr, hqt e₁ s₁ he, rfl, rfl⟩, fin e₁ s₁ he⟩
  | suspended k₀ l₀ c₀ p₀ fs₀ cl =>
    obtain ⟨e₁, s₁, hr, he⟩ := segG_iff.mp hgo (Γ.wake c₀ p) p₀ rfl (hB c₀)
    exact ⟨_, _, by unfold Wakes; rw [hg]; exact ⟨e₁, s₁, hr, hqt e₁ s₁ he, rfl, rfl⟩, fin e₁ s₁ he⟩
  | running => exact hgo.elim
  | finished => exact hgo.elim
section
variable {γ : Type} {prog : Program} {w : World} {A : Around} {P : GP γ} {E : Value → Shared → Prop} {s : Shared}
theorem wpAny_pyNextG {a : Addr} {g n : Nat} {x : γ} {gs : GenState} {Q : Option Value → Shared → Prop} (hh : A.handled = none)
    (hl : s.heap.NoLimit) (hroom : A.depth < recursionLimit) (hg : s.heap.IsGen a g) (hgs : s.gens[g]? = some gs)
    (hgo : GoesG (model prog w) A.in1 P n x gs (s.setGen g .running))
    (hY : ∀ v s₁ gs' m x1, gs'.bare = true → n = m + 1 → P.Y x v x1 s₁ → (∀ x2 s2, P.Re x1 x2 s2 → GoesG (model prog w) A.in1 P m x2 gs' s2) → Q (some v) (s₁.setGen g gs'))
    (hR : ∀ r s₁, P.R x r s₁ → r = .ok .next ∧ ∀ h', (∀ b o, s₁.heap.get? b = some o → h'.get? b = some o) → Q none { s₁.setGen g .finished with heap := h' }) :
    wpAny (model prog w) A (pyNext (.ref a)) Q E s := by
  unfold pyNext
  refine wpAny_bind (wpAny_attempt (wpAny_callSpecial?_slot (name := Str.ofString "__next__") hg.typeIs slot_gen_next
    (wpAny_call_entry slot_gen_next hg.typeIs entry_gen_next ?_ (args_gen_next _))))
  show wpAny _ A.in1 (Builtin.Generator.genWake (.ref a) (.send .none)) _ _ s
  unfold Builtin.Generator.genWake
  refine wpAny_bind (wpAny_holding (wpAny_genNumber hg (wpAny_bind (wpAny_genState hgs ?_))))
  cases gs with
  | running => exact hgo.elim
  | finished => exact hgo.elim
  | _ =>
    refine wpAny_bind (wpAny_roomToWake hl hroom ?_)
    show wpAny _ A.in1 (.resume g (.send .none) [] _) _ _ s
    refine wpAny_resumeG hgs hgo (fun r s₁ hx => ?_) (fun v s₁ gs' m x1 hb hm hv hz => ?_)
    · obtain ⟨rfl, hp⟩ := hR r s₁ hx
      show wpAny _ A.in1 (newExc (.type "StopIteration") [] >>= _) _ _ _
      refine wpAny_bind ?_
      simp only [newExc, newTuple]
      refine wpAny_bind (wpAny_newObj_type ?_ (by size_fits))
      refine wpAny_bind (m := firstArgMember _ _) (wpAny_of_eq (a := Value.none) (by first | rfl | (simp only [firstArgMember]; rfl)) ?_)
      refine wpAny_newObj_type ?_ (by size_fits)
      simp only [raiseNew]
      refine wpAny_bind (wpAny_bind (wpAny_handled ?_))
      first | rw [show A.in1.handled = none from hh] | rw [hh]
      refine wpAny_throw ?_
      refine wpAny_bind (wpAny_isInstance (T := "StopIteration") (b := true) ⟨_, Heap.get?_push_size _ rfl, rfl⟩ isSubtype_stop ?_)
      exact wpAny_pure (hp _ fun b o hb => Heap.get?_push_of_some _ (Heap.get?_push_of_some _ hb))
    · exact wpAny_pure ⟨v, rfl, wpAny_pure (hY v s₁ gs' m x1 hb hm hv hz)⟩
end
end Pk
end

/-! PkN -/
section
set_option Elab.async false
set_option linter.all false
set_option maxRecDepth 100000
set_option maxHeartbeats 2000000
namespace Pk
open PySem PySem.Spec L2
/-- a generator expression's names: its own (places in N), and captured ones -/
structure GenB (N : List Str) (sc scope : Scope) (own : List (Str × Nat)) : Prop where
  kind : scope.kind = .function
  co : scope.isCoroutine = false
  cell : ∀ y ∈ scope.names, y.2 ≠ .cell
  dot : scope.names.lookup (".0" : Str) = some NameKind.local
  ix : ∀ p ∈ own, N[p.2]? = some p.1
  own : ∀ y ∈ scope.names, y.2 = .local → y.1 ∈ own.map (·.1) ∨ y.1 ∉ N
  free : ∀ y ∈ scope.names, y.2 = .free → sc.names.lookup y.1 = some .cell ∨ sc.names.lookup y.1 = some .free
def genBB (N : List Str) (sc scope : Scope) (own : List (Str × Nat)) : Bool :=
  decide (scope.kind = .function) && !scope.isCoroutine && scope.names.all (fun y => !decide (y.2 = .cell)) && decide (scope.names.lookup (".0" : Str) = some NameKind.local) &&
  own.all (fun p => decide (N[p.2]? = some p.1)) && scope.names.all (fun y => !decide (y.2 = .local) || (own.map (·.1)).contains y.1 || !N.contains y.1) &&
  scope.names.all fun y => !decide (y.2 = .free) || decide (sc.names.lookup y.1 = some .cell) || decide (sc.names.lookup y.1 = some .free)
theorem genB_by {N : List Str} {sc scope : Scope} {own : List (Str × Nat)} (h : genBB N sc scope own = true) : GenB N sc scope own := by
  unfold genBB at h
  simp only [Bool.and_eq_true, Bool.or_eq_true, Bool.not_eq_true', decide_eq_true_eq, decide_eq_false_iff_not, List.all_eq_true] at h
  obtain ⟨⟨⟨⟨⟨⟨h1, h2⟩, h3⟩, h4⟩, h5⟩, h6⟩, h7⟩ := h
  refine ⟨h1, h2, h3, h4, h5, fun y hy e => ?_, fun y hy e => ?_⟩
  · rcases h6 y hy with (z | z) | z
    · exact absurd e z
    · exact .inl (List.contains_iff_mem.mp z)
    · exact .inr fun q => by rw [List.contains_iff_mem.mpr q] at z; cases z
  · rcases h7 y hy with (z | z) | z
    · exact absurd e z
    · exact .inl z
    · exact .inr z
abbrev gnEnv (X : Cx) (scope : Scope) (C : Addr) (code : Value) : Env := genEnv scope (cloFrom X.env.cells scope.names []) C code builtinsNs X.env
abbrev gnCx (X : Cx) (Ag : Around) (s : Shared) (H : Hp) (cenv : Env) (fp : List Addr) : Cx := { X with A := Ag, s_0 := s, H_0 := H, env := cenv, outer := X.stack, stack := cenv :: X.stack, ex := fp, fn := fun _ => false, calm := true, pn := [], xe := fun _ _ => False }
section
variable {X : Cx} {pins : List (Addr × Obj)} {σ : L2.St} {H : Hp} {s : Shared}
theorem GenB.has {scope : Scope} {own : List (Str × Nat)} (ok : GenB X.N X.env.scope scope own) (I : Inv X pins σ H s) : ∀ y ∈ scope.names, y.2 = .free → ∃ c, X.env.cells.lookup y.1 = some c := fun y hy e => by
  rcases ok.free y hy e with k | k
  · exact I.ok.has _ (.inl k)
  · exact I.ok.has _ (.inr k)
theorem gen_start {Ag : Around} {scope : Scope} {own : List (Str × Nat)} {fp : List Addr} {it code : Value} {h' : Heap} {g' : Array GenState} {tk : Nat} (I : Inv X pins σ H s) (ok : GenB X.N X.env.scope scope own) (hN : X.N.Nodup) (hfp : ∀ b ∈ fp, FpOk X pins H b ∧ b < s.heap.objs.size)
    (hd : Ag.handled = none) (hfr : Ag.frames = some (gnEnv X scope s.heap.objs.size code :: X.stack)) (hns : h'.Ns s.heap.objs.size fun y => if y = ".0" then some it else none) (kp : ∀ b o, s.heap.get? b = some o → h'.get? b = some o) (hb : PyProof.Rows.AllBare g') :
    Inv (gnCx X Ag s H (gnEnv X scope s.heap.objs.size code) fp) [] (wipe σ (own.map (·.2))) H { s with heap := h', gens := g', toks := tk } := by
  have hfree := ok.has I
  have cm : ∀ {y c}, (cloFrom X.env.cells scope.names []).lookup y = some c → X.env.cells.lookup y = some c ∧ c < s.heap.objs.size := fun {y c} e => by
    rcases cloFrom_mem (PySem.mem_of_lookup e) with hm | ⟨h1, h2⟩
    · cases hm
    · obtain ⟨c1, hc⟩ := hfree _ h1 rfl
      have hc : X.env.cells.lookup y = some c1 := hc
      have e2 : c = c1 := by
        rw [h2, hc] <;> rfl
      rw [e2]
      obtain ⟨w, z⟩ := I.cell _ _ hc
      exact ⟨hc, z.lt⟩
  have look : ∀ {y}, scope.names.lookup y = some .free → ∃ c, (cloFrom X.env.cells scope.names []).lookup y = some c := fun {y} hl => by
    have hy : (y, NameKind.free) ∈ scope.names := PySem.mem_of_lookup hl
    exact mem_lookup (cloFrom_has (cells := X.env.cells) (acc := []) hy)
  have okB : (gnCx X Ag s H (gnEnv X scope s.heap.objs.size code) fp).Ok := by
    refine ⟨I.ok.mod, ok.kind, I.ok.glob, rfl, Nat.le_refl _, fun y z c e1 e2 => I.ok.inj y z c (cm e1).1 (cm e2).1, fun y hy => ?_, fun y c z _ => ?_, fun _ => hd, hfr, .inr ⟨rfl, rfl⟩, fun b hb => ⟨Nat.ne_of_lt (hfp b hb).2, fun y c e z => ?_⟩, I.bs, Nat.le_trans I.ok.bsz I.sz, fun b o e hb => ?_, fun b hb z => ?_, I.stack, I.stkFree⟩
    · have hy : scope.names.lookup y = some .cell ∨ scope.names.lookup y = some .free := hy
      rcases hy with hy | hy
      · exact absurd rfl (ok.cell _ (PySem.mem_of_lookup hy))
      · exact look hy
    · have z : false = true := z
      cases z
    · exact (hfp b hb).1.2.2.2.2.1 y c (cm e).1 z
    · rcases (hfp b hb).1.2.2.2.1 with z | z
      · exact I.ok.noex b o e z
      · exact absurd (Nat.lt_of_lt_of_le (Heap.lt_size e) (Nat.le_trans I.ok.bsz z)) (Nat.lt_irrefl _)
    · rcases List.mem_cons.mp (I.stkSub b z) with z | z
      · exact (hfp b hb).1.2.1 z
      · exact (hfp b hb).1.2.2.1 z
  refine ⟨okB, rfl, hb, Un.kept kp, ⟨_, hns, fun i y av e1 e2 e3 => ?_⟩, fun y c e => ?_, I.hok.fresh (Nat.le_refl _), fun y c e => I.freeC y c (cm e).1, fun p hp => absurd (show p ∈ ([] : List (Addr × Obj)) ++ [] from hp) (by simp), I.hok.kept kp, by rw [wipe_length]; exact I.len⟩
  · obtain ⟨e2, hne⟩ := wipe_some e2
    have e3 : Vis scope y := e3
    rcases e3 with k | k | k
    · rcases ok.own _ (PySem.mem_of_lookup k) rfl with z | z
      · obtain ⟨p, hp, hpy⟩ := List.mem_map.mp z
        have e4 := ok.ix p hp
        have : p.1 = y := hpy
        rw [this] at e4
        exact absurd (List.mem_map.mpr ⟨p, hp, nodup_ix hN e4 e1⟩) hne
      · exact absurd (List.mem_of_getElem? e1) z
    · exact absurd rfl (ok.cell _ (PySem.mem_of_lookup k))
    · obtain ⟨m, hn, hl⟩ := I.loc
      have hvis : Vis X.env.scope y := (ok.free _ (PySem.mem_of_lookup k) rfl).elim (fun k => .inr (.inl k)) (fun k => .inr (.inr k))
      obtain ⟨w', r, q⟩ := hl i y av e1 e2 hvis
      obtain ⟨c2, h2⟩ := look k
      refine ⟨w', r, .inr ⟨.inr k, c2, h2, ?_⟩⟩
      have c1 := (cm h2).1
      rcases q with ⟨k', _⟩ | ⟨_, c3, e', z⟩
      · have k' : X.env.scope.names.lookup y = some .local := k'
        rcases ok.free _ (PySem.mem_of_lookup k) rfl with k2 | k2 <;> rw [show X.env.scope.names.lookup y = _ from k2] at k' <;> cases k'
      · rw [c1] at e'
        cases e'
        exact z.keeps kp
  · obtain ⟨w', z⟩ := I.cell y c (cm e).1
    exact ⟨w', z.keeps kp⟩
end
end Pk
end

/-! PkO -/
section
set_option Elab.async false
set_option linter.all false
set_option maxRecDepth 100000
set_option maxHeartbeats 2000000
namespace Pk
open PySem PySem.Spec L2
structure Gho (α : Type) where
  acc : α
  i : Nat
  m : Nat
  H : Hp
  pins : List (Addr × Obj)
structure Gi (Xg : Cx) (σw : L2.St) (fp : List Addr) (tn : Nat → Heap → Prop) (pins : List (Addr × Obj)) (i : Nat) (H : Hp) (s : Shared) : Prop where
  inv : Inv Xg pins σw H s
  at_ : tn i s.heap
  nf : ∀ b ∈ fp, H b = none
  off : ∀ p ∈ pins, p.1 ∉ fp
def gpOf {α : Type} (Xg : Cx) (σw : L2.St) (fp : List Addr) (tn : Nat → Heap → Prop) (W : α → Nat → Nat → Hp → Prop) (Yl : α → V → Nat → Nat → Hp → Prop) (Fin : α → Hp → Prop) : GP (Gho α) where
  R := fun x r s => r = .ok .next ∧ ∃ H, Inv Xg x.pins σw H s ∧ Fin x.acc H
  Y := fun x v x1 s => x1.m < x.m ∧ x1.acc = x.acc ∧ x1.pins = x.pins ∧ Gi Xg σw fp tn x1.pins x1.i x1.H s ∧ ∃ y, RelV y v ∧ Yl x.acc y x1.i x1.m x1.H
  Re := fun x1 x2 s => x2.i = x1.i ∧ x2.m ≤ x1.m ∧ Gi Xg σw fp tn x2.pins x2.i x2.H s ∧ W x2.acc x2.i x2.m x2.H
def gTurn {α : Type} (J : It) (g : TG) (tt : TT) (te : TE) (vs : List Nat) (σw : L2.St) (W : α → Nat → Nat → Hp → Prop) (Yl : α → V → Nat → Nat → Hp → Prop) (Fin : α → Hp → Prop) : Prop :=
  ∀ acc i m H, W acc i m H → (J.stop i H ∧ Fin acc H) ∨ (J.go i H ∧ ∀ x H', J.yld i H x H' → g x σw H' fun σ2 H2 => wipe σ2 vs = σw ∧ tt σ2 H2 fun b H3 =>
    if b = true then te σ2 H3 fun y H4 => ∃ m', m' < m ∧ Yl acc y (i + 1) m' H4 else ∃ m', m' < m ∧ W acc (i + 1) m' H3)
section
variable {α : Type} {X : Cx} {s0 : Shared} {H0 : Hp} {cenv : Env} {fp : List Addr} {A : Around} {elt tg iter : Expr} {ifs : List Expr} {scope : Scope} {pos : Pos} {it : Addr} {tn : Nat → Heap → Prop} {J : It} {g : TG} {tt : TT} {te : TE} {vs : List Nat} {σw : L2.St}
  {W : α → Nat → Nat → Hp → Prop} {Yl : α → V → Nat → Nat → Hp → Prop} {Fin : α → Hp → Prop}
theorem gn_stat {Ag : Around} {pins : List (Addr × Obj)} {σ' : L2.St} {H' : Hp} {s' : Shared} (I' : Inv (gnCx X Ag s0 H0 cenv fp) pins σ' H' s') (hn : ∀ b ∈ fp, H' b = none) (off : ∀ p ∈ pins, p.1 ∉ fp) : ∀ b ∈ fp, FpOk (gnCx X Ag s0 H0 cenv fp) pins H' b := fun b hb =>
  ⟨hn b hb, (I'.ok.exf b hb).1, I'.ok.exfs b hb, .inl hb, fun x c e => (I'.ok.exf b hb).2 x c e, fun p hp z => by
    have hp : p ∈ ([] : List (Addr × Obj)) ++ pins := hp
    rw [List.nil_append] at hp
    exact off p hp (by rw [z]; exact hb)⟩
theorem segG_loop (hco : cenv.scope.isCoroutine = false)
    (T : Turn X.prog X.w X.K tg J fp it tn)
    (pg : PG (gnCx X (A.over (.compLoop (.GeneratorExp elt [⟨tg, iter, ifs, 0⟩] scope pos) 0 (.ref it) .none cenv) []) s0 H0 cenv fp) tg g)
    (pt : PTs (gnCx X (A.over (.compLoop (.GeneratorExp elt [⟨tg, iter, ifs, 0⟩] scope pos) 0 (.ref it) .none cenv) []) s0 H0 cenv fp) ifs tt)
    (pe : PE (gnCx X (A.over (.compLoop (.GeneratorExp elt [⟨tg, iter, ifs, 0⟩] scope pos) 0 (.ref it) .none cenv) []) s0 H0 cenv fp) elt te)
    (hw : ∀ (j : Nat) (v : V) (σ2 : L2.St), wipe σ2 vs = σw → σw[j]? = some (some v) → σ2[j]? = some (some v)) (turn : gTurn J g tt te vs σw W Yl Fin) :
    ∀ (m i : Nat) (H : Hp) (s : Shared) (x : Gho α) (n : Nat), m ≤ n → m ≤ x.m → Gi (gnCx X (A.over (.compLoop (.GeneratorExp elt [⟨tg, iter, ifs, 0⟩] scope pos) 0 (.ref it) .none cenv) []) s0 H0 cenv fp) σw fp tn x.pins i H s → W x.acc i m H →
      SegG (model X.prog X.w) A (gpOf (gnCx X (A.over (.compLoop (.GeneratorExp elt [⟨tg, iter, ifs, 0⟩] scope pos) 0 (.ref it) .none cenv) []) s0 H0 cenv fp) σw fp tn W Yl Fin) n x
        (.compLoop (.GeneratorExp elt [⟨tg, iter, ifs, 0⟩] scope pos) 0 (.ref it) .none cenv) ((model X.prog X.w).den (.compLoop (.GeneratorExp elt [⟨tg, iter, ifs, 0⟩] scope pos) 0 (.ref it) .none cenv)) [] s := by
  generalize hAg : A.over (.compLoop (.GeneratorExp elt [⟨tg, iter, ifs, 0⟩] scope pos) 0 (.ref it) .none cenv) [] = Ag at pg pt pe ⊢
  intro m
  induction m using Nat.strongRecOn with
  | _ m ih =>
  intro i H s x n hmn hmx gi w
  show SegG _ A _ n x _ ((compTurn (.GeneratorExp elt [⟨tg, iter, ifs, 0⟩] scope pos) 0 (.ref it) .none cenv).onRaise (leaving cenv)) [] s
  rw [compTurn_gen, Sem.onRaise_eq_wrap]
  refine segG_bind_wrap (wpAny_standAt ?_)
  rcases turn x.acc i m H w with ⟨stop, qq⟩ | ⟨go, step⟩
  · have td := T.done (gnCx X Ag s0 H0 cenv fp) rfl rfl rfl rfl i x.pins s _ H (fun _ _ => False) gi.inv (gn_stat gi.inv gi.nf gi.off) gi.at_ stop
    refine segG_bind_wrap ?_
    rw [hAg]
    refine thnF td fun r s6 ⟨hr, I6⟩ => ?_
    subst hr
    exact segG_end (.ok .next) ⟨rfl, H, I6, qq⟩
  · have ti := T.item (gnCx X Ag s0 H0 cenv fp) rfl rfl rfl rfl i x.pins s _ H (fun _ _ => False) gi.inv (gn_stat gi.inv gi.nf gi.off) gi.at_ go
    refine segG_bind_wrap ?_
    rw [hAg]
    refine thnF ti fun r s6 ⟨u, hr, h6⟩ => ?_
    subst hr
    refine segG_bind_wrap ?_
    rw [hAg]
    refine thnF h6 fun _ s7 ⟨xv, H7, I7, r7, y7, st7, n7⟩ => ?_
    have I7' := I7.pinned (gn_stat I7 n7 gi.off) (T.obj _ _ st7)
    refine segG_bind_wrap ?_
    rw [hAg]
    refine thnF (pg.run _ s7 _ H7 xv u _ I7' r7 (step xv H7 y7)) fun _ s8 ⟨σ8, H8, I8, hw8, q8⟩ => ?_
    refine segG_bind_wrap ?_
    rw [hAg]
    refine thnF (pt.run _ s8 σ8 H8 _ I8 q8) fun b s9 ⟨H9, I9, q9⟩ => ?_
    have fin : ∀ {s' : Shared} {H' : Hp}, Inv (gnCx X Ag s0 H0 cenv fp) (x.pins ++ pinsAt fp s7.heap) σ8 H' s' → Gi (gnCx X Ag s0 H0 cenv fp) σw fp tn x.pins (i + 1) H' s' := fun {s' H'} I' => by
      have pin' : ∀ b ∈ fp, ∀ o, s7.heap.get? b = some o → s'.heap.get? b = some o ∧ H' b = none := fun b hb o e =>
        let z := I'.pin (b, o) (List.mem_append_right _ (List.mem_append_right _ (mem_pinsAt hb e)))
        ⟨z.1, z.2.1⟩
      have hl : σw.length = σ8.length := by rw [← hw8, wipe_length]
      refine ⟨(I'.unpinned (pins := x.pins)).weak hl (fun j v e => hw j v σ8 hw8 e), T.keep _ _ _ st7 fun b hb o e => (pin' b hb o e).1, fun b hb => ?_, gi.off⟩
      obtain ⟨o, e, _⟩ := T.obj _ _ st7 b hb
      exact (pin' b hb o e).2
    cases b with
    | false =>
      simp only [Bool.false_eq_true, if_false] at q9 ⊢
      obtain ⟨m', hm, w'⟩ := q9
      exact segG_again rfl (ih m' hm (i + 1) H9 s9 x n (by omega) (by omega) (fin I9) w')
    | true =>
      simp only [if_true] at q9 ⊢
      have hy : ∀ v, yieldOut cenv v = yieldValue v := fun v => by simp only [yieldOut, hco, Bool.false_eq_true, if_false]
      simp only [hy]
      rw [Sem.bind_eq_wrap', Sem.bind_eq_wrap', Sem.wrap_wrap, Sem.wrap_wrap]
      refine segG_wrap ?_
      rw [hAg]
      refine thnF (pe.run _ s9 σ8 H9 _ I9 q9) fun z s10 ⟨yv, H10, I10, r10, m', hm, yl⟩ => ?_
      obtain ⟨n', rfl⟩ : ∃ n', n = n' + 1 := ⟨n - 1, by omega⟩
      refine segG_at (segG_yield (x1 := ⟨x.acc, i + 1, m', H10, x.pins⟩) rfl rfl rfl ⟨(by show m' < x.m; omega), rfl, rfl, fin I10, yv, r10, yl⟩ fun x2 s2 h2 => ?_)
      obtain ⟨e1, e2, gi2, w2⟩ := h2
      exact segG_again rfl (ih x2.m (by have : x2.m ≤ m' := e2; omega) x2.i x2.H s2 x2 n' (by have : x2.m ≤ m' := e2; omega) (Nat.le_refl _) gi2 w2)
end
end Pk
end

/-! PkP -/
section
set_option Elab.async false
set_option linter.all false
set_option maxRecDepth 100000
set_option maxHeartbeats 2000000
namespace Pk
open PySem PySem.Spec L2
/-- a generator expression that was made: what stays -/
structure GD (α : Type) where
  X : Cx
  pins : List (Addr × Obj)
  σ : L2.St
  s4 : Shared
  H4 : Hp
  cenv : Env
  fp : List Addr
  tn : Nat → Heap → Prop
  σw : L2.St
  Ag : Around
  Ac : Around
  W : α → Nat → Nat → Hp → Prop
  Yl : α → V → Nat → Nat → Hp → Prop
  Fin : α → Hp → Prop
  a : Addr
  g : Nat
  og : Obj
abbrev GD.Xg {α : Type} (d : GD α) : Cx := gnCx d.X d.Ag d.s4 d.H4 d.cenv d.fp
abbrev GD.P {α : Type} (d : GD α) : GP (Gho α) := gpOf d.Xg d.σw d.fp d.tn d.W d.Yl d.Fin
structure GD.Ok {α : Type} (d : GD α) : Prop where
  hd : d.Ac.handled = none
  dp : d.Ac.depth < recursionLimit
  gen : ∃ nm qn, d.og.cls = .type "generator" ∧ d.og.data = .fields #[.int d.g 0, nm, qn] ∧ d.og.slots = #[]
  obj : ∀ i h, d.tn i h → ∀ b ∈ d.fp, ∃ o, h.get? b = some o ∧ ∀ v, o.data ≠ .cell v
  keep : ∀ i h h', d.tn i h → (∀ b ∈ d.fp, ∀ o, h.get? b = some o → h'.get? b = some o) → d.tn i h'
  back : ∀ pins H' s', Inv d.Xg pins d.σw H' s' → Inv d.X d.pins d.σ H' s'
structure GOn {α : Type} (d : GD α) (acc : α) (i m : Nat) (H : Hp) (ps : List (Addr × Obj)) (s : Shared) : Prop where
  gi : Gi d.Xg d.σw d.fp d.tn ((d.a, d.og) :: ps) i H s
  up : ∀ p ∈ ps, d.s4.heap.objs.size ≤ p.1 ∧ p.1 ≠ d.a
  go : ∃ n gs, s.gens[d.g]? = some gs ∧ ∀ x2 s2, d.P.Re ⟨acc, i, m, H, (d.a, d.og) :: ps⟩ x2 s2 → GoesG (model d.X.prog d.X.w) d.Ac.in1 d.P n x2 gs s2
section
variable {α : Type} {d : GD α} {acc acc' : α} {i m m' : Nat} {H : Hp} {ps : List (Addr × Obj)} {s : Shared}
theorem inv_gens {X : Cx} {pins : List (Addr × Obj)} {σ : L2.St} {g' : Array GenState} {h' : Heap} {tk : Nat} (I : Inv X pins σ H s) (hg : PyProof.Rows.AllBare g') (k : ∀ b o, s.heap.get? b = some o → h'.get? b = some o) : Inv X pins σ H { s with heap := h', gens := g', toks := tk } :=
  I.call' (s' := { s with heap := h', gens := g', toks := tk }) (ch := []) rfl (Un.kept k) (I.hok.kept k) hg fun b z => absurd z (by simp)
theorem bare_set {s1 : Shared} {g : Nat} {x : GenState} (h : PyProof.Rows.AllBare s1.gens) (hx : x.bare = true) : PyProof.Rows.AllBare (s1.setGen g x).gens := by
  intro y hy
  have hy : y ∈ s1.gens.setIfInBounds g x := hy
  rcases Array.mem_or_eq_of_mem_setIfInBounds hy with z | z
  · exact h _ z
  · rw [z]; exact hx
theorem gOn_isGen (O : d.Ok) (G : GOn d acc i m H ps s) : s.heap.IsGen d.a d.g := by
  obtain ⟨nm, qn, e1, e2, e3⟩ := O.gen
  exact ⟨d.og, nm, qn, (G.gi.inv.pin (d.a, d.og) (List.mem_append_right _ List.mem_cons_self)).1, e1, e2, e3⟩
theorem gen_next {E : Value → Shared → Prop} (O : d.Ok) (G : GOn d acc i m H ps s) (hm : m' ≤ m) (w : d.W acc' i m' H) :
    wpAny (model d.X.prog d.X.w) d.Ac (pyNext (.ref d.a)) (fun r s' => (r = none ∧ ∃ H', Inv d.Xg ((d.a, d.og) :: ps) d.σw H' s' ∧ d.Fin acc' H') ∨
      ∃ v y i2 m2 H2, r = some v ∧ m2 < m' ∧ RelV y v ∧ GOn d acc' i2 m2 H2 ps s' ∧ d.Yl acc' y i2 m2 H2) E s := by
  obtain ⟨n, gs, hgs, hgo⟩ := G.go
  have hlt : d.g < s.gens.size := by
    rcases Nat.lt_or_ge d.g s.gens.size with h' | h'
    · exact h'
    · rw [Array.getElem?_eq_none h'] at hgs; cases hgs
  have IR : Gi d.Xg d.σw d.fp d.tn ((d.a, d.og) :: ps) i H (s.setGen d.g .running) := ⟨inv_gens (h' := s.heap) (tk := s.toks) G.gi.inv (bare_set G.gi.inv.bare rfl) fun _ _ e => e, G.gi.at_, G.gi.nf, G.gi.off⟩
  refine GenW.wpAny_gsz (n := s.gens.size) (Nat.le_refl _) ?_
  refine wpAny_pyNextG (P := d.P) (x := ⟨acc', i, m', H, (d.a, d.og) :: ps⟩) O.hd G.gi.inv.nolimit O.dp (gOn_isGen O G) hgs (hgo _ _ ⟨rfl, hm, IR, w⟩) (fun v s1 gs' n2 x1 hb hn hy hz hsz => ?_) fun r s1 hr => ?_
  · obtain ⟨e0, e1, e2, gi, y, ry, yl⟩ := hy
    obtain ⟨xa, xi, xm, xH, xp⟩ := x1
    have e1 : xa = acc' := e1
    have e2 : xp = (d.a, d.og) :: ps := e2
    subst e1
    subst e2
    rw [GenW.setGen_size] at hsz
    refine .inr ⟨v, y, xi, xm, xH, rfl, e0, ry, ⟨⟨inv_gens (h' := s1.heap) (tk := s1.toks) gi.inv (bare_set gi.inv.bare hb) fun _ _ e => e, gi.at_, gi.nf, gi.off⟩, G.up, n2, gs', ?_, hz⟩, yl⟩
    unfold Shared.setGen
    rw [Array.getElem?_setIfInBounds_self_of_lt (by omega)]
  · obtain ⟨e, H', I', f⟩ := hr
    refine ⟨e, fun h' k _ => .inl ⟨rfl, H', ?_, f⟩⟩
    exact inv_gens (s := s1) (h' := h') (tk := s1.toks) I' (bare_set I'.bare rfl) k
/-- the one who takes has an object S of its own, written -/
theorem GOn.obj {S : Addr} {o' : Obj} {h' : Heap} {tk : Nat} (O : d.Ok) (G : GOn d acc i m H ps s) (hps : (ps = [] ∧ s.heap.objs.size ≤ S) ∨ ∃ o, ps = [(S, o)]) (k : ∀ b o, b ≠ S → s.heap.get? b = some o → h'.get? b = some o) (hS : h'.get? S = some o') (hc : ∀ v, o'.data ≠ .cell v) :
    GOn d acc i m H [(S, o')] { s with heap := h', toks := tk } := by
  have I := G.gi.inv
  have base : H S = none ∧ S ≠ d.cenv.locals ∧ S ∉ d.Xg.fs ∧ d.s4.heap.objs.size ≤ S ∧ (∀ x c, d.cenv.cells.lookup x = some c → c ≠ S) ∧ S ≠ d.a ∧ S ∉ d.fp := by
    rcases hps with ⟨rfl, hz⟩ | ⟨o, rfl⟩
    · obtain ⟨f0, f1, f2, f3, f4, f5⟩ := I.fpOk hz (I.hok.fresh hz)
      refine ⟨f0, f1, f2, Nat.le_trans I.sz hz, f4, fun z => f5 (d.a, d.og) (List.mem_append_right _ List.mem_cons_self) z.symm, fun hb => ?_⟩
      obtain ⟨o, e, _⟩ := O.obj _ _ G.gi.at_ S hb
      exact absurd (Nat.lt_of_lt_of_le (Heap.lt_size e) hz) (Nat.lt_irrefl _)
    · obtain ⟨p1, p2, p3, p4, p5⟩ := I.pin (S, o) (List.mem_append_right _ (List.mem_cons_of_mem _ List.mem_cons_self))
      obtain ⟨u1, u2⟩ := G.up (S, o) List.mem_cons_self
      refine ⟨p2, p3, p4, u1, fun x c e z => ?_, u2, G.gi.off (S, o) (List.mem_cons_of_mem _ List.mem_cons_self)⟩
      obtain ⟨v, oc, ho, hd⟩ := I.cell x c e
      have p1 : s.heap.get? S = some o := p1
      rw [z, p1] at ho
      cases ho
      exact p5 _ hd
  obtain ⟨b0, b1, b2, b3, b4, b5, b6⟩ := base
  have I1 : Inv d.Xg [(d.a, d.og)] d.σw H s := I.pins_of fun p hp => by
    rw [List.mem_singleton.mp hp]
    exact I.pin (d.a, d.og) (List.mem_append_right _ List.mem_cons_self)
  have f : FpOk d.Xg [(d.a, d.og)] H S := ⟨b0, b1, b2, .inr b3, b4, fun p hp z => by
    have hp : p ∈ ([] : List (Addr × Obj)) ++ [(d.a, d.og)] := hp
    rw [List.nil_append] at hp
    rw [List.mem_singleton.mp hp] at z
    exact b5 z.symm⟩
  have I2 : Inv d.Xg [(d.a, d.og)] d.σw H { s with heap := h', toks := tk } := I1.turnedL (ch := [S]) (fun b o hb e => k b o (fun z => hb (by simp [z])) e) fun b hb => by
    rw [List.mem_singleton.mp hb]
    exact f
  refine ⟨⟨I2.pins_of fun p hp => ?_, O.keep _ _ _ G.gi.at_ fun b hb o e => k b o (fun z => b6 (z ▸ hb)) e, G.gi.nf, fun p hp => ?_⟩, fun p hp => ?_, ?_⟩
  · rcases List.mem_cons.mp hp with z | z
    · rw [z]
      exact I2.pin (d.a, d.og) (List.mem_append_right _ List.mem_cons_self)
    · rw [List.mem_singleton.mp z]
      exact ⟨hS, b0, b1, b2, hc⟩
  · rcases List.mem_cons.mp hp with z | z
    · rw [z]
      exact G.gi.off _ List.mem_cons_self
    · rw [List.mem_singleton.mp z]
      exact b6
  · rw [List.mem_singleton.mp hp]
    exact ⟨b3, b5⟩
  · obtain ⟨n, gs, e, go⟩ := G.go
    exact ⟨n, gs, e, fun x2 s2 ⟨h1, h2, h3, h4⟩ => go x2 s2 ⟨h1, h2, h3, h4⟩⟩
/-- .. nothing of its own: all stays -/
theorem GOn.kept {h' : Heap} {tk : Nat} (O : d.Ok) (G : GOn d acc i m H ps s) (k : ∀ b o, s.heap.get? b = some o → h'.get? b = some o) : GOn d acc i m H ps { s with heap := h', toks := tk } :=
  ⟨⟨G.gi.inv.kept k, O.keep _ _ _ G.gi.at_ fun b hb o e => k b o e, G.gi.nf, G.gi.off⟩, G.up, G.go⟩
end
end Pk
end

/-! PkQ -/
section
set_option Elab.async false
set_option linter.all false
set_option maxRecDepth 100000
set_option maxHeartbeats 4000000
namespace Pk
open PySem PySem.Spec L2
section
variable {γ : Type} {X : Cx} {A : Around} {P : GP γ} {elt tg iter : Expr} {ifs : List Expr} {scope : Scope} {pos : Pos} {it : Addr} {tn : Nat → Heap → Prop} {J : It} {fp : List Addr} {cenv : Env}
theorem segG_start (T : Turn X.prog X.w X.K tg J fp it tn) {n : Nat} {x : γ} {i : Nat} {s : Shared} (st : tn i s.heap)
    (loop : SegG (model X.prog X.w) A P n x (.compLoop (.GeneratorExp elt [⟨tg, iter, ifs, 0⟩] scope pos) 0 (.ref it) .none cenv) ((model X.prog X.w).den (.compLoop (.GeneratorExp elt [⟨tg, iter, ifs, 0⟩] scope pos) 0 (.ref it) .none cenv)) [] s) :
    SegG (model X.prog X.w) A P n x (.compStart (.GeneratorExp elt [⟨tg, iter, ifs, 0⟩] scope pos) 0 (.ref it) .none cenv) ((model X.prog X.w).den (.compStart (.GeneratorExp elt [⟨tg, iter, ifs, 0⟩] scope pos) 0 (.ref it) .none cenv)) [] s := by
  show SegG _ A _ n x _ ((compStart (.GeneratorExp elt [⟨tg, iter, ifs, 0⟩] scope pos) 0 (.ref it) .none cenv).onRaise (leaving cenv)) [] s
  unfold compStart
  rw [Sem.onRaise_eq_wrap]
  show SegG _ A _ n x _ ((ask >>= _).wrap _ _ _ _) [] s
  refine segG_bind_wrap (wpAny_askSetting ?_)
  split
  · exact segG_again rfl loop
  · first
      | exact segG_bind_wrap (wpAny_rule (segG_bind_wrap (wpAny_standAt (segG_bind_wrap (T.self _ i s _ _ st (segG_again rfl loop))))))
      | (refine segG_bind_wrap (wpAny_rule ?_); show SegG _ A _ n x _ ((standAt iter.pos >>= _).wrap _ _ _ _) [] s; exact segG_bind_wrap (wpAny_standAt (segG_bind_wrap (T.self _ i s _ _ st (segG_again rfl loop)))))
theorem room_over {k : Nat} {it : Value} (r : Room (k + 1) A) (hfr : X.A.frames = A.frames) : Room k (A.in4.in1.over (.compLoop (.GeneratorExp elt [⟨tg, iter, ifs, 0⟩] scope pos) 0 it .none cenv) []) := by
  refine ⟨?_, ?_, ?_⟩
  · simp [Around.over, marksOver]
    exact r.hd
  · have := r.dp
    simp [Around.over, frameCount, Code.weight, Code.frames, Code.isFrame, Code.isCreation, Code.isGuard, Code.isCaller]
    omega
  · have := r.un
    simp [Around.over, unitsOf, Code.cUnits, Code.frames, Code.isFrame]
    omega
theorem frames_over {it : Value} {l : List Env} (h : A.frames = some l) : (A.in4.in1.over (.compLoop (.GeneratorExp elt [⟨tg, iter, ifs, 0⟩] scope pos) 0 it .none cenv) []).frames = some (cenv :: l) := by
  simp [Around.over, pushEnvs, envsOf, Code.envs, Code.env?, Code.isFrame, h]
end
section
variable {α : Type} {X : Cx} {pins : List (Addr × Obj)} {σ : L2.St} {H : Hp} {s : Shared}
theorem gen_core {c P : Addr} {elt tg iter : Expr} {ifs : List Expr} {gpos : Pos} {scope : Scope} {own : List (Str × Nat)} {k : Nat} {wi : TI} {g : TG} {tt : TT} {te : TE} {Q' : Value → Shared → Prop} {Con : (α → Nat → Nat → Hp → Prop) → (α → V → Nat → Nat → Hp → Prop) → (α → Hp → Prop) → α → Nat → Hp → Prop}
    {T : List (Addr × Str)} (hr : Room (k + 1) X.A) (TB : LamX.TabB X.base X.mg c P) (hcode : X.env.code = .ref c) (hm : (P, X.env.qual ++ "<genexpr>") ∈ T) (hu : ∀ p ∈ T, p.1 = P → p.2 = X.env.qual ++ "<genexpr>") (ok : GenB X.N X.env.scope scope own) (hN : X.N.Nodup) (hi : PI X tg iter wi)
    (hg : ∀ (Ag : Around) (s : Shared) (H : Hp) (C : Addr) (code : Value) (fp : List Addr), Room k Ag → PG (gnCx X Ag s H (gnEnv X scope C code) fp) tg g)
    (ht : ∀ (Ag : Around) (s : Shared) (H : Hp) (C : Addr) (code : Value) (fp : List Addr), Room k Ag → PTs (gnCx X Ag s H (gnEnv X scope C code) fp) ifs tt)
    (he : ∀ (Ag : Around) (s : Shared) (H : Hp) (C : Addr) (code : Value) (fp : List Addr), Room k Ag → PE (gnCx X Ag s H (gnEnv X scope C code) fp) elt te)
    (hs : ∀ v, genFold iter X.env v = pure v) (I : Inv X pins σ H s)
    (h : wi σ H fun J H1 => LamX.Tabs T H1 ∧ ∀ H2, LamX.ExtN H1 H2 → LamX.Tabs T H2 →
      ∃ W Yl Fin acc m, gTurn (α := α) J g tt te (own.map (·.2)) (wipe σ (own.map (·.2))) W Yl Fin ∧ W acc 0 m H2 ∧ Con W Yl Fin acc m H2)
    (hQ : ∀ (d : GD α) (acc : α) (m : Nat) (H2 : Hp) (s5 : Shared), d.Ok → d.X = X → d.pins = pins → d.σ = σ → d.Ac = X.A.in4 → Con d.W d.Yl d.Fin acc m H2 → GOn d acc 0 m H2 [] s5 → d.W acc 0 m H2 → Q' (.ref d.a) s5) :
    wpAny (model X.prog X.w) X.A (eval (.GeneratorExp elt [⟨tg, iter, ifs, 0⟩] scope gpos) X.env) Q' X.xe s := by
  refine wpAny_GeneratorExp_make ok.co (closure_ok (ok.has I)) ok.cell ok.dot ok.kind (by have := hr.dp; omega) ?_ hs
  refine thn (hi.run pins s σ H _ I h) fun xv s1 h1 => thn h1 fun itv s2 h2 => ?_
  obtain ⟨it, fp, tn, J, H1, e, I2, Tn, st2, f2, hT, hcon⟩ := h2
  subst e
  obtain ⟨ps, hP, ht0, ha⟩ := hT _ hm
  have hPs : s2.heap.get? P = some { cls := .none, data := .fields ps } := I2.hok P _ hP
  have hPlt : P < s2.heap.objs.size := Heap.lt_size hPs
  have cd : PySem.W.CodeHd s2.heap c P := TB.code.keeps fun b u e => I2.bk b u e
  have cont : ∀ (code : Value) (h3 : Heap) (tk : Nat) (H4 : Hp), Heap.ExtBut P s2.heap h3 → s2.heap.objs.size ≤ h3.objs.size → Inv X pins σ H4 { s2 with heap := h3, toks := tk } → LamX.ExtN H1 H4 → LamX.Tabs T H4 → (∀ b, b < s2.heap.objs.size → H1 b = none → H4 b = none) →
      wpAny (model X.prog X.w) X.A (builtinsFor X.env.globals X.env.builtins) (fun bi s₄ =>
        ∀ h', h'.Ns s₄.heap.objs.size (fun y => if y = ".0" then some (.ref it) else none) → Heap.SameBut s₄.heap.objs.size (s₄.heap.push { cls := .type "frame", data := .dict #[] }) h' →
          Q' (.ref h'.objs.size) { s₄ with
            gens := s₄.gens.push (.fresh (.compStart (.GeneratorExp elt [⟨tg, iter, ifs, 0⟩] scope gpos) 0 (.ref it) .none (genEnv scope (cloFrom X.env.cells scope.names []) s₄.heap.objs.size code bi X.env))),
            toks := s₄.toks + 1 + 1 + 1,
            heap := h'.push { cls := .type "generator", data := .fields #[.int s₄.gens.size 0, .str "<genexpr>" (s₄.toks + 1), .str (X.env.qual ++ "<genexpr>") (s₄.toks + 1 + 1)] } }) X.xe { s2 with heap := h3, toks := tk } := by
    intro code h3 tk H4 hx hsz I3 hE hT4 hnf
    obtain ⟨bm, ob, e1, e2, e3, e4, e5, e6, e7, e8⟩ := TB.bm
    have keep3 : ∀ b u, b ≠ P → s2.heap.get? b = some u → h3.get? b = some u := fun b u hb e => hx b u hb e
    refine wpAny_builtinsFor (m := X.mg) (by rw [I2.ok.glob]; exact (I2.mod.glob.keeps I2.bk).extBut hx TB.gP) e1 e2 (keep3 _ _ e4 (I2.bk _ _ e5)) e6 e7 e8 ?_
    intro h' hn' hs'
    obtain ⟨W, Yl, Fin, acc, m, hturn, hw, hc⟩ := hcon H4 hE hT4
    have nP : ∀ b ∈ fp, b ≠ P := fun b hb z => by
      have q := (f2 b hb).1
      rw [z, hP] at q
      cases q
    have sz : ∀ b ∈ fp, b < s2.heap.objs.size := fun b hb => by
      obtain ⟨o, e, _⟩ := Tn.obj _ _ st2 b hb
      exact Heap.lt_size e
    have nf : ∀ b ∈ fp, H4 b = none := fun b hb => hnf b (sz b hb) (f2 b hb).1
    have f3 : ∀ b ∈ fp, FpOk X pins H4 b ∧ b < h3.objs.size := fun b hb => ⟨⟨nf b hb, (f2 b hb).2⟩, Nat.lt_of_lt_of_le (sz b hb) hsz⟩
    have st3 : tn 0 h3 := Tn.keep _ _ _ st2 fun b hb o e => keep3 b o (nP b hb) e
    have kp' : ∀ b o, h3.get? b = some o → h'.get? b = some o := fun b o e => hs'.extBut b o (Nat.ne_of_lt (Heap.lt_size e)) (Heap.get?_push_of_some _ e)
    have hsz' : h'.objs.size = h3.objs.size + 1 := by
      have := hs'.1
      rw [this, Heap.size_push]
    generalize hog : ({ cls := .type "generator", data := .fields #[.int s2.gens.size 0, .str "<genexpr>" (tk + 1), .str (X.env.qual ++ "<genexpr>") (tk + 1 + 1)] } : Obj) = og
    have hogd : og.data = .fields #[.int s2.gens.size 0, .str "<genexpr>" (tk + 1), .str (X.env.qual ++ "<genexpr>") (tk + 1 + 1)] := by rw [← hog]
    have kp5 : ∀ b o, h3.get? b = some o → (h'.push og).get? b = some o := fun b o e => Heap.get?_push_of_some _ (kp' b o e)
    have hog5 : (h'.push og).get? h'.objs.size = some og := by
      rw [← hog]
      exact Heap.get?_push_size _ rfl
    have I5 := gen_start (Ag := X.A.in4.in1.over (.compLoop (.GeneratorExp elt [⟨tg, iter, ifs, 0⟩] scope gpos) 0 (.ref it) .none (gnEnv X scope h3.objs.size code)) []) (code := code) (g' := s2.gens.push (.fresh (.compStart (.GeneratorExp elt [⟨tg, iter, ifs, 0⟩] scope gpos) 0 (.ref it) .none (gnEnv X scope h3.objs.size code)))) (h' := h'.push og) (tk := tk + 1 + 1 + 1) I3 ok hN f3
      (room_over hr rfl).hd (frames_over I3.ok.frames) (hn'.push _) kp5 (PyProof.Rows.AllBare.push I2.bare rfl)
    have hrg : Room k (X.A.in4.in1.over (.compLoop (.GeneratorExp elt [⟨tg, iter, ifs, 0⟩] scope gpos) 0 (.ref it) .none (gnEnv X scope h3.objs.size code)) []) := room_over hr rfl
    have hz5 : h3.objs.size ≤ h'.objs.size := by omega
    refine hQ ⟨X, pins, σ, { s2 with heap := h3, toks := tk }, H4, gnEnv X scope h3.objs.size code, fp, tn, wipe σ (own.map (·.2)), X.A.in4.in1.over (.compLoop (.GeneratorExp elt [⟨tg, iter, ifs, 0⟩] scope gpos) 0 (.ref it) .none (gnEnv X scope h3.objs.size code)) [], X.A.in4, W, Yl, Fin, h'.objs.size, s2.gens.size, og⟩
      acc m H4 _ ⟨hr.hd, by have := hr.dp; show X.A.depth < _; omega, ⟨_, _, by rw [← hog], hogd, by rw [← hog]⟩, Tn.obj, Tn.keep, fun pins' H' s' I' => ?_⟩ rfl rfl rfl rfl hc ⟨⟨?_, ?_, nf, ?_⟩, fun p hp => absurd hp (by simp), ?_⟩ hw
    · exact I3.call' (ch := fp) I'.os I'.base I'.hok I'.bare fun b hb => ⟨(f3 b hb).1.2.2.2.1, (f3 b hb).1.2.1, (f3 b hb).1.2.2.2.2.1, (f3 b hb).1.2.2.2.2.2⟩
    · refine I5.pins_of fun p hp => ?_
      rw [List.mem_singleton.mp hp]
      refine ⟨hog5, I3.hok.fresh hz5, ?_, fun z => ?_, fun v q => ?_⟩
      · show h'.objs.size ≠ h3.objs.size
        omega
      · rcases List.mem_cons.mp (I3.stkSub _ z) with z | z
        · have h1 := I3.lt
          rw [← z] at h1
          exact Nat.lt_irrefl _ (Nat.lt_of_lt_of_le h1 hz5)
        · exact I3.nofs hz5 z
      · have q : og.data = .cell v := q
        rw [hogd] at q
        cases q
    · exact Tn.keep _ _ _ st3 fun b hb o e => kp5 b o e
    · intro p hp
      rw [List.mem_singleton.mp hp]
      intro z
      have := (f3 _ z).2
      have : h'.objs.size < h3.objs.size := this
      omega
    · refine ⟨m, _, Array.getElem?_push_size .., fun x2 s2' ⟨e1, e2, gi2, w2⟩ => ?_⟩
      refine segG_start Tn gi2.at_ (segG_loop (A := X.A.in4.in1) ok.co Tn (hg _ _ _ _ _ _ hrg) (ht _ _ _ _ _ _ hrg) (he _ _ _ _ _ _ hrg) (fun j v σ2 e1 e2 => ?_) hturn x2.m x2.i x2.H s2' x2 m e2 (Nat.le_refl _) gi2 w2)
      rw [← e1] at e2
      exact (wipe_some e2).1
  refine ⟨I2.nolimit, ?_⟩
  cases hf : codeAmong gpos ps.toList with
  | none =>
    refine wpAny_genexprCodeX hcode (cd.code hPs ht0) (cd.tab hPs) hf fun c' h' tk hx hge hlt _ hrec htab' _ => ?_
    obtain ⟨c2, oc, vs, t, e2, hoc, hd, hv⟩ := hrec
    cases e2
    have nC : H1 c' = none := I2.hok.fresh hge
    have I4 := LamX.inv_table (t' := tk) (q := X.env.qual ++ "<genexpr>") (more := #[rawInt gpos.line, rawInt gpos.col, .ref c']) (h' := h') I2 hP (fun b o hb e => hx b o hb e) htab'.2 hge ⟨oc, vs, t, hoc, hd, hv⟩
    have hE : LamX.ExtN H1 (upd (upd H1 P (.tbl (ps ++ #[rawInt gpos.line, rawInt gpos.col, .ref c']))) c' (LamX.CodeO c' (X.env.qual ++ "<genexpr>"))) := fun b o e n => by
      rw [upd_ne (ne_of_none e nC), upd_ne (fun z => n ps (Option.some.inj (e.symm.trans (by rw [z]; exact hP))))]
      exact e
    have eL : (ps ++ #[rawInt gpos.line, rawInt gpos.col, .ref c']).toList = ps.toList ++ [rawInt gpos.line, rawInt gpos.col, .ref c'] := by simp
    refine cont _ h' tk _ hx (Nat.le_trans hge (Nat.le_of_lt hlt)) I4 hE (fun p hp => ?_) fun b hb n => ?_
    · by_cases hb : p.1 = P
      · rw [hu p hp hb, hb]
        refine ⟨_, by rw [upd_ne (ne_of_none hP nC), upd_same], by rw [eL]; exact PySem.TriplesOk_snoc _ _ _ _ ht0, fun p' cv hcv => ?_⟩
        rw [eL] at hcv
        rcases LamX.among_app _ ht0 hcv with z | z
        · obtain ⟨c0, e1, e2⟩ := ha p' cv z
          rw [hu _ hm rfl] at e2
          exact ⟨c0, e1, hE _ _ e2 LamX.codeO_ne⟩
        · exact ⟨c', z, upd_same⟩
      · obtain ⟨ps', a1, a2, a3⟩ := hT p hp
        refine ⟨ps', by rw [upd_ne (ne_of_none a1 nC), upd_ne hb]; exact a1, a2, fun p' cv hcv => ?_⟩
        obtain ⟨c0, e1, e2⟩ := a3 p' cv hcv
        exact ⟨c0, e1, hE _ _ e2 LamX.codeO_ne⟩
    · rw [upd_ne (fun z => absurd (Nat.lt_of_lt_of_le hb hge) (by rw [z]; exact Nat.lt_irrefl _)), upd_ne (fun z => by rw [z, hP] at n; cases n)]
      exact n
  | some cv =>
    refine wpAny_genexprCode_hit hcode (cd.code hPs ht0) hf ?_
    exact cont cv s2.heap s2.toks H1 (Heap.ExtBut.refl _ _) (Nat.le_refl _) I2 (LamX.ExtN.refl H1) hT fun b _ n => n
end
end Pk
end

/-! PkR -/
section
set_option Elab.async false
set_option linter.all false
set_option maxRecDepth 100000
set_option maxHeartbeats 4000000
namespace Pk
open PySem PySem.Spec L2
section
variable {α : Type} {d : GD α} {Q : VK} {s : Shared} {R : Result → Shared → Prop} {A : Around}
theorem of_in4 {β : Type} {M : Model} {A : Around} {t : Sem β} {Q : β → Shared → Prop} {E : Value → Shared → Prop} {s : Shared} (h : wpAny M A.in4 t Q E s) : wpAny M A.in1 t Q E s := wpAny_of_in1 (wpAny_of_in1 (wpAny_of_in1 h))
theorem of_in42 {β : Type} {M : Model} {A : Around} {t : Sem β} {Q : β → Shared → Prop} {E : Value → Shared → Prop} {s : Shared} (h : wpAny M A.in4 t Q E s) : wpAny M A.in1.in1 t Q E s := wpAny_of_in1 (wpAny_of_in1 h)
theorem of_in43 {β : Type} {M : Model} {A : Around} {t : Sem β} {Q : β → Shared → Prop} {E : Value → Shared → Prop} {s : Shared} (h : wpAny M A.in4 t Q E s) : wpAny M A.in1.in1.in1 t Q E s := wpAny_of_in1 h
theorem any_loopG (O : d.Ok) (hA : d.Ac = A.in4) (hfin : ∀ acc H, d.Fin acc H → Q (.bl false) H) (hyl : ∀ acc y i m H, d.Yl acc y i m H → ∃ b, y = .bl b ∧ (b = true → Q (.bl true) H) ∧ (b = false → ∃ acc' m', m' ≤ m ∧ d.W acc' i m' H))
    (hR : ∀ b H s', Inv d.X d.pins d.σ H s' → Q (.bl b) H → R (.ok (.ret (.bool b))) s') :
    ∀ (N : Nat) (acc acc0 : α) (i m m0 : Nat) (H : Hp) (s : Shared), m < N → m ≤ m0 → GOn d acc0 i m0 H [] s → d.W acc i m H → codeAny (model d.X.prog d.X.w) A (.builtin "any.loop" ⟨[.ref d.a], []⟩) R s := by
  intro N
  induction N with
  | zero => intro _ _ _ _ _ _ _ h; omega
  | succ N ih =>
    intro acc acc0 i m m0 H s hN hm G w
    refine codeAny_builtin F.entry_any_loop ?_
    rw [Around.under_plainId F.plain_any_loop _]
    show wpAny _ A.in1 (pyNext (.ref d.a) >>= _) _ _ s
    refine wpAny_bind (of_in4 ?_)
    rw [← hA]
    refine wpAny_mono (gen_next O G hm w) (fun r s1 h1 => ?_) fun _ _ e => e
    rcases h1 with ⟨rfl, H', I', f⟩ | ⟨v, y, i2, m2, H2, rfl, hlt, ry, G2, yl⟩
    · exact wpAny_bind (wpAny_rule (wpAny_pure (hR false H' s1 (O.back _ _ _ I') (hfin _ _ f))))
    · obtain ⟨b, rfl, q1, q2⟩ := hyl _ _ _ _ _ yl
      obtain rfl : v = .bool b := ry
      refine wpAny_bind (wpAny_holding (wpAny_truthy_bool ?_))
      refine wpAny_bind (wpAny_letGo ?_)
      cases b with
      | false =>
        simp only [Bool.false_eq_true, if_false]
        obtain ⟨acc', m', hm', w'⟩ := q2 rfl
        exact wpAny_pure ⟨plainId_quiet F.plain_any_loop _, ih acc' acc i2 m' m2 H2 s1 (by omega) hm' G2 w'⟩
      | true =>
        simp only [if_true]
        exact wpAny_bind (wpAny_rule (wpAny_pure (hR true H2 s1 (O.back _ _ _ G2.gi.inv) (q1 rfl))))
theorem all_loopG (O : d.Ok) (hA : d.Ac = A.in4) (hfin : ∀ acc H, d.Fin acc H → Q (.bl true) H) (hyl : ∀ acc y i m H, d.Yl acc y i m H → ∃ b, y = .bl b ∧ (b = false → Q (.bl false) H) ∧ (b = true → ∃ acc' m', m' ≤ m ∧ d.W acc' i m' H))
    (hR : ∀ b H s', Inv d.X d.pins d.σ H s' → Q (.bl b) H → R (.ok (.ret (.bool b))) s') :
    ∀ (N : Nat) (acc acc0 : α) (i m m0 : Nat) (H : Hp) (s : Shared), m < N → m ≤ m0 → GOn d acc0 i m0 H [] s → d.W acc i m H → codeAny (model d.X.prog d.X.w) A (.builtin "all.loop" ⟨[.ref d.a], []⟩) R s := by
  intro N
  induction N with
  | zero => intro _ _ _ _ _ _ _ h; omega
  | succ N ih =>
    intro acc acc0 i m m0 H s hN hm G w
    refine codeAny_builtin F.entry_all_loop ?_
    rw [Around.under_plainId F.plain_all_loop _]
    show wpAny _ A.in1 (pyNext (.ref d.a) >>= _) _ _ s
    refine wpAny_bind (of_in4 ?_)
    rw [← hA]
    refine wpAny_mono (gen_next O G hm w) (fun r s1 h1 => ?_) fun _ _ e => e
    rcases h1 with ⟨rfl, H', I', f⟩ | ⟨v, y, i2, m2, H2, rfl, hlt, ry, G2, yl⟩
    · exact wpAny_bind (wpAny_rule (wpAny_pure (hR true H' s1 (O.back _ _ _ I') (hfin _ _ f))))
    · obtain ⟨b, rfl, q1, q2⟩ := hyl _ _ _ _ _ yl
      obtain rfl : v = .bool b := ry
      refine wpAny_bind (wpAny_holding (wpAny_truthy_bool ?_))
      refine wpAny_bind (wpAny_letGo ?_)
      cases b with
      | true =>
        simp only [if_true]
        obtain ⟨acc', m', hm', w'⟩ := q2 rfl
        exact wpAny_pure ⟨plainId_quiet F.plain_all_loop _, ih acc' acc i2 m' m2 H2 s1 (by omega) hm' G2 w'⟩
      | false =>
        simp only [Bool.false_eq_true, if_false]
        exact wpAny_bind (wpAny_rule (wpAny_pure (hR false H2 s1 (O.back _ _ _ G2.gi.inv) (q1 rfl))))
theorem sum_loopG {d : GD Int} (O : d.Ok) (hA : d.Ac = A.in4) (hfin : ∀ acc H, d.Fin acc H → Q (.int acc) H) (hyl : ∀ acc y i m H, d.Yl acc y i m H → ∃ n, y = .int n ∧ InLong n ∧ InLong (acc + n) ∧ ∃ m', m' ≤ m ∧ d.W (acc + n) i m' H)
    (hR : ∀ n t H s', Inv d.X d.pins d.σ H s' → Q (.int n) H → R (.ok (.ret (.int n t))) s') (S : Addr) :
    ∀ (N : Nat) (acc acc0 : Int) (i m m0 : Nat) (H : Hp) (s : Shared) (tA : Tok) (c : Nat), m < N → m ≤ m0 → GOn d acc0 i m0 H [(S, { cls := .type "list", dict := none, data := .seq #[.int acc tA] c, slots := #[] })] s → d.W acc i m H →
      codeAny (model d.X.prog d.X.w) A (.builtin "sum.loop" ⟨[.ref d.a, .ref S, rawInt 0, rawInt 0], []⟩) R s := by
  intro N
  induction N with
  | zero => intro _ _ _ _ _ _ _ _ _ h; omega
  | succ N ih =>
    intro acc acc0 i m m0 H s tA c hN hm G w
    have hS : s.heap.get? S = some { cls := .type "list", dict := none, data := .seq #[.int acc tA] c, slots := #[] } := (G.gi.inv.pin (S, _) (List.mem_append_right _ (List.mem_cons_of_mem _ List.mem_cons_self))).1
    refine codeAny_builtin F.entry_sum_loop ?_
    rw [Around.under_plainId F.plain_sum_loop _]
    show wpAny _ A.in1 (seqItems? (.ref S) >>= _) _ _ s
    refine wpAny_bind (wpAny_seqItems hS rfl ?_)
    show wpAny _ A.in1 (tryCatch (pyNext (.ref d.a)) _ >>= _) _ _ s
    refine wpAny_bind (wpAny_tryCatch (of_in4 ?_))
    rw [← hA]
    refine wpAny_mono (gen_next O G hm w) (fun r s1 h1 => ?_) fun _ _ e => e
    rcases h1 with ⟨rfl, H', I', f⟩ | ⟨v, y, i2, m2, H2, rfl, hlt, ry, G2, yl⟩
    · exact wpAny_pure (hR acc tA H' s1 (O.back _ _ _ I') (hfin _ _ f))
    · obtain ⟨n, rfl, ⟨f1, f2⟩, ⟨f3, f4⟩, m', hm', w'⟩ := hyl _ _ _ _ _ yl
      obtain ⟨t, rfl⟩ := (show ∃ t, v = Value.int n t from ry)
      have hS' : s1.heap.get? S = some { cls := .type "list", dict := none, data := .seq #[.int acc tA] c, slots := #[] } := (G2.gi.inv.pin (S, _) (List.mem_append_right _ (List.mem_cons_of_mem _ List.mem_cons_self))).1
      have hc : ((decide (-(2 ^ 63) ≤ n) && decide (n < 2 ^ 63)) && (decide (-(2 ^ 63) ≤ acc + n) && decide (acc + n < 2 ^ 63))) = true := by
        simp only [Bool.and_eq_true, decide_eq_true_eq]
        exact ⟨⟨f1, f2⟩, f3, f4⟩
      show wpAny _ A.in1 (if (_ : Bool) = true then (mkInt (acc + n) >>= _) else _) _ _ _
      split
      · refine wpAny_bind (wpAny_mkInt ?_)
        show wpAny _ A.in1 (updateSeq S (fun _ => #[.int (acc + n) s1.toks]) >>= _) _ _ _
        refine wpAny_bind ?_
        refine wpAny_updateSeq hS' rfl (wpAny_pure ⟨plainId_quiet F.plain_sum_loop _, ih (acc + n) acc i2 m' m2 H2 _ s1.toks _ (by omega) hm' (GOn.obj (s := s1) (tk := s1.toks + 1) (S := S) O G2 (.inr ⟨_, rfl⟩) (fun b o hb e => (Heap.get?_update_other _ _ (Ne.symm hb)).trans e) (Heap.get?_update_self _ hS' rfl) fun v z => nomatch z) w'⟩)
      · rename_i hneg
        exact absurd hc hneg
theorem call_anyG (O : d.Ok) (hA : d.Ac = A.in4) {E : Value → Shared → Prop} {acc : α} {i m : Nat} {H : Hp} (G : GOn d acc i m H [] s) (w : d.W acc i m H) (hfin : ∀ acc H, d.Fin acc H → Q (.bl false) H) (hyl : ∀ acc y i m H, d.Yl acc y i m H → ∃ b, y = .bl b ∧ (b = true → Q (.bl true) H) ∧ (b = false → ∃ acc' m', m' ≤ m ∧ d.W acc' i m' H)) :
    wpAny (model d.X.prog d.X.w) A (call (.builtin "any") [.ref d.a]) (EP d.X d.pins d.σ Q) E s := by
  refine call_function_tree F.kind_any F.plain_any F.entry_any (F.args_any1 _) ?_
  unfold Builtin.«any»
  refine wpAny_bind (m := oneArg "any" _) (wpAny_pure ?_)
  refine wpAny_bind (wpAny_pyIter_gen (gOn_isGen O G) ?_)
  exact wpAny_pure ⟨plainId_quiet F.plain_any_loop _, any_loopG O hA hfin hyl (fun b H s' I q => ⟨.bl b, H, I, rfl, q⟩) (m + 1) acc acc i m m H s (by omega) (Nat.le_refl _) G w⟩
theorem call_allG (O : d.Ok) (hA : d.Ac = A.in4) {E : Value → Shared → Prop} {acc : α} {i m : Nat} {H : Hp} (G : GOn d acc i m H [] s) (w : d.W acc i m H) (hfin : ∀ acc H, d.Fin acc H → Q (.bl true) H) (hyl : ∀ acc y i m H, d.Yl acc y i m H → ∃ b, y = .bl b ∧ (b = false → Q (.bl false) H) ∧ (b = true → ∃ acc' m', m' ≤ m ∧ d.W acc' i m' H)) :
    wpAny (model d.X.prog d.X.w) A (call (.builtin "all") [.ref d.a]) (EP d.X d.pins d.σ Q) E s := by
  refine call_function_tree F.kind_all F.plain_all F.entry_all (F.args_all1 _) ?_
  unfold Builtin.«all»
  refine wpAny_bind (m := oneArg "all" _) (wpAny_pure ?_)
  refine wpAny_bind (wpAny_pyIter_gen (gOn_isGen O G) ?_)
  exact wpAny_pure ⟨plainId_quiet F.plain_all_loop _, all_loopG O hA hfin hyl (fun b H s' I q => ⟨.bl b, H, I, rfl, q⟩) (m + 1) acc acc i m m H s (by omega) (Nat.le_refl _) G w⟩
theorem call_sumG {d : GD Int} (O : d.Ok) (hA : d.Ac = A.in4) {E : Value → Shared → Prop} {i m : Nat} {H : Hp} (G : GOn d 0 i m H [] s) (w : d.W 0 i m H) (hfin : ∀ acc H, d.Fin acc H → Q (.int acc) H) (hyl : ∀ acc y i m H, d.Yl acc y i m H → ∃ n, y = .int n ∧ InLong n ∧ InLong (acc + n) ∧ ∃ m', m' ≤ m ∧ d.W (acc + n) i m' H) :
    wpAny (model d.X.prog d.X.w) A (call (.builtin "sum") [.ref d.a]) (EP d.X d.pins d.σ Q) E s := by
  refine call_function_tree F.kind_sum F.plain_sum F.entry_sum (F.args_sum1 _) ?_
  unfold Builtin.«sum»
  simp only [List.length_cons, List.length_nil]
  rw [if_neg (by decide)]
  refine wpAny_bind (wpAny_of_eq (show Builtin.Builtins.bindParams "sum" ["start"] 0 { } = pure [none] from rfl) ?_)
  refine wpAny_bind (wpAny_pyIter_gen (gOn_isGen O G) ?_)
  refine wpAny_bind (wpAny_mkInt ?_)
  refine wpAny_bind (wpAny_pure ?_)
  simp only [List.forIn_cons, List.forIn_nil]
  refine wpAny_bind (wpAny_bind (wpAny_bind (wpAny_isInstance (T := "int") (b := false) (typeIs_int _ _ _) sub_int_str ?_)))
  simp only [Bool.false_eq_true, if_false]
  refine wpAny_pure (wpAny_bind (wpAny_bind (wpAny_isInstance (T := "int") (b := false) (typeIs_int _ _ _) sub_int_bytes ?_)))
  simp only [Bool.false_eq_true, if_false]
  refine wpAny_pure (wpAny_bind (wpAny_bind (wpAny_isInstance (T := "int") (b := false) (typeIs_int _ _ _) sub_int_bytearray ?_)))
  simp only [Bool.false_eq_true, if_false]
  refine wpAny_pure (wpAny_pure ?_)
  refine wpAny_bind (wpAny_newObj_type ?_)
  exact wpAny_pure ⟨plainId_quiet F.plain_sum_loop _, sum_loopG O hA hfin hyl (fun n t H s' I q => ⟨.int n, H, I, ⟨t, rfl⟩, q⟩) s.heap.objs.size (m + 1) 0 0 i m m H _ s.toks 0 (by omega) (Nat.le_refl _)
    (GOn.obj (s := s) (tk := s.toks + 1) (S := s.heap.objs.size) O G (.inl ⟨rfl, Nat.le_refl _⟩) (fun b o _ e => Heap.get?_push_of_some _ e) (Heap.get?_push_size _ rfl) fun v z => nomatch z) w⟩
/-! the list that is collected -/
theorem extend_loopG {d : GD (List V)} {B : Around} (O : d.Ok) (lift : ∀ (t : Sem (Option Value)) (Q : Option Value → Shared → Prop) (E : Value → Shared → Prop) (s : Shared), wpAny (model d.X.prog d.X.w) d.Ac t Q E s → wpAny (model d.X.prog d.X.w) B.in1 t Q E s)
    (hyl : ∀ acc y i m H, d.Yl acc y i m H → acc.length < sizeLine ∧ ∃ m', m' ≤ m ∧ d.W (acc ++ [y]) i m' H) (S : Addr) (res : Value)
    (hR : ∀ vs (its : Array Value) c H s', vs.length ≤ sizeLine → Inv d.X d.pins d.σ H s' → s'.heap.get? S = some { cls := .type "list", dict := none, data := .seq its c, slots := #[] } → L2.Vals vs its.toList → d.Fin vs H → R (.ok (.ret res)) s') :
    ∀ (N : Nat) (acc acc0 : List V) (i m m0 : Nat) (H : Hp) (s : Shared) (its : Array Value) (c : Nat), m < N → m ≤ m0 → acc.length ≤ sizeLine → L2.Vals acc its.toList → GOn d acc0 i m0 H [(S, { cls := .type "list", dict := none, data := .seq its c, slots := #[] })] s → d.W acc i m H →
      codeAny (model d.X.prog d.X.w) B (.builtin "list.extend.loop" ⟨[.ref S, .ref d.a, res], []⟩) R s := by
  intro N
  induction N with
  | zero => intro _ _ _ _ _ _ _ _ _ h; omega
  | succ N ih =>
    intro acc acc0 i m m0 H s its c hN hm hz rv G w
    refine codeAny_builtin F.entry_extend_loop ?_
    rw [Around.under_plainId F.plain_extend_loop _]
    show wpAny _ B.in1 (pyNext (.ref d.a) >>= _) _ _ s
    refine wpAny_bind (lift _ _ _ _ ?_)
    refine wpAny_mono (gen_next O G hm w) (fun r s1 h1 => ?_) fun _ _ e => e
    rcases h1 with ⟨rfl, H', I', f⟩ | ⟨v, y, i2, m2, H2, rfl, hlt, ry, G2, yl⟩
    · have hS : s1.heap.get? S = some { cls := .type "list", dict := none, data := .seq its c, slots := #[] } := (I'.pin (S, _) (List.mem_append_right _ (List.mem_cons_of_mem _ List.mem_cons_self))).1
      exact wpAny_pure (hR acc its c H' s1 hz (O.back _ _ _ I') hS rv f)
    · obtain ⟨hz2, m', hm', w'⟩ := hyl _ _ _ _ _ yl
      have hS' : s1.heap.get? S = some { cls := .type "list", dict := none, data := .seq its c, slots := #[] } := (G2.gi.inv.pin (S, _) (List.mem_append_right _ (List.mem_cons_of_mem _ List.mem_cons_self))).1
      have hl : its.size = acc.length := by
        have := rv.length
        simpa using this.symm
      show wpAny _ B.in1 (updateSeq S (·.push v) >>= _) _ _ _
      refine wpAny_bind ?_
      refine wpAny_updateSeq hS' rfl (wpAny_pure ⟨plainId_quiet F.plain_extend_loop _, ih (acc ++ [y]) acc i2 m' m2 H2 _ (its.push v) _ (by omega) hm' (by rw [List.length_append]; exact hz2) (by rw [Array.toList_push]; exact rv.append (.cons ry .nil))
        (GOn.obj (s := s1) (tk := s1.toks) (S := S) O G2 (.inr ⟨_, rfl⟩) (fun b o hb e => (Heap.get?_update_other _ _ (Ne.symm hb)).trans e) (Heap.get?_update_self _ hS' rfl) fun v z => nomatch z) w'⟩)
        (by omega) (by show (its.push v).size ≤ sizeLine + 1; rw [Array.size_push]; omega)
theorem collectG {d : GD (List V)} {B : Around} {E : Value → Shared → Prop} {i m : Nat} {H : Hp} {Ql : List Value → Shared → Prop} (O : d.Ok) (lift : ∀ (t : Sem (Option Value)) (Q : Option Value → Shared → Prop) (E : Value → Shared → Prop) (s : Shared), wpAny (model d.X.prog d.X.w) d.Ac t Q E s → wpAny (model d.X.prog d.X.w) B.in1 t Q E s)
    (G : GOn d [] i m H [] s) (w : d.W [] i m H) (hyl : ∀ acc y i m H, d.Yl acc y i m H → acc.length < sizeLine ∧ ∃ m', m' ≤ m ∧ d.W (acc ++ [y]) i m' H)
    (hQ : ∀ vs its H s', vs.length ≤ sizeLine → Inv d.X d.pins d.σ H s' → L2.Vals vs its → d.Fin vs H → Ql its s') : wpAny (model d.X.prog d.X.w) B (collect (.ref d.a)) Ql E s := by
  have hT : ∀ (s9 : Shared), s9.heap.IsGen d.a d.g → s9.TypeIs (.ref d.a) "generator" := fun s9 h => h.typeIs
  have IG := gOn_isGen O G
  have hSI : s.heap.objs.size ≠ d.a := fun e => by
    obtain ⟨o, _, _, ho, _⟩ := IG
    have := Heap.lt_size ho
    rw [← e] at this
    exact Nat.lt_irrefl _ this
  unfold collect
  refine wpAny_bind (wpAny_runValue (codeAny_builtin F.entry_proto_collect ?_))
  rw [Around.under_plainId F.plain_proto_collect _]
  show wpAny _ B.in1 (newList [] >>= fun l => again (.builtin "list.__iadd__" ⟨[l, .ref d.a], []⟩)) _ _ s
  refine wpAny_bind (wpAny_newObj_type ?_)
  refine wpAny_pure ⟨plainId_quiet F.plain_list_iadd _, codeAny_builtin F.entry_list_iadd ?_⟩
  rw [Around.under_plainId F.plain_list_iadd _]
  have IG1 : (s.heap.push { cls := .type "list", data := .seq ([] : List Value).toArray }).IsGen d.a d.g := IG.push _
  show wpAny _ B.in1 (Builtin.List.listExtendWith (.ref s.heap.objs.size) (.ref d.a) (.ref s.heap.objs.size)) _ _ _
  unfold Builtin.List.listExtendWith
  refine wpAny_bind (wpAny_typeOf (hT _ IG1) ?_)
  have h1 : Builtin.List.listSameRef (.ref s.heap.objs.size) (.ref d.a) = false := by simp [Builtin.List.listSameRef, hSI]
  have h2 : (Value.type "generator" == Value.type "list") = false := by decide
  have h3 : (Value.type "generator" == Value.type "tuple") = false := by decide
  simp only [h1, h2, h3, Bool.or_false, Bool.false_eq_true, if_false]
  refine wpAny_bind (wpAny_pyIter_gen IG1 ?_)
  refine wpAny_bind (wpAny_holding ?_)
  unfold Builtin.List.listLengthHint
  refine wpAny_bind (wpAny_specialOf (hT _ IG1) F.gen_no_len ?_)
  show wpAny _ B.in1 (specialOf (Value.ref d.a) (Str.ofString "__length_hint__") >>= _) _ _ _
  refine wpAny_bind (wpAny_specialOf (hT _ IG1) F.gen_no_hint ?_)
  refine wpAny_pure ?_
  show wpAny _ B.in1 (rule "list.extend.makes-room" >>= fun _ => Builtin.List.listTouch (.ref s.heap.objs.size) >>= fun _ =>
    again (.builtin "list.extend.loop" ⟨[.ref s.heap.objs.size, .ref d.a, .ref s.heap.objs.size], []⟩)) _ _ _
  refine wpAny_bind (wpAny_rule ?_)
  have hS₁ : (s.heap.push { cls := .type "list", data := .seq ([] : List Value).toArray }).get? s.heap.objs.size = some { cls := .type "list", data := .seq ([] : List Value).toArray } := Heap.get?_push_size _ rfl
  refine wpAny_bind ?_
  show wpAny _ B.in1 (updateSeq s.heap.objs.size (·.push .none) >>= fun _ => updateSeq s.heap.objs.size (·.pop)) _ _ _
  refine wpAny_bind (wpAny_updateSeq hS₁ rfl ?_)
  have hS₂ := Heap.get?_update_self (Obj.mapSeq (·.push Value.none)) hS₁ rfl
  refine wpAny_updateSeq hS₂ rfl ?_
  have hS₃ := Heap.get?_update_self (Obj.mapSeq (·.pop)) hS₂ rfl
  have oth : ∀ b o, b ≠ s.heap.objs.size → s.heap.get? b = some o →
      (((s.heap.push { cls := .type "list", data := .seq ([] : List Value).toArray }).update s.heap.objs.size (Obj.mapSeq (·.push Value.none))).update s.heap.objs.size (Obj.mapSeq (·.pop))).get? b = some o :=
    fun b o hb e => (Heap.get?_update_other _ _ (Ne.symm hb)).trans ((Heap.get?_update_other _ _ (Ne.symm hb)).trans (Heap.get?_push_of_some _ e))
  refine wpAny_pure ⟨plainId_quiet F.plain_extend_loop _, extend_loopG O lift hyl s.heap.objs.size _ (fun vs its c H s' hz I hS rv f => ?_) (m + 1) [] [] i m m H _ #[] _ (by omega) (Nat.le_refl _) (Nat.zero_le _) .nil
    (GOn.obj (s := s) (tk := s.toks) (S := s.heap.objs.size) O G (.inl ⟨rfl, Nat.le_refl _⟩) oth hS₃ fun v z => nomatch z) w⟩
  show wpAny _ B (load s.heap.objs.size >>= _) _ _ s'
  refine wpAny_bind (wpAny_load hS ?_)
  exact wpAny_pure (hQ vs its.toList H s' hz I rv f)
theorem call_tupleG {d : GD (List V)} (O : d.Ok) (hA : d.Ac = A.in4) {E : Value → Shared → Prop} {i m : Nat} {H : Hp} (G : GOn d [] i m H [] s) (w : d.W [] i m H) (hfin : ∀ acc H, d.Fin acc H → ∀ T, H T = none → Q (.ref T) (upd H T (.tup acc)))
    (hyl : ∀ acc y i m H, d.Yl acc y i m H → acc.length < sizeLine ∧ ∃ m', m' ≤ m ∧ d.W (acc ++ [y]) i m' H) :
    wpAny (model d.X.prog d.X.w) A (call (.type "tuple") [.ref d.a]) (EP d.X d.pins d.σ Q) E s := by
  refine callType_codes (Q₁ := fun obj s₁ => s₁.TypeIs obj "tuple" ∧ EP d.X d.pins d.σ Q obj s₁) F.called_tuple (F.typeCall_tuple_1 _) F.entry_object_init ?_ fun obj s₁ h₁ => ?_
  · refine codeAny_of_tree ?_
    show wpAny _ A.in1.in1 (do checkBuiltinCall "tuple.__new__" ⟨[.type "tuple", .ref d.a], []⟩; again (.builtin "tuple.__new__" ⟨[.type "tuple", .ref d.a], []⟩)) _ _ s
    refine wpAny_bind (wpAny_of_eq (F.newCall_tuple_1 _) (wpAny_pure ⟨plainId_quiet F.plain_tuple_new _, codeAny_builtin F.entry_tuple_new ?_⟩))
    rw [Around.under_plainId F.plain_tuple_new _]
    have hsub := sub_tuple_self
    have hinit := init_tuple_lookup
    have hmh := madeHere_tuple
    have hTI := (gOn_isGen O G).typeIs
    have key : ∀ {Ql : List Value → Shared → Prop} {E : Value → Shared → Prop} (hQ : ∀ vs its H s', vs.length ≤ sizeLine → Inv d.X d.pins d.σ H s' → L2.Vals vs its → d.Fin vs H → Ql its s'), wpAny (model d.X.prog d.X.w) A.in1.in1 (collect (.ref d.a)) Ql E s := fun hQ =>
      collectG O (fun t Q E s h => of_in43 (A := A) (by rw [← hA]; exact h)) G w hyl hQ
    wp_walk using wpAny_typeOf hTI, key
    intro vs its H' s' hz I rv f
    show wpAny _ _ (Builtin.Tuple.tupleExact its.toArray >>= fun v => ret v) _ _ _
    unfold Builtin.Tuple.tupleExact
    have hl : its.length = vs.length := rv.length.symm
    refine wpAny_bind (wpAny_newObj_type ?_ (by show its.toArray.size ≤ sizeLine; rw [List.size_toArray]; omega))
    refine wpAny_pure ?_
    refine ⟨⟨_, Heap.get?_push_size _ rfl, rfl⟩, .ref s'.heap.objs.size, upd H' s'.heap.objs.size (.tup vs), ?_, rfl, hfin _ _ f _ (I.hok.fresh (Nat.le_refl _))⟩
    exact I.laid (t' := s'.toks) (fun b o e => Heap.get?_push_of_some _ e) (Nat.le_refl _) (show ObjOk d.X.prog d.X.w _ _ _ (.tup vs) from ⟨hz, its, rv, PyProof.Rows.IsTup.new _ _⟩)
  · exact ⟨h₁.1, F.args_object_init_2 obj _, object_init_meets F.called_tuple.init.lookup F.called_tuple.made (by decide) d.X.prog d.X.w A.in1 _ s₁ ⟨h₁.1, rfl, h₁.2⟩⟩
end
end Pk
end

/-! PkS -/
section
set_option Elab.async false
set_option linter.all false
set_option maxRecDepth 100000
set_option maxHeartbeats 4000000
namespace Pk
open PySem PySem.Spec L2
def gNext {β ω : Type} (step : β → W → Option (Sum ω β)) (go : β → HS → R ω) (b : β) (y : W) (h : HS) : R ω := match step b y with
  | some (.inl z) => .ok z h
  | some (.inr b') => go b' h
  | none => .no
def gLoop {β ω : Type} (own : List Nat) (kp : HS → Bool) (tg : Gx) (tt : Tx) (te : Ex) (sl : Sl) (fin : β → HS → R ω) (step : β → W → Option (Sum ω β)) : List W → β → HS → R ω
  | [], b, h => if kp h = true then fin b h else .no
  | w :: ws, b, h => if kp h = true then (match tg w (wipeS sl own) h with
    | some (s, h1) => (noX (tt s h1)).bind fun c h2 => if c = true then (noX (te s h2)).bind fun y h3 => gNext step (gLoop own kp tg tt te sl fin step ws) b y h3 else gLoop own kp tg tt te sl fin step ws b h2
    | none => .no) else .no
def eGen {β ω : Type} (own : List Nat) (src : Ix) (tg : Gx) (tt : Tx) (te : Ex) (b0 : β) (fin : β → HS → R ω) (step : β → W → Option (Sum ω β)) : Sl → HS → R ω := fun sl h => (src sl h).bind fun p h1 => gLoop own p.2 tg tt te sl fin step p.1 b0 h1
section
variable {β ω α ν : Type}
def gW (Γ : Γ) (Wx : WX) (Rl : G → ω → ν → Prop) (Rb : G → β → α → Prop) (g : G) (own : List Nat) (kp : HS → Bool) (tg : Gx) (tt : Tx) (te : Ex) (sl : Sl) (fin : β → HS → R ω) (step : β → W → Option (Sum ω β)) (ws : List W) (σ : L2.St) (Q : ν → Hp → Prop) : α → Nat → Nat → Hp → Prop := fun a i m H =>
  m = ws.length - i ∧ i ≤ ws.length ∧ ∃ g' h' b, g.le g' ∧ RH Γ g' h' H ∧ Rb g' b a ∧ Rz Γ Wx Rl g (gLoop own kp tg tt te sl fin step (ws.drop i) b h') σ Q
def gYl (Γ : Γ) (Wx : WX) (Rl : G → ω → ν → Prop) (Rb : G → β → α → Prop) (g : G) (own : List Nat) (kp : HS → Bool) (tg : Gx) (tt : Tx) (te : Ex) (sl : Sl) (fin : β → HS → R ω) (step : β → W → Option (Sum ω β)) (ws : List W) (σ : L2.St) (Q : ν → Hp → Prop) : α → V → Nat → Nat → Hp → Prop := fun a y i m H =>
  m = ws.length - i ∧ i ≤ ws.length ∧ ∃ g' h' b w, g.le g' ∧ RH Γ g' h' H ∧ Rb g' b a ∧ RW Γ.K g' w y ∧ Rz Γ Wx Rl g (gNext step (gLoop own kp tg tt te sl fin step (ws.drop i)) b w h') σ Q
def gFin (Γ : Γ) (Wx : WX) (Rl : G → ω → ν → Prop) (Rb : G → β → α → Prop) (g : G) (fin : β → HS → R ω) (σ : L2.St) (Q : ν → Hp → Prop) : α → Hp → Prop := fun a H =>
  ∃ g' h' b, g.le g' ∧ RH Γ g' h' H ∧ Rb g' b a ∧ Rz Γ Wx Rl g (fin b h') σ Q
end
section
variable {β ω α ν : Type} {Γ : Γ} {Wx : WX} {g : G} {h : HS} {H : Hp} {sl : Sl} {σ : L2.St}
theorem g_rd {Rl : G → ω → ν → Prop} {Rb : G → β → α → Prop} {own is : List Nat} {kp : HS → Bool} {tg : Gx} {tt : Tx} {te : Ex} {fin : β → HS → R ω} {step : β → W → Option (Sum ω β)} {ws : List W} {J : It} {Q : ν → Hp → Prop} (hs : ∀ j ∈ is, j ∈ own) (mono : ∀ (g g' : G) (b : β) (a : α), g.le g' → Rb g b a → Rb g' b a)
    (hS : SLk Γ g sl σ) (it : ItG Γ J ws kp g) :
    gTurn J (RDG Γ is tg) (RDT Γ W0 tt) (RDE Γ W0 te) own (wipe σ own) (gW Γ Wx Rl Rb g own kp tg tt te sl fin step ws σ Q) (gYl Γ Wx Rl Rb g own kp tg tt te sl fin step ws σ Q) (gFin Γ Wx Rl Rb g fin σ Q) := by
  rintro a i m H ⟨rfl, hi, g', h', b, l, y, rb, q⟩
  by_cases hlt : i < ws.length
  · obtain ⟨w, hw⟩ : ∃ w, ws[i]? = some w := ⟨_, List.getElem?_eq_getElem hlt⟩
    have hd : ws.drop i = w :: ws.drop (i + 1) := by
      rw [List.drop_eq_getElem_cons hlt]
      rw [List.getElem?_eq_getElem hlt] at hw
      cases hw
      rfl
    rw [hd] at q
    unfold gLoop at q
    by_cases hk : kp h' = true
    · rw [if_pos hk] at q
      obtain ⟨go, yl⟩ := it.go g' h' H i l y hk hlt
      refine .inr ⟨go, fun x H2 hy => ?_⟩
      obtain ⟨g2, l2, y2, rw2⟩ := yl x H2 hy
      refine ⟨g2, w, wipeS sl own, h', y2, SLk.wipe (SLk.mono (l.trans l2) hS), rw2 w hw, ?_⟩
      cases et : tg w (wipeS sl own) h' with
      | none => rw [et] at q; exact q.elim
      | some sp =>
        obtain ⟨s1, h1⟩ := sp
        rw [et] at q
        intro g3 σ2 H3 l3 y3 s3 o3
        refine ⟨wipe_eq hs o3, g3, s1, h1, y3, s3, ?_⟩
        have l03 : g.le g3 := l.trans (l2.trans l3)
        have q : Rz Γ Wx Rl g ((noX (tt s1 h1)).bind fun c h2 => if c = true then (noX (te s1 h2)).bind fun y h3 => gNext step (gLoop own kp tg tt te sl fin step (ws.drop (i + 1))) b y h3 else gLoop own kp tg tt te sl fin step (ws.drop (i + 1)) b h2) σ Q := q
        refine Rz.mono (fun c H4 ⟨g4, h4, c', l4, y4, ec, q4⟩ => ?_) (rz_noX σ2 g3 q)
        subst ec
        by_cases hb : c' = true
        · rw [if_pos hb] at q4 ⊢
          refine ⟨g4, s1, h4, y4, SLk.mono l4 s3, Rz.mono (fun yv H5 ⟨g5, h5, yw, l5, y5, ry, q5⟩ => ?_) (rz_noX σ2 g4 q4)⟩
          have l05 : g'.le g5 := l2.trans (l3.trans (l4.trans l5))
          exact ⟨ws.length - (i + 1), by omega, rfl, hlt, g5, h5, b, yw, l.trans l05, y5, mono _ _ _ _ l05 rb, ry, q5⟩
        · rw [if_neg hb] at q4 ⊢
          have l05 : g'.le g4 := l2.trans (l3.trans l4)
          exact ⟨ws.length - (i + 1), by omega, rfl, hlt, g4, h4, b, l.trans l05, y4, mono _ _ _ _ l05 rb, q4⟩
    · rw [if_neg hk] at q
      exact q.elim
  · have e : i = ws.length := by omega
    subst e
    rw [List.drop_length] at q
    unfold gLoop at q
    by_cases hk : kp h' = true
    · rw [if_pos hk] at q
      exact .inl ⟨it.stop g' h' H l y hk, g', h', b, l, y, rb, q⟩
    · rw [if_neg hk] at q
      exact q.elim
end
/-! any, all, sum, tuple -/
def stAny (_ : Unit) (y : W) : Option (Sum W Unit) := match y with
  | .bl b => if b then some (.inl (.bl true)) else some (.inr ())
  | _ => none
def stAll (_ : Unit) (y : W) : Option (Sum W Unit) := match y with
  | .bl b => if b then some (.inr ()) else some (.inl (.bl false))
  | _ => none
def inL (i : Int) : Bool := decide (-(2 ^ 63) ≤ i) && decide (i < 2 ^ 63)
def stSum (n : Int) (y : W) : Option (Sum W Int) := match y with
  | .int k => if (inL k && inL (n + k)) = true then some (.inr (n + k)) else none
  | _ => none
def stTup (ws : List W) (y : W) : Option (Sum W (List W)) := if ws.length < sizeLine then some (.inr (ws ++ [y])) else none
def eAny (own : List Nat) (src : Ix) (tg : Gx) (tt : Tx) (te : Ex) : Ex := eGen own src tg tt te () (fun _ h => .ok (.bl false) h) stAny
def eAll (own : List Nat) (src : Ix) (tg : Gx) (tt : Tx) (te : Ex) : Ex := eGen own src tg tt te () (fun _ h => .ok (.bl true) h) stAll
def eSumG (own : List Nat) (src : Ix) (tg : Gx) (tt : Tx) (te : Ex) : Ex := eGen own src tg tt te 0 (fun n h => .ok (.int n) h) stSum
def eTupG (own : List Nat) (src : Ix) (tg : Gx) (tt : Tx) (te : Ex) : Ex := eGen own src tg tt te [] (fun ws h => .ok (.tup ws) h) stTup
theorem stSum_yes {n k : Int} (h : (inL k && inL (n + k)) = true) : stSum n (.int k) = some (.inr (n + k)) := if_pos h
theorem stSum_no {n k : Int} (h : ¬ (inL k && inL (n + k)) = true) : stSum n (.int k) = none := if_neg h
theorem stTup_yes {ws : List W} {y : W} (h : ws.length < sizeLine) : stTup ws y = some (.inr (ws ++ [y])) := if_pos h
theorem stTup_no {ws : List W} {y : W} (h : ¬ ws.length < sizeLine) : stTup ws y = none := if_neg h
/-- what a def with generator expressions has: its code object c, the table P -/
structure HasTab (Γ : Γ) (X : Cx) (q : Str) (k : Nat) (c P : Addr) : Prop where
  room : Room (k + 1) X.A
  tb : LamX.TabB X.base X.mg c P
  code : X.env.code = .ref c
  mem : (P, X.env.qual ++ q) ∈ Γ.tabs
  uni : ∀ p ∈ Γ.tabs, p.1 = P → p.2 = X.env.qual ++ q
section
variable {Γ : Γ} {Wx : WX} {X : Cx} {c P : Addr} {elt tg iter : Expr} {ifs : List Expr} {gpos p pos : Pos} {scope : Scope} {own : List (Str × Nat)} {is : List Nat} {k : Nat} {src : Ix} {tgx : Gx} {tt : Tx} {te : Ex}
theorem gen_rd {β ω α : Type} {pins : List (Addr × Obj)} {σ : L2.St} {H : Hp} {s : Shared} {ν : Type} {Rl : G → ω → ν → Prop} {Q : ν → Hp → Prop} {Q' : Value → Shared → Prop} (Rb : G → β → α → Prop) {b0 : β} {fin : β → HS → R ω} {step : β → W → Option (Sum ω β)} (a0 : α)
    (T : HasTab Γ X "<genexpr>" k c P) (hN : X.N.Nodup) (ok : GenB X.N X.env.scope scope own) (hi : PI X tg iter (RDI Γ Wx src))
    (hg : ∀ (Ag : Around) (s : Shared) (H : Hp) (C : Addr) (code : Value) (fp : List Addr), Room k Ag → PG (gnCx X Ag s H (gnEnv X scope C code) fp) tg (RDG Γ is tgx))
    (ht : ∀ (Ag : Around) (s : Shared) (H : Hp) (C : Addr) (code : Value) (fp : List Addr), Room k Ag → PTs (gnCx X Ag s H (gnEnv X scope C code) fp) ifs (RDT Γ W0 tt))
    (he : ∀ (Ag : Around) (s : Shared) (H : Hp) (C : Addr) (code : Value) (fp : List Addr), Room k Ag → PE (gnCx X Ag s H (gnEnv X scope C code) fp) elt (RDE Γ W0 te))
    (hs : ∀ j ∈ is, j ∈ own.map (·.2)) (mono : ∀ (g g' : G) (b : β) (a : α), g.le g' → Rb g b a → Rb g' b a) (hb : ∀ g, Rb g b0 a0)
    (hf : ∀ v, genFold iter X.env v = pure v) (I : Inv X pins σ H s)
    (h : ∃ g sl h, RH Γ g h H ∧ SLk Γ g sl σ ∧ Rz Γ Wx Rl g (eGen (own.map (·.2)) src tgx tt te b0 fin step sl h) σ Q)
    (hQ : ∀ (d : GD α) (m : Nat) (H2 : Hp) (s5 : Shared) (ws : List W) (kp : HS → Bool) (sl : Sl) (g : G), d.Ok → d.X = X → d.pins = pins → d.σ = σ → d.Ac = X.A.in4 →
      (∀ a i m H, d.W a i m H ↔ gW Γ Wx Rl Rb g (own.map (·.2)) kp tgx tt te sl fin step ws σ Q a i m H) → (∀ a y i m H, d.Yl a y i m H → gYl Γ Wx Rl Rb g (own.map (·.2)) kp tgx tt te sl fin step ws σ Q a y i m H) → (∀ a H, d.Fin a H → gFin Γ Wx Rl Rb g fin σ Q a H) →
      GOn d a0 0 m H2 [] s5 → d.W a0 0 m H2 → Q' (.ref d.a) s5) :
    wpAny (model X.prog X.w) X.A (eval (.GeneratorExp elt [⟨tg, iter, ifs, 0⟩] scope gpos) X.env) Q' X.xe s := by
  obtain ⟨g, sl, h, hH, hS, q⟩ := h
  refine gen_core (α := α) (Con := fun Wp Yl Fin acc m H2 => acc = a0 ∧ ∃ (ws : List W) (kp : HS → Bool) (sl : Sl) (g : G),
      (∀ a i m H, Wp a i m H ↔ gW Γ Wx Rl Rb g (own.map (·.2)) kp tgx tt te sl fin step ws σ Q a i m H) ∧ (∀ a y i m H, Yl a y i m H → gYl Γ Wx Rl Rb g (own.map (·.2)) kp tgx tt te sl fin step ws σ Q a y i m H) ∧ (∀ a H, Fin a H → gFin Γ Wx Rl Rb g fin σ Q a H))
    T.room T.tb T.code T.mem T.uni ok hN hi hg ht he hf I ⟨g, sl, h, hH, hS, ?_⟩ fun d acc m H2 s5 O e1 e2 e3 e4 ⟨ea, ws, kp, sl, g, h1, h2, h3⟩ G w => ?_
  · unfold eGen at q
    cases es : src sl h with
    | no => rw [es] at q; exact q.elim
    | exc c h1 => rw [es] at q; exact q
    | ok p h1 =>
      rw [es] at q
      intro g' H' J l y it
      refine ⟨y.tab, fun H2 hE hT => ?_⟩
      exact ⟨gW Γ Wx Rl Rb g' (own.map (·.2)) p.2 tgx tt te sl fin step p.1 σ Q, gYl Γ Wx Rl Rb g' (own.map (·.2)) p.2 tgx tt te sl fin step p.1 σ Q, gFin Γ Wx Rl Rb g' fin σ Q, a0, _, g_rd (Rb := Rb) hs mono (SLk.mono l hS) it,
        ⟨rfl, Nat.zero_le _, g', h1, b0, .refl _, y.tabs hE hT, hb _, (by exact Rz.le l q)⟩, rfl, p.1, p.2, sl, g', fun _ _ _ _ => Iff.rfl, fun _ _ _ _ _ z => z, fun _ _ z => z⟩
  · subst ea
    exact hQ d m H2 s5 ws kp sl g O e1 e2 e3 e4 h1 h2 h3 G w
theorem e_any (T : HasTab Γ X "<genexpr>" k c P) (hN : X.N.Nodup) (hm : X.mg "any" = none) (ok : GenB X.N X.env.scope scope own) (hi : PI X tg iter (RDI Γ Wx src))
    (hg : ∀ (Ag : Around) (s : Shared) (H : Hp) (C : Addr) (code : Value) (fp : List Addr), Room k Ag → PG (gnCx X Ag s H (gnEnv X scope C code) fp) tg (RDG Γ is tgx))
    (ht : ∀ (Ag : Around) (s : Shared) (H : Hp) (C : Addr) (code : Value) (fp : List Addr), Room k Ag → PTs (gnCx X Ag s H (gnEnv X scope C code) fp) ifs (RDT Γ W0 tt))
    (he : ∀ (Ag : Around) (s : Shared) (H : Hp) (C : Addr) (code : Value) (fp : List Addr), Room k Ag → PE (gnCx X Ag s H (gnEnv X scope C code) fp) elt (RDE Γ W0 te))
    (hs : ∀ j ∈ is, j ∈ own.map (·.2) := by decide) (hl : Gl X "any" := by rfl) (hf : ∀ v, genFold iter X.env v = pure v := by intro _; rfl)
    (hse : starEach [.GeneratorExp elt [⟨tg, iter, ifs, 0⟩] scope gpos] X.env = (false, eval (.GeneratorExp elt [⟨tg, iter, ifs, 0⟩] scope gpos) X.env) :: starEach [] X.env := by rfl) :
    PE X (.Call (.Name "any" p) [.GeneratorExp elt [⟨tg, iter, ifs, 0⟩] scope gpos] [] pos) (RDE Γ Wx (eAny (own.map (·.2)) src tgx tt te)) := by
  refine ⟨fun pins s σ H Q I h => ?_⟩
  refine wpAny_Call_Name_kw (ld_blt I hl hm PyProof.Rows.boot_any ?_)
  refine PyProof.Rows.callWith_builtin1 ?_ hse (by rfl)
  rw [hse]
  show wpAny _ _ (spliced ((false, eval (.GeneratorExp elt [⟨tg, iter, ifs, 0⟩] scope gpos) X.env) :: backTo pos (starEach [] X.env))) _ _ s
  refine Calls.spliced_cons (gen_rd (Rb := fun _ (_ : Unit) (_ : Unit) => True) () T hN ok hi hg ht he hs (fun _ _ _ _ _ _ => trivial) (fun _ => trivial) hf I h fun d m H2 s5 ws kp sl g O e1 e2 e3 e4 hW hY hF G w => ?_)
  refine Calls.spliced_nil ?_
  subst e1; subst e2; subst e3
  refine call_anyG O e4 G w (fun acc H f => ?_) fun acc y i m H yl => ?_
  · obtain ⟨g', h', b, l, yH, _, q⟩ := hF _ _ f
    exact q g' _ H l yH (mbl _)
  · obtain ⟨em, hi', g', h', b, w', l, yH, _, rw', q⟩ := hY _ _ _ _ _ yl
    unfold gNext at q
    cases w' with
    | bl bb =>
      obtain rfl := rbl rw'
      refine ⟨bb, rfl, fun e => ?_, fun e => ?_⟩
      · subst e
        exact q g' _ H l yH (mbl _)
      · subst e
        exact ⟨(), m, Nat.le_refl _, (hW _ _ _ _).mpr ⟨em, hi', g', h', (), l, yH, trivial, q⟩⟩
    | _ => exact q.elim
end
end Pk
end

/-! PkT -/
section
set_option Elab.async false
set_option linter.all false
set_option maxRecDepth 100000
set_option maxHeartbeats 4000000
namespace Pk
open PySem PySem.Spec L2
section
variable {Γ : Γ} {Wx : WX} {X : Cx} {c P : Addr} {elt tg iter : Expr} {ifs : List Expr} {gpos p pos : Pos} {scope : Scope} {own : List (Str × Nat)} {is : List Nat} {k : Nat} {src : Ix} {tgx : Gx} {tt : Tx} {te : Ex}
theorem e_all (T : HasTab Γ X "<genexpr>" k c P) (hN : X.N.Nodup) (hm : X.mg "all" = none) (ok : GenB X.N X.env.scope scope own) (hi : PI X tg iter (RDI Γ Wx src))
    (hg : ∀ (Ag : Around) (s : Shared) (H : Hp) (C : Addr) (code : Value) (fp : List Addr), Room k Ag → PG (gnCx X Ag s H (gnEnv X scope C code) fp) tg (RDG Γ is tgx))
    (ht : ∀ (Ag : Around) (s : Shared) (H : Hp) (C : Addr) (code : Value) (fp : List Addr), Room k Ag → PTs (gnCx X Ag s H (gnEnv X scope C code) fp) ifs (RDT Γ W0 tt))
    (he : ∀ (Ag : Around) (s : Shared) (H : Hp) (C : Addr) (code : Value) (fp : List Addr), Room k Ag → PE (gnCx X Ag s H (gnEnv X scope C code) fp) elt (RDE Γ W0 te))
    (hs : ∀ j ∈ is, j ∈ own.map (·.2) := by decide) (hl : Gl X "all" := by rfl) (hf : ∀ v, genFold iter X.env v = pure v := by intro _; rfl)
    (hse : starEach [.GeneratorExp elt [⟨tg, iter, ifs, 0⟩] scope gpos] X.env = (false, eval (.GeneratorExp elt [⟨tg, iter, ifs, 0⟩] scope gpos) X.env) :: starEach [] X.env := by rfl) :
    PE X (.Call (.Name "all" p) [.GeneratorExp elt [⟨tg, iter, ifs, 0⟩] scope gpos] [] pos) (RDE Γ Wx (eAll (own.map (·.2)) src tgx tt te)) := by
  refine ⟨fun pins s σ H Q I h => ?_⟩
  refine wpAny_Call_Name_kw (ld_blt I hl hm PyProof.Rows.boot_all ?_)
  refine PyProof.Rows.callWith_builtin1 ?_ hse (by rfl)
  rw [hse]
  show wpAny _ _ (spliced ((false, eval (.GeneratorExp elt [⟨tg, iter, ifs, 0⟩] scope gpos) X.env) :: backTo pos (starEach [] X.env))) _ _ s
  refine Calls.spliced_cons (gen_rd (Rb := fun _ (_ : Unit) (_ : Unit) => True) () T hN ok hi hg ht he hs (fun _ _ _ _ _ _ => trivial) (fun _ => trivial) hf I h fun d m H2 s5 ws kp sl g O e1 e2 e3 e4 hW hY hF G w => ?_)
  refine Calls.spliced_nil ?_
  subst e1; subst e2; subst e3
  refine call_allG O e4 G w (fun acc H f => ?_) fun acc y i m H yl => ?_
  · obtain ⟨g', h', b, l, yH, _, q⟩ := hF _ _ f
    exact q g' _ H l yH (mbl _)
  · obtain ⟨em, hi', g', h', b, w', l, yH, _, rw', q⟩ := hY _ _ _ _ _ yl
    unfold gNext at q
    cases w' with
    | bl bb =>
      obtain rfl := rbl rw'
      refine ⟨bb, rfl, fun e => ?_, fun e => ?_⟩
      · subst e
        exact q g' _ H l yH (mbl _)
      · subst e
        exact ⟨(), m, Nat.le_refl _, (hW _ _ _ _).mpr ⟨em, hi', g', h', (), l, yH, trivial, q⟩⟩
    | _ => exact q.elim
theorem e_sumG (T : HasTab Γ X "<genexpr>" k c P) (hN : X.N.Nodup) (hm : X.mg "sum" = none) (ok : GenB X.N X.env.scope scope own) (hi : PI X tg iter (RDI Γ Wx src))
    (hg : ∀ (Ag : Around) (s : Shared) (H : Hp) (C : Addr) (code : Value) (fp : List Addr), Room k Ag → PG (gnCx X Ag s H (gnEnv X scope C code) fp) tg (RDG Γ is tgx))
    (ht : ∀ (Ag : Around) (s : Shared) (H : Hp) (C : Addr) (code : Value) (fp : List Addr), Room k Ag → PTs (gnCx X Ag s H (gnEnv X scope C code) fp) ifs (RDT Γ W0 tt))
    (he : ∀ (Ag : Around) (s : Shared) (H : Hp) (C : Addr) (code : Value) (fp : List Addr), Room k Ag → PE (gnCx X Ag s H (gnEnv X scope C code) fp) elt (RDE Γ W0 te))
    (hs : ∀ j ∈ is, j ∈ own.map (·.2) := by decide) (hl : Gl X "sum" := by rfl) (hf : ∀ v, genFold iter X.env v = pure v := by intro _; rfl)
    (hse : starEach [.GeneratorExp elt [⟨tg, iter, ifs, 0⟩] scope gpos] X.env = (false, eval (.GeneratorExp elt [⟨tg, iter, ifs, 0⟩] scope gpos) X.env) :: starEach [] X.env := by rfl) :
    PE X (.Call (.Name "sum" p) [.GeneratorExp elt [⟨tg, iter, ifs, 0⟩] scope gpos] [] pos) (RDE Γ Wx (eSumG (own.map (·.2)) src tgx tt te)) := by
  refine ⟨fun pins s σ H Q I h => ?_⟩
  refine wpAny_Call_Name_kw (ld_blt I hl hm PyProof.Rows.boot_sum ?_)
  refine PyProof.Rows.callWith_builtin1 ?_ hse (by rfl)
  rw [hse]
  show wpAny _ _ (spliced ((false, eval (.GeneratorExp elt [⟨tg, iter, ifs, 0⟩] scope gpos) X.env) :: backTo pos (starEach [] X.env))) _ _ s
  refine Calls.spliced_cons (gen_rd (Rb := fun _ (a : Int) (b : Int) => a = b) (0 : Int) T hN ok hi hg ht he hs (fun _ _ _ _ _ z => z) (fun _ => rfl) hf I h fun d m H2 s5 ws kp sl g O e1 e2 e3 e4 hW hY hF G w => ?_)
  refine Calls.spliced_nil ?_
  subst e1; subst e2; subst e3
  refine call_sumG O e4 G w (fun acc H f => ?_) fun acc y i m H yl => ?_
  · obtain ⟨g', h', b, l, yH, rfl, q⟩ := hF _ _ f
    exact q g' _ H l yH (mint _)
  · obtain ⟨em, hi', g', h', b, w', l, yH, rfl, rw', q⟩ := hY _ _ _ _ _ yl
    unfold gNext at q
    cases w' with
    | int kk =>
      obtain rfl := rint rw'
      by_cases hc : (inL kk && inL (b + kk)) = true
      · rw [stSum_yes hc] at q
        unfold inL at hc
        simp only [Bool.and_eq_true, decide_eq_true_eq] at hc
        exact ⟨kk, rfl, hc.1, hc.2, m, Nat.le_refl _, (hW _ _ _ _).mpr ⟨em, hi', g', h', _, l, yH, rfl, q⟩⟩
      · rw [stSum_no hc] at q
        exact q.elim
    | _ => exact q.elim
theorem e_tupG (T : HasTab Γ X "<genexpr>" k c P) (hN : X.N.Nodup) (hm : X.mg "tuple" = none) (ok : GenB X.N X.env.scope scope own) (hi : PI X tg iter (RDI Γ Wx src))
    (hg : ∀ (Ag : Around) (s : Shared) (H : Hp) (C : Addr) (code : Value) (fp : List Addr), Room k Ag → PG (gnCx X Ag s H (gnEnv X scope C code) fp) tg (RDG Γ is tgx))
    (ht : ∀ (Ag : Around) (s : Shared) (H : Hp) (C : Addr) (code : Value) (fp : List Addr), Room k Ag → PTs (gnCx X Ag s H (gnEnv X scope C code) fp) ifs (RDT Γ W0 tt))
    (he : ∀ (Ag : Around) (s : Shared) (H : Hp) (C : Addr) (code : Value) (fp : List Addr), Room k Ag → PE (gnCx X Ag s H (gnEnv X scope C code) fp) elt (RDE Γ W0 te))
    (hs : ∀ j ∈ is, j ∈ own.map (·.2) := by decide) (hl : Gl X "tuple" := by rfl) (hf : ∀ v, genFold iter X.env v = pure v := by intro _; rfl)
    (hse : starEach [.GeneratorExp elt [⟨tg, iter, ifs, 0⟩] scope gpos] X.env = (false, eval (.GeneratorExp elt [⟨tg, iter, ifs, 0⟩] scope gpos) X.env) :: starEach [] X.env := by rfl) :
    PE X (.Call (.Name "tuple" p) [.GeneratorExp elt [⟨tg, iter, ifs, 0⟩] scope gpos] [] pos) (RDE Γ Wx (eTupG (own.map (·.2)) src tgx tt te)) := by
  refine ⟨fun pins s σ H Q I h => ?_⟩
  refine wpAny_Call_Name_kw (ld_blt I hl hm PyProof.Rows.boot_tuple ?_)
  refine PyProof.Rows.callWith_type1 ?_ hse (by rfl)
  rw [hse]
  show wpAny _ _ (spliced ((false, eval (.GeneratorExp elt [⟨tg, iter, ifs, 0⟩] scope gpos) X.env) :: backTo pos (starEach [] X.env))) _ _ s
  refine Calls.spliced_cons (gen_rd (Rb := fun g a b => RWs Γ.K g a b) ([] : List V) T hN ok hi hg ht he hs (fun _ _ _ _ l z => RWs.mono l _ _ z) (fun _ => .nil) hf I h fun d m H2 s5 ws kp sl g O e1 e2 e3 e4 hW hY hF G w => ?_)
  refine Calls.spliced_nil ?_
  subst e1; subst e2; subst e3
  refine call_tupleG O e4 G w (fun acc H f T hT => ?_) fun acc y i m H yl => ?_
  · obtain ⟨g', h', b, l, yH, rb, q⟩ := hF _ _ f
    exact mkT_ok (Wx := Wx) (σ := d.σ) yH hT rb (Rz.le l q)
  · obtain ⟨em, hi', g', h', b, w', l, yH, rb, rw', q⟩ := hY _ _ _ _ _ yl
    unfold gNext at q
    by_cases hc : b.length < sizeLine
    · rw [stTup_yes hc] at q
      exact ⟨by rw [← rb.len]; exact hc, m, Nat.le_refl _, (hW _ _ _ _).mpr ⟨em, hi', g', h', _, l, yH, rb.app (.cons rw' .nil), q⟩⟩
    · rw [stTup_no hc] at q
      exact q.elim
end
end Pk
end

/-! PkU -/
section
set_option Elab.async false
set_option linter.all false
set_option maxRecDepth 100000
set_option maxHeartbeats 4000000
namespace Pk
open PySem PySem.Spec L2
/-! _law_told(lambda: e) -/
def told (excs : List Nat) (ret : Str) (r : R W) : R W := match r with
  | .ok w h => .ok w h
  | .exc c h => if excs.contains c then .ok (.str ret) h else .no
  | .no => .no
def eTold (excs : List Nat) (ret : Str) (te : Ex) : Ex := fun sl h => told excs ret (te sl h)
theorem told_rd {Γ : Γ} {Wx : WX} {g : G} {K : PySem.W.Frag} {CS : Addr} {excs : List Nat} {ret : Str} {r : R W} {σ : L2.St} {Q : VK} (hx : ∀ c ∈ excs, PySem.W.exmOne K (.ref (Γ.cls c)) (.ref CS) = some true) (q : Rz Γ Wx (RW Γ.K) g (told excs ret r) σ Q) :
    Rz Γ (fun cls _ _ H' => ∃ b, PySem.W.exmOne K cls (.ref CS) = some b ∧ (b = true → Q (.str ret) H') ∧ (b = false → False)) (RW Γ.K) g r σ Q := by
  cases r with
  | ok w h => exact q
  | no => exact q
  | exc c h =>
    unfold told at q
    by_cases hc : excs.contains c = true
    · have q : Rz Γ Wx (RW Γ.K) g (if excs.contains c then .ok (.str ret) h else .no) σ Q := q
      rw [if_pos hc] at q
      exact fun g' H' l y => ⟨true, hx c (List.contains_iff_mem.mp hc), fun _ => q g' _ H' l y (mstr _), fun z => by cases z⟩
    · have q : Rz Γ Wx (RW Γ.K) g (if excs.contains c then .ok (.str ret) h else .no) σ Q := q
      rw [if_neg hc] at q
      exact q.elim
section
variable {Γ : Γ} {Wx : WX} {X : Cx} {c P g CS : Addr} {k : Nat} {x a e ret : Str} {pg : Arguments} {sg : Scope} {dV kV doc pm cdv ct oc : Value} {an od : Option Addr} {osl : Array (Option Value)} {Ng : List Str}
    {params : Arguments} {body : Expr} {scope : Scope} {te : Ex} {p lpos pos : Pos} {j : Nat} {p1 p2 p3 p4 p5 p6 p7 p8 : Pos} {excs : List Nat}
theorem e_told (T : HasTab Γ X "<lambda>" (k + 1) c P) (hg : Gl X x) (hm : X.mg x = some (.ref g)) (hk : PySem.W.keepIn X.K (.ref g) = true)
    (lk : X.K.lookup g = some ⟨oc, od, .func (PySem.W.fnOf x x pg [.Try [.Return (some (.Call (.Name a p1) [] [] p2)) p3] [.ExceptHandler (some (.Name e p4)) none [.Return (some (.Constant (.str ret) j p5)) p6] p7] [] [] p8] sg dV kV doc pm an cdv ct), osl⟩)
    (hcg : PySem.W.codeIn X.K cdv x = true) (hb : L2.Binds X.K (PySem.W.fnOf x x pg [.Try [.Return (some (.Call (.Name a p1) [] [] p2)) p3] [.ExceptHandler (some (.Name e p4)) none [.Return (some (.Constant (.str ret) j p5)) p6] p7] [] [] p8] sg dV kV doc pm an cdv ct) [a] []) (Sg : FnScope Ng [a] sg) (hNg : Ng[0]? = some a) (hva : Vis sg a)
    (hge : sg.names.lookup e = some .globalImplicit) (hme : X.mg e = some (.ref CS)) (hde : (e == ("__debug__" : Str)) = false) (h0 : ∀ f : Addr, (L2.start Ng [V.ref f])[0]? = some (some (V.ref f)))
    (hx : ∀ c ∈ excs, PySem.W.exmOne X.K (.ref (Γ.cls c)) (.ref CS) = some true)
    (L : LamX.LamS X.env.scope scope) (hdef : defaultsOf params X.env = ([], [])) (hbind : ∀ (q : Str) (cl : List (Str × Addr)) (pm cv ctv : Value), bindArgs (PySem.W.kla_fn "<lambda>" q params body scope cl pm cv ctv) ⟨[], []⟩ = pure [])
    (hbody : ∀ (A : Around) (outer : List Env) (s : Shared) (H : Hp) (E : XK) (f c' : Addr), Room k (A.deeper (LamX.lamEnv X scope s.heap.objs.size f c')) → Takes (LamX.lamCx X A outer s H E scope f c') (fun c d _ H' => E c d H') → PE (LamX.lamCx X A outer s H E scope f c') body (RDE Γ (fun c d _ H' => E c d H') te))
    (hdb : (x == ("__debug__" : Str)) = false := by decide) (hd : (a == ("__debug__" : Str)) = false := by decide) (hcd : (a == ("__classdict__" : Str)) = false := by decide) :
    PE X (.Call (.Name x p) [.Lambda params body scope lpos] [] pos) (RDE Γ Wx (eTold excs ret te)) := by
  refine PE.imp (LamX.pe_lamcall (T := Γ.tabs) (t := fun E => RDE Γ (fun c d _ H' => E c d H') te) (TT := LamX.TTold X.K CS ret) hg hm hk lk hcg hb Sg hNg hva (LamX.told_gives hge hme hde h0) T.tb T.code T.mem T.uni T.room L hdef hbind
    (fun A outer s H E f c' hr => hbody A outer s H E f c' hr (takes_of rfl rfl rfl rfl)) hdb hd hcd) fun σ H Q ⟨g, sl, h, hH, hS, q⟩ => ?_
  refine ⟨hH.tab, fun H1 hE hT => ⟨g, sl, h, hH.tabs hE hT, hS, told_rd hx q⟩⟩
end
end Pk
end

/-! PkV -/
section
set_option Elab.async false
set_option linter.all false
set_option maxRecDepth 100000
set_option maxHeartbeats 4000000
namespace Pk
open PySem PySem.Spec L2
/-! a list comprehension whose tests know the def's own state too -/
section
variable {X : Cx}
theorem lc_coreI {pins : List (Addr × Obj)} {s : Shared} {σ : L2.St} {H : Hp} {Q : VK} {elt tg iter : Expr} {ifs : List Expr} {scope : Scope} {own : List (Str × Nat)} {pos pos' : Pos} {wi : TI} {g : TG} {tt : TT} {te : TE} {use : Option (Value → Sem Unit)} {Qf : Value → Shared → Prop}
    (hc : X.calm = true) (hN : X.N.Nodup) (I : Inv X pins σ H s) (hi : PI X tg iter wi) (ok : BlkOk X.N X.env.scope scope own)
    (hg : ∀ (s : Shared) (H : Hp) (C : Addr) (cl : List (Str × Addr)) (fp : List Addr), PG (X.blk s H scope (compEnvC scope cl C X.env) fp) tg g) (ht : ∀ (s : Shared) (H : Hp) (C : Addr) (cl : List (Str × Addr)) (fp : List Addr), Inv X pins σ H s → (∀ b ∈ fp, FpOk X pins H b) → PTs (X.blk s H scope (compEnvC scope cl C X.env) fp) ifs tt)
    (he : ∀ (s : Shared) (H : Hp) (C : Addr) (cl : List (Str × Addr)) (fp : List Addr), PE (X.blk s H scope (compEnvC scope cl C X.env) fp) elt te) (hs : ∀ x, foldedSetIterable iter X.env x = pure x)
    (h : tLc wi g tt te (own.map (·.2)) σ H Q)
    (hRR : ∀ D C s' m H', Inv X pins σ H' s' → Q (.ref D) H' → s'.heap.Ns C m → FpOk X pins H' C → compPost (model X.prog X.w) X.A X.xe use Qf (.ref D) C (.ok .next) s') :
    wpAny (model X.prog X.w) X.A (comprehension (.ListComp elt [⟨tg, iter, ifs, 0⟩] scope pos) scope X.env pos' (newList []) false (eval iter X.env) use) Qf X.xe s := by
  have hfree : ∀ y ∈ scope.names, y.2 = .free → ∃ c, X.env.cells.lookup y.1 = some c := fun y hy e => by
    rcases ok.free y hy e with k | k
    · exact I.ok.has _ (.inl k)
    · exact I.ok.has _ (.inr k)
  refine wpAny_comprehension_free (use := use) rfl hs (closure_ok hfree) ok.kind (fun y hy e => by rw [ok.uniq y hy, e])
    (thn (hi.run pins s σ H _ I h) fun xv s1 hx => thn hx fun itv s2 h2 => ?_)
  obtain ⟨it, fp, tn, J, H2, e, I2, T, st2, f2, q⟩ := h2
  subst e
  refine wpAny_newObj_type (newEnv_comp ?_) (by show 0 ≤ sizeLine; decide)
  generalize hD : s2.heap.objs.size = D
  have hDn : H2 D = none := I2.hok.fresh (Nat.le_of_eq hD)
  obtain ⟨W, ⟨m0, w0⟩, turn⟩ := q D hDn
  -- the new list
  generalize hs3 : ({ s2 with heap := s2.heap.push { cls := .type "list", data := .seq ([] : List Value).toArray } } : Shared) = s3
  have I3 : Inv X pins σ (upd H2 D (.lst [])) s3 := by
    rw [← hs3]
    refine I2.laid (t' := s2.toks) (fun b o e => Heap.get?_push_of_some _ e) (Nat.le_of_eq hD) ⟨Nat.zero_le _, [], 0, .nil, ?_⟩
    rw [← hD]
    exact Heap.get?_push_size _ rfl
  have h3 : s3.heap = s2.heap.push { cls := .type "list", data := .seq ([] : List Value).toArray } := by rw [← hs3]
  have sz : ∀ b ∈ fp, b < s2.heap.objs.size := fun b hb => by
    obtain ⟨o, e, _⟩ := T.obj _ _ st2 b hb
    exact Heap.lt_size e
  have f3 : ∀ b ∈ fp, FpOk X pins (upd H2 D (.lst [])) b ∧ b < s3.heap.objs.size := fun b hb => by
    have hlt := sz b hb
    refine ⟨⟨?_, (f2 b hb).2⟩, by rw [h3, Heap.size_push]; exact Nat.lt_succ_of_lt hlt⟩
    rw [upd_ne (by rw [← hD]; exact Nat.ne_of_lt hlt)]
    exact (f2 b hb).1
  have st3 : tn 0 s3.heap := T.keep _ _ _ st2 fun b _ o e => by rw [h3]; exact Heap.get?_push_of_some _ e
  have I4 := block_start I3 ok hN f3
  have pg := hg s3 (upd H2 D (.lst [])) s3.heap.objs.size (cellsFrom (s3.heap.objs.size + 1) scope.names (cloFrom X.env.cells scope.names [])) fp
  have pt := ht s3 (upd H2 D (.lst [])) s3.heap.objs.size (cellsFrom (s3.heap.objs.size + 1) scope.names (cloFrom X.env.cells scope.names [])) fp I3 fun b hb => (f3 b hb).1
  have pe := he s3 (upd H2 D (.lst [])) s3.heap.objs.size (cellsFrom (s3.heap.objs.size + 1) scope.names (cloFrom X.env.cells scope.names [])) fp
  show codeAny _ _ (.compStart (.ListComp elt [⟨tg, iter, ifs, 0⟩] scope pos) 0 (.ref it) (.ref D) (compEnvC scope (cellsFrom (s3.heap.objs.size + 1) scope.names (cloFrom X.env.cells scope.names [])) s3.heap.objs.size X.env)) (compPost (model X.prog X.w) X.A X.xe use Qf (.ref D) s3.heap.objs.size) { s3 with heap := pushCells (s3.heap.push { cls := .type "dict", data := .dict #[] }) scope.names }
  have nfp : ∀ b ∈ fp, (upd H2 D (.lst [])) b = none := fun b hb => (f3 b hb).1.1
  generalize hce : compEnvC scope (cellsFrom (s3.heap.objs.size + 1) scope.names (cloFrom X.env.cells scope.names [])) s3.heap.objs.size X.env = ce at I4 pg pt pe ⊢
  have cL : ce.locals = s3.heap.objs.size := by subst hce; rfl
  generalize hH3 : upd H2 D (.lst []) = H3 at I3 I4 pg pt pe w0 nfp f3
  generalize hs4 : ({ s3 with heap := pushCells (s3.heap.push { cls := .type "dict", data := .dict #[] }) scope.names } : Shared) = s4 at I4 ⊢
  have st4 : tn 0 s4.heap := T.keep _ _ _ st3 fun b _ o e => by rw [← hs4]; exact pushCells_keeps _ _ _ _ (Heap.get?_push_of_some _ e)
  have stat : ∀ {σ' : L2.St} {H' : Hp} {s' : Shared}, Inv (X.blk s3 H3 scope ce fp) [] σ' H' s' → (∀ b ∈ fp, H' b = none) → ∀ b ∈ fp, FpOk (X.blk s3 H3 scope ce fp) [] H' b := fun {σ' H' s'} I' hn b hb =>
    ⟨hn b hb, (I'.ok.exf b hb).1, I'.ok.exfs b hb, .inl hb, fun x c e => (I'.ok.exf b hb).2 x c e, fun p hp => absurd (show p ∈ ([] : List (Addr × Obj)) ++ [] from hp) (by simp)⟩
  have loop : codeAny (model X.prog X.w) X.A (.compLoop (.ListComp elt [⟨tg, iter, ifs, 0⟩] scope pos) 0 (.ref it) (.ref D) ce) (compPost (model X.prog X.w) X.A X.xe use Qf (.ref D) s3.heap.objs.size) s4 := by
    refine compLoop_any (fun n s' => ∃ i H', Inv (X.blk s3 H3 scope ce fp) [] (wipe σ (own.map (·.2))) H' s' ∧ tn i s'.heap ∧ (∀ b ∈ fp, H' b = none) ∧ W i n H') ?_ m0 ⟨0, H3, I4, st4, nfp, w0⟩
    rintro n s5 ⟨i, H5, I5, st5, n5, w5⟩
    rcases turn i n H5 w5 with ⟨stop, qq⟩ | ⟨go, Nx, hNx, step⟩
    · have td := T.done (X.blk s3 H3 scope ce fp) rfl rfl rfl hc i [] s5 _ H5 (fun _ _ => False) I5 (stat I5 n5) st5 stop
      refine thnF td fun r s6 ⟨hr, I6⟩ => ?_
      subst hr
      -- back in the def's context
      have I7 : Inv X pins σ H5 s6 := I3.call' (ch := fp) I6.os I6.base I6.hok I6.bare fun b hb => ⟨(f3 b hb).1.2.2.2.1, (f3 b hb).1.2.1, (f3 b hb).1.2.2.2.2.1, (f3 b hb).1.2.2.2.2.2⟩
      have nC : H5 s3.heap.objs.size = none := by
        have z : H5 ce.locals = none := I6.free
        rw [cL] at z
        exact z
      obtain ⟨m, hn, _⟩ := I6.loc
      have hn : s6.heap.Ns ce.locals m := hn
      rw [cL] at hn
      exact hRR D s3.heap.objs.size s6 m H5 I7 qq hn (I3.fpOk (Nat.le_refl _) nC)
    · have ti := T.item (X.blk s3 H3 scope ce fp) rfl rfl rfl hc i [] s5 _ H5 (fun _ _ => False) I5 (stat I5 n5) st5 go
      refine thnF ti fun r s6 ⟨u, hr, h6⟩ => ?_
      subst hr
      refine thnF h6 fun _ s7 ⟨x, H7, I7, r7, y7, st7, n7⟩ => ?_
      have I7' := I7.pinned (stat I7 n7) (T.obj _ _ st7)
      refine thnF (pg.run _ s7 _ H7 x u _ I7' r7 (step x H7 y7)) fun _ s8 ⟨σ8, H8, I8, hw8, q8⟩ => ?_
      refine thnF (pt.run _ s8 σ8 H8 _ I8 q8) fun b s9 ⟨H9, I9, q9⟩ => ?_
      -- the turn's end
      have fin : ∀ {s' : Shared} {H' : Hp}, Inv (X.blk s3 H3 scope ce fp) ([] ++ pinsAt fp s7.heap) σ8 H' s' → Nx H' → ∃ m, m < n ∧ ∃ i H', Inv (X.blk s3 H3 scope ce fp) [] (wipe σ (own.map (·.2))) H' s' ∧ tn i s'.heap ∧ (∀ b ∈ fp, H' b = none) ∧ W i m H' := fun {s' H'} I' nx => by
        obtain ⟨m', hm, w'⟩ := hNx H' nx
        have pin' : ∀ b ∈ fp, ∀ o, s7.heap.get? b = some o → s'.heap.get? b = some o ∧ H' b = none := fun b hb o e =>
          let z := I'.pin (b, o) (List.mem_append_right _ (List.mem_append_right _ (mem_pinsAt hb e)))
          ⟨z.1, z.2.1⟩
        have hl : (wipe σ (own.map (·.2))).length = σ8.length := by rw [← hw8, wipe_length]
        refine ⟨m', hm, i + 1, H', (I'.unpinned (pins := [])).weak hl (fun j v e => ?_), T.keep _ _ _ st7 fun b hb o e => (pin' b hb o e).1, fun b hb => ?_, w'⟩
        · rw [← hw8] at e
          exact (wipe_some e).1
        · obtain ⟨o, e, _⟩ := T.obj _ _ st7 b hb
          exact (pin' b hb o e).2
      cases b with
      | false =>
        simp only [Bool.false_eq_true, if_false] at q9 ⊢
        exact fin I9 q9
      | true =>
        simp only [if_true] at q9 ⊢
        refine thnF (pe.run _ s9 σ8 H9 _ I9 q9) fun z s10 ⟨yv, H10, I10, r10, acc, hD10, hz10, nx⟩ => ?_
        exact app_ok (X := X.blk s3 H3 scope ce fp) I10 hD10 hz10 r10 fun s11 I11 => fin I11 nx
  exact codeAny_compStart_list loop (T.self X.A 0 _ _ _ st4 loop)
theorem pe_lcI {elt tg iter : Expr} {ifs : List Expr} {scope : Scope} {own : List (Str × Nat)} {pos : Pos} {wi : TI} {g : TG} {tt : TT} {te : TE} (hc : X.calm = true) (hN : X.N.Nodup) (hi : PI X tg iter wi) (ok : BlkOk X.N X.env.scope scope own)
    (hg : ∀ (s : Shared) (H : Hp) (C : Addr) (cl : List (Str × Addr)) (fp : List Addr), PG (X.blk s H scope (compEnvC scope cl C X.env) fp) tg g) (ht : ∀ (pins : List (Addr × Obj)) (σ : L2.St) (s : Shared) (H : Hp) (C : Addr) (cl : List (Str × Addr)) (fp : List Addr), Inv X pins σ H s → (∀ b ∈ fp, FpOk X pins H b) → PTs (X.blk s H scope (compEnvC scope cl C X.env) fp) ifs tt)
    (he : ∀ (s : Shared) (H : Hp) (C : Addr) (cl : List (Str × Addr)) (fp : List Addr), PE (X.blk s H scope (compEnvC scope cl C X.env) fp) elt te) (hs : ∀ x, foldedSetIterable iter X.env x = pure x := by intro _; rfl) :
    PE X (.ListComp elt [⟨tg, iter, ifs, 0⟩] scope pos) (tLc wi g tt te (own.map (·.2))) := by
  refine ⟨fun pins s σ H Q I h => ?_⟩
  rw [eval_ListComp]
  refine lc_coreI hc hN I hi ok hg (ht pins σ) he hs h fun D C s' m H' I' q hn f => ⟨m, hn, fun h'' sb => ?_⟩
  obtain ⟨f0, f1, f2, f3, f4, f5⟩ := f
  exact ⟨.ref D, H', I'.turned (t' := s'.toks) (fun b o hb e => (sb.2 b hb).trans e) f0 f1 f3 f4 f5, rfl, q⟩
end
end Pk
end

/-! PkW -/
section
set_option Elab.async false
set_option linter.all false
set_option maxRecDepth 100000
set_option maxHeartbeats 4000000
namespace Pk
open PySem PySem.Spec PyProof.Rows L2 LamX
/-! lambdas kept in a list -/
/-- the function object of a lambda at f, its code object at c' -/
def LamO (f c' : Addr) (q : Str) (params : Arguments) (body : Expr) (scope : Scope) (cl : List (Str × Addr)) : HO := .ext fun h => ∃ pm ctv, h.get? f = some (PySem.W.kla_obj "<lambda>" q params body scope cl pm c' ctv)
section
variable {X : Cx} {pins : List (Addr × Obj)} {σ : L2.St} {H HZ : Hp} {s s1 : Shared}
theorem lamO_ok {P : Program} {w : World} {H : Hp} {h : Heap} {f c' : Addr} {q : Str} {params : Arguments} {body : Expr} {scope : Scope} {cl : List (Str × Addr)} {pm ctv : Value} (e : h.get? f = some (PySem.W.kla_obj "<lambda>" q params body scope cl pm c' ctv)) :
    ObjOk P w H h f (LamO f c' q params body scope cl) := ⟨⟨pm, ctv, e⟩, ⟨_, e⟩, fun h1 h2 ⟨pm, ctv, a⟩ k => ⟨pm, ctv, k _ a⟩⟩
theorem lam_makeT {T : List (Addr × Str)} {c P : Addr} {params : Arguments} {body : Expr} {scope : Scope} {pos : Pos} {E : Value → Shared → Prop} {Q : Value → Shared → Prop} (I : Inv X pins σ H s) (TB : TabB X.base X.mg c P) (hcode : X.env.code = .ref c)
    (hm : (P, X.env.qual ++ "<lambda>") ∈ T) (hu : ∀ p ∈ T, p.1 = P → p.2 = X.env.qual ++ "<lambda>") (hT : Tabs T H) (hdef : defaultsOf params X.env = ([], [])) (hfree : ∀ y ∈ scope.names, y.2 = .free → ∃ c, X.env.cells.lookup y.1 = some c)
    (h : ∀ (f c' : Addr) (H1 : Hp) (s' : Shared), ExtN H H1 → Tabs T H1 → H1 f = none → H1 c' = some (CodeO c' (X.env.qual ++ "<lambda>")) → Inv X pins σ (upd H1 f (LamO f c' (X.env.qual ++ "<lambda>") params body scope (cloFrom X.env.cells scope.names []))) s' → Q (.ref f) s') :
    wpAny (model X.prog X.w) X.A (eval (.Lambda params body scope pos) X.env) Q E s := by
  obtain ⟨ps, hP, ht, ha⟩ := hT _ hm
  refine PySem.W.kla_eval hdef ?_
  have bP : s.heap.BuiltinsAt X.mg P := TB.bm.keeps I.bk
  have hP' : s.heap.get? P = some { cls := .none, data := .fields ps } := I.hok P _ hP
  cases hc : codeAmong pos ps.toList with
  | none =>
    refine PySem.W.kla_makeFunction (mg := X.mg) (c := c) (P := P) (ps := ps) (closure_ok hfree) I.ok.glob (I.mod.glob.keeps I.bk) hcode (TB.code.keeps I.bk) hP' ht hc TB.gP bP fun c' ctv h' tk hx hge hlt hrec htb => ?_
    obtain ⟨c2, oc, vs, t, e2, hoc, hd, hv⟩ := hrec
    cases e2
    have hsz : s.heap.objs.size ≤ h'.objs.size := Nat.le_trans hge (Nat.le_of_lt hlt)
    have nC : H c' = none := I.hok.fresh hge
    have I0 := inv_table (t' := tk) (more := #[rawInt pos.line, rawInt pos.col, .ref c']) (h' := h') I hP
      (fun b o hb e => hx b o hb e) htb hge ⟨oc, vs, t, hoc, hd, hv⟩
    have I1 := I0.laid (a := h'.objs.size) (o := LamO h'.objs.size c' (X.env.qual ++ "<lambda>") params body scope (cloFrom X.env.cells scope.names [])) (t' := tk) (h' := h'.push (PySem.W.kla_obj "<lambda>" (X.env.qual ++ "<lambda>") params body scope (cloFrom X.env.cells scope.names []) ((X.mg "__name__").getD .none) c' ctv))
      (fun b o e => Heap.get?_push_of_some _ e) (Nat.le_refl _) (lamO_ok (Heap.get?_push_size _ rfl))
    have hE : ExtN H (upd (upd H P (.tbl (ps ++ #[rawInt pos.line, rawInt pos.col, .ref c']))) c' (CodeO c' (X.env.qual ++ "<lambda>"))) := fun b o e n => by
      rw [upd_ne (ne_of_none e nC), upd_ne (fun z => n ps (Option.some.inj (e.symm.trans (by rw [z]; exact hP))))]
      exact e
    have eL : (ps ++ #[rawInt pos.line, rawInt pos.col, .ref c']).toList = ps.toList ++ [rawInt pos.line, rawInt pos.col, .ref c'] := by simp
    refine h h'.objs.size c' _ _ hE (fun p hp => ?_) ?_ upd_same I1
    · by_cases hb : p.1 = P
      · rw [hu p hp hb, hb]
        refine ⟨_, by rw [upd_ne (ne_of_none hP nC), upd_same], by rw [eL]; exact PySem.TriplesOk_snoc _ _ _ _ ht, fun p' cv hcv => ?_⟩
        rw [eL] at hcv
        rcases among_app _ ht hcv with z | z
        · obtain ⟨c0, e1, e2⟩ := ha p' cv z
          exact ⟨c0, e1, hE _ _ e2 codeO_ne⟩
        · exact ⟨c', z, upd_same⟩
      · obtain ⟨ps', a1, a2, a3⟩ := hT p hp
        refine ⟨ps', by rw [upd_ne (ne_of_none a1 nC), upd_ne hb]; exact a1, a2, fun p' cv hcv => ?_⟩
        obtain ⟨c0, e1, e2⟩ := a3 p' cv hcv
        exact ⟨c0, e1, hE _ _ e2 codeO_ne⟩
    · have n1 : h'.objs.size ≠ c' := Nat.ne_of_gt hlt
      have n2 : h'.objs.size ≠ P := Nat.ne_of_gt (Nat.lt_of_lt_of_le (Heap.lt_size hP') hsz)
      rw [upd_ne n1, upd_ne n2]
      exact I.hok.fresh hsz
  | some cv =>
    obtain ⟨c', e, hco⟩ := ha pos cv hc
    subst e
    refine PySem.W.kla_makeFunctionHit (mg := X.mg) (c := c) (P := P) (ps := ps) (closure_ok hfree) I.ok.glob (I.mod.glob.keeps I.bk) hcode (TB.code.keeps I.bk) hP' ht hc bP fun ctv h' tk hx hsz => ?_
    have I0 : Inv X pins σ H { s with heap := h', toks := tk } := I.kept hx
    have I1 := I0.laid (a := h'.objs.size) (o := LamO h'.objs.size c' (X.env.qual ++ "<lambda>") params body scope (cloFrom X.env.cells scope.names [])) (t' := tk) (h' := h'.push (PySem.W.kla_obj "<lambda>" (X.env.qual ++ "<lambda>") params body scope (cloFrom X.env.cells scope.names []) ((X.mg "__name__").getD .none) c' ctv))
      (fun b o e => Heap.get?_push_of_some _ e) (Nat.le_refl _) (lamO_ok (Heap.get?_push_size _ rfl))
    exact h h'.objs.size c' H _ (ExtN.refl H) hT (I.hok.fresh hsz) hco I1
theorem pe_actT {CXg : CXT} {Eg : XK} {Ng : List Str} {qg : Str} {sg : Scope} {g f c' : Addr} {cdg : Value} {params : Arguments} {body : Expr} {scope : Scope} {k i : Nat} {a : Str} {pn : List (Addr × Obj)} {xe : Value → Shared → Prop} {W : WX} {E : XK} {tb : TE} {p1 p2 : Pos}
    (I : Inv X pins σ H s) (L : LamS X.env.scope scope) 
    (hbind : ∀ (q : Str) (cl : List (Str × Addr)) (pm cv ctv : Value), bindArgs (PySem.W.kla_fn "<lambda>" q params body scope cl pm cv ctv) ⟨[], []⟩ = pure [])
    (tk : Takes ((cxOf CXg X.prog X.w X.K X.mg X.base Ng qg sg g cdg X.A X.stack s H Eg).tr pn xe) W) (hW : ∀ cls d σ' H', E cls d H' → W cls d σ' H') (hr : Room (k + 1) (X.A.deeper (envOfC qg sg s.heap.objs.size g cdg)))
    (hbody : ∀ (A : Around) (outer : List Env) (s : Shared) (H : Hp), Room k (A.deeper (lamEnv X scope s.heap.objs.size f c')) → PE (lamCx X A outer s H E scope f c') body tb)
    (hN : Ng[i]? = some a) (hv : Vis sg a) (hd : (a == ("__debug__" : Str)) = false := by decide) (hcd : (a == ("__classdict__" : Str)) = false := by decide) :
    PE ((cxOf CXg X.prog X.w X.K X.mg X.base Ng qg sg g cdg X.A X.stack s H Eg).tr pn xe) (.Call (.Name a p1) [] [] p2)
      (fun σZ HZ Q => σZ[i]? = some (some (.ref f)) ∧ HZ f = some (LamO f c' (X.env.qual ++ "<lambda>") params body scope (cloFrom X.env.cells scope.names [])) ∧ HZ c' = some (CodeO c' (X.env.qual ++ "<lambda>")) ∧ tb σ HZ Q) := by
  refine ⟨fun pinsZ sZ σZ HZ Q IZ h => ?_⟩
  obtain ⟨hs, hf, hc, ht⟩ := h
  refine wpAny_Call_Name_kw (thn ((pe_var (pos := p1) (i := i) hN hv hd hcd).run pinsZ sZ σZ HZ (fun v H1 => v = .ref f ∧ H1 = HZ) IZ ⟨.ref f, hs, rfl, rfl⟩) fun u s1 ⟨v, H1, I1, r1, q1⟩ => ?_)
  obtain ⟨ev, eH⟩ := q1
  subst ev
  rw [eH] at I1
  obtain rfl : u = Value.ref f := r1
  obtain ⟨⟨pm, ctv, of1⟩, _, _⟩ := I1.hok f _ hf
  refine PySem.W.callWith_F0 ⟨_, _, _, _, of1⟩ ?_
  have un : Un (frs X.stack) [] H HZ s.heap s1.heap := I1.base
  obtain ⟨⟨oc, vs, t, hoc, hdc, hvc⟩, _, _⟩ := I1.hok c' _ hc
  have rc : codeAny (model X.prog X.w) (X.A.deeper (envOfC qg sg s.heap.objs.size g cdg)) (.call (.ref f) ⟨[], []⟩) (CR (L2.CX X.prog X.w) (envOfC qg sg s.heap.objs.size g cdg :: X.stack) X.prog X.w HZ s1 Q E) s1 := by
    refine PySem.W.kla_callFunE hr.depth of1 rfl L.co L.gen rfl ⟨c', oc, vs, t, rfl, hoc, hdc, hvc⟩ ?_
    rw [hbind _ _ _ _ _]
    refine wpAny_pure (wpAny_newFunctionEnv (fun y hy => (L.own y hy).2) (fun y hy => absurd hy (by simp)) (fun h₁ hns hsb => ⟨I1.nolimit.fresh _ hsb, ?_⟩) L.kind)
    show codeAny _ _ (.expr body (lamEnv X scope s1.heap.objs.size f c')) _ _
    have kp : ∀ b o, s1.heap.get? b = some o → h₁.get? b = some o := fun b o e => hsb.extBut b o (Nat.ne_of_lt (Heap.lt_size e)) (Heap.get?_push_of_some _ e)
    have J : Inv (lamCx X (X.A.deeper (envOfC qg sg s.heap.objs.size g cdg)) (envOfC qg sg s.heap.objs.size g cdg :: X.stack) s1 HZ E scope f c') [] σ HZ { s1 with heap := h₁, toks := s1.toks + ([] : List (Str × Value)).length } :=
      lam_start2 I L I1.env0 hr.hd un hns kp
    refine PySem.W.kla_codeExpr (wpAny_mono ((hbody _ _ s1 HZ (hr.deeper _)).run [] _ _ HZ Q J ht) (fun v s' hq => ?_) fun e s' hq => hq)
    obtain ⟨w', H', J', rv, q⟩ := hq
    exact ⟨w', H', J'.os, J'.bare, J'.base, J'.hok, rv, q⟩
  have hx : Passes (L2.CX X.prog X.w) ((cxOf CXg X.prog X.w X.K X.mg X.base Ng qg sg g cdg X.A X.stack s H Eg).tr pn xe) E := passes_call tk hW
  refine wpAny_call (codeAny_mono rc fun r s' hq => ?_)
  cases r with
  | error e => exact hx pinsZ σZ HZ s1 e s' I1 hq
  | ok fl =>
    cases fl with
    | ret u => exact I1.after hq
    | next => exact False.elim hq
    | brk => exact False.elim hq
    | cont => exact False.elim hq
end
end Pk
end

/-! PkX -/
section
set_option Elab.async false
set_option linter.all false
set_option maxRecDepth 100000
set_option maxHeartbeats 4000000
namespace Pk
open PySem PySem.Spec PyProof.Rows L2 LamX
abbrev LamD := Arguments × Expr × Scope
/-- f is the lambda l of this activation -/
def LamF (q : Str) (cells : List (Str × Addr)) (g : G) (f : Addr) (l : LamD) : Prop := ∃ c', g.F f = some (LamO f c' q l.1 l.2.1 l.2.2 (cloFrom cells l.2.2.names [])) ∧ g.F c' = some (CodeO c' q)
def LamsF (q : Str) (cells : List (Str × Addr)) (g : G) : List Addr → List LamD → Prop
  | [], [] => True
  | f :: fs, l :: ls => LamF q cells g f l ∧ LamsF q cells g fs ls
  | _, _ => False
theorem LamF.mono {q : Str} {cells : List (Str × Addr)} {g g' : G} {f : Addr} {l : LamD} (k : g.le g') (h : LamF q cells g f l) : LamF q cells g' f l := by
  obtain ⟨c', a, b⟩ := h
  exact ⟨c', k.F _ _ a, k.F _ _ b⟩
theorem LamsF.mono {q : Str} {cells : List (Str × Addr)} {g g' : G} (k : g.le g') : ∀ {fs : List Addr} {ls : List LamD}, LamsF q cells g fs ls → LamsF q cells g' fs ls
  | [], [], h => trivial
  | _ :: _, _ :: _, h => ⟨h.1.mono k, LamsF.mono k h.2⟩
  | [], _ :: _, h => h.elim
  | _ :: _, [], h => h.elim
theorem LamsF.get {q : Str} {cells : List (Str × Addr)} {g : G} : ∀ {fs : List Addr} {ls : List LamD} {j : Nat}, LamsF q cells g fs ls → j < fs.length → ∃ f l, fs[j]? = some f ∧ ls[j]? = some l ∧ LamF q cells g f l
  | f :: fs, l :: ls, 0, h, _ => ⟨f, l, rfl, rfl, h.1⟩
  | f :: fs, l :: ls, j + 1, h, hj => by
    obtain ⟨f', l', a, b, c⟩ := LamsF.get (j := j) h.2 (by simpa using hj)
    exact ⟨f', l', a, b, c⟩
  | _ :: _, [], _, h, _ => h.elim
theorem LamsF.len {q : Str} {cells : List (Str × Addr)} {g : G} : ∀ {fs : List Addr} {ls : List LamD}, LamsF q cells g fs ls → fs.length = ls.length
  | [], [], _ => rfl
  | _ :: fs, _ :: ls, h => by simp [LamsF.len h.2]
  | [], _ :: _, h => h.elim
  | _ :: _, [], h => h.elim
theorem RH.atF {Γ : Γ} {g : G} {h : HS} {H : Hp} (x : RH Γ g h H) {p : Addr} {φ : Heap → Prop} (e : g.F p = some (.ext φ)) : H p = some (.ext φ) := by
  rcases x.fr _ _ e with z | ⟨d, _⟩
  · exact z
  · exact d.elim
theorem RH.atL {Γ : Γ} {g : G} {h : HS} {H : Hp} (x : RH Γ g h H) {p : Addr} {xs : List V} (e : g.F p = some (.lst xs)) : H p = some (.lst xs) := by
  rcases x.fr _ _ e with z | ⟨d, _⟩
  · exact z
  · exact d.elim
/-! the display -/
def RDLs (Γ : Γ) (q : Str) (cells : List (Str × Addr)) (ls : List LamD) : TA := fun σ H Q => ∃ g h, RH Γ g h H ∧ ∀ g' fs H', g.le g' → RH Γ g' h H' → LamsF q cells g' fs ls → Q (fs.map V.ref) H'
section
variable {Γ : Γ} {X : Cx} {c P : Addr} {k : Nat}
theorem a_lam0 {q : Str} {cells : List (Str × Addr)} : PA X [] (RDLs Γ q cells []) := PA.imp pa_nil fun σ H Q ⟨g, h, hH, q⟩ => q g [] H (.refl g) hH trivial
theorem a_lam {params : Arguments} {body : Expr} {scope : Scope} {lpos : Pos} {es : List Expr} {ls : List LamD} (T : HasTab Γ X "<lambda>" k c P) (L : LamS X.env.scope scope) (hdef : defaultsOf params X.env = ([], [])) (hr : PA X es (RDLs Γ (X.env.qual ++ "<lambda>") X.env.cells ls))
    (hs : starEach (.Lambda params body scope lpos :: es) X.env = (false, eval (.Lambda params body scope lpos) X.env) :: starEach es X.env := by rfl) :
    PA X (.Lambda params body scope lpos :: es) (RDLs Γ (X.env.qual ++ "<lambda>") X.env.cells ((params, body, scope) :: ls)) := by
  have pl : PE X (.Lambda params body scope lpos) (fun σ H Q => ∃ g h, RH Γ g h H ∧ ∀ g' f H', g.le g' → RH Γ g' h H' → LamF (X.env.qual ++ "<lambda>") X.env.cells g' f (params, body, scope) → Q (.ref f) H') := by
    refine ⟨fun pins s σ H Q I ⟨g, h, hH, q⟩ => ?_⟩
    refine lam_makeT I T.tb T.code T.mem T.uni hH.tab hdef (L.has I.ok) fun f c' H1 s' eN T1 hf hco I1 => ?_
    have y1 := (hH.tabs eN T1).aux hf (LamO f c' (X.env.qual ++ "<lambda>") params body scope (cloFrom X.env.cells scope.names []))
    obtain ⟨g2, l2, y2, e2⟩ := y1.ext (p := f) upd_same
    have hco2 : upd H1 f (LamO f c' (X.env.qual ++ "<lambda>") params body scope (cloFrom X.env.cells scope.names [])) c' = some (CodeO c' (X.env.qual ++ "<lambda>")) := by
      rw [upd_ne (ne_of_none hco hf)]
      exact hco
    obtain ⟨g3, l3, y3, e3⟩ := y2.ext (p := c') hco2
    exact ⟨.ref f, _, I1, rfl, q g3 f _ (l2.trans l3) y3 ⟨c', l3.F _ _ e2, e3⟩⟩
  refine PA.imp (pa_cons pl hr hs) fun σ H Q ⟨g, h, hH, q⟩ => ?_
  refine ⟨g, h, hH, fun g1 f H1 l1 y1 lf => ⟨g1, h, y1, fun g2 fs H2 l2 y2 lfs => ?_⟩⟩
  exact q g2 (f :: fs) H2 (l1.trans l2) y2 ⟨lf.mono l2, lfs⟩
/-- what is known of slot i: a list of these lambdas -/
def BadAt (i : Nat) (q : Str) (cells : List (Str × Addr)) (ls : List LamD) (g : G) (σ : L2.St) : Prop := ∃ L fs, σ[i]? = some (some (.ref L)) ∧ g.F L = some (.lst (fs.map V.ref)) ∧ LamsF q cells g fs ls
def sBad (i : Nat) : Sx := fun sl h => .nx (sl.set i none) h
end
/-! readings with something more known at the start -/
abbrev EP0 := G → L2.St → Prop
def RDEx (Γ : Γ) (Wx : WX) (E : EP0) (f : Ex) : TE := fun σ H Q => ∃ g sl h, RH Γ g h H ∧ SLk Γ g sl σ ∧ E g σ ∧ Rz Γ Wx (RW Γ.K) g (f sl h) σ Q
def RDTx (Γ : Γ) (Wx : WX) (E : EP0) (f : Tx) : TT := fun σ H Q => ∃ g sl h, RH Γ g h H ∧ SLk Γ g sl σ ∧ E g σ ∧ Rz Γ Wx (fun _ (a b : Bool) => a = b) g (f sl h) σ Q
def RDSx (Γ : Γ) (Wx : WX) (E : EP0) (f : Sx) : TS := fun D σ H => ∃ g sl h, RH Γ g h H ∧ SLk Γ g sl σ ∧ E g σ ∧ RzS Γ Wx g σ.length (f sl h) D
section
variable {Γ : Γ} {Wx : WX} {X : Cx} {E : EP0} {a b c : Expr} {fa fb : Ex} {t ta tb : Tx} {s1 s2 : Sx} {pos : Pos} {m : W → W → HS → R W} {rest : List Expr} {body orelse : List Stmt}
theorem x_cmp {op : CmpOp} (o : OpS Γ Wx X (compareOp op) m) (ha : PE X a (RDEx Γ Wx E fa)) (hb : PE X b (RDE Γ Wx fb)) (hm : behindInMarks op b = false := by first | exact nomark _ (by decide) (by decide) | rfl | with_unfolding_all rfl) : PE X (.Compare a [op] [b] pos) (RDEx Γ Wx E (eBin m fa fb)) := by
  obtain ⟨r, o1, o2⟩ := o
  refine PE.imp (pe_cmpR o1 ha hb hm) fun σ H Q ⟨g, sl, h, hH, hS, e, q⟩ => ?_
  refine ⟨g, sl, h, hH, hS, e, Rz.mono (fun v H1 ⟨g1, h1, w1, l1, hH1, r1, q1⟩ => ?_) (rz_step q)⟩
  refine RDE.mono (fun v2 H2 ⟨g2, h2, w2, l2, hH2, r2, q2⟩ => ?_) (RDE.step hH1 (SLk.mono l1 hS) q1)
  exact o2 hH2 (RW.mono l2 _ _ r1) r2 q2
theorem x_tcmp {op : CmpOp} (o : OpS Γ Wx X (compareOp op) m) (ha : PE X a (RDEx Γ Wx E fa)) (hb : PE X b (RDE Γ Wx fb)) (hm : behindInMarks op b = false := by first | exact nomark _ (by decide) (by decide) | rfl | with_unfolding_all rfl) : PT X (.Compare a [op] [b] pos) (RDTx Γ Wx E (tVal (eBin m fa fb))) := by
  obtain ⟨r, o1, o2⟩ := o
  refine PT.imp (pt_cmpR o1 ha hb hm) fun σ H Q ⟨g, sl, h, hH, hS, e, q⟩ => ?_
  have q : Rz Γ Wx (fun _ (a b : Bool) => a = b) g ((fa sl h).bind fun x h1 => (fb sl h1).bind fun y h2 => (m x y h2).bind asB) σ Q := by
    have bb : ∀ {α β γ : Type} (r : R α) (k : α → HS → R β) (k2 : β → HS → R γ), (r.bind k).bind k2 = r.bind fun a h => (k a h).bind k2 := fun r k k2 => by cases r <;> rfl
    have q : Rz Γ Wx (fun _ (a b : Bool) => a = b) g (((fa sl h).bind fun x h1 => (fb sl h1).bind fun y h2 => m x y h2).bind asB) σ Q := q
    rw [bb] at q
    have e : (fun a h => ((fb sl h).bind fun y h2 => m a y h2).bind asB) = fun a h => (fb sl h).bind fun y h2 => (m a y h2).bind asB := by
      funext a h
      exact bb _ _ _
    rw [e] at q
    exact q
  refine ⟨g, sl, h, hH, hS, e, Rz.mono (fun v H1 ⟨g1, h1, w1, l1, hH1, r1, q1⟩ => ?_) (rz_step q)⟩
  refine RDE.mono (fun v2 H2 ⟨g2, h2, w2, l2, hH2, r2, q2⟩ => ?_) (RDE.step hH1 (SLk.mono l1 hS) q1)
  refine o2 hH2 (RW.mono l2 _ _ r1) r2 (Rz.mono (fun v H1 ⟨g1, h1, w1, l1, hH1, r1, q1⟩ => ?_) (rz_step q2))
  exact rz_asB hH1 r1 q1
theorem x_or (ha : PT X a (RDTx Γ Wx E ta)) (hb : PW X (.BoolOp .Or (b :: rest) pos) (RDT Γ Wx tb)) : PW X (.BoolOp .Or (a :: b :: rest) pos) (RDTx Γ Wx E (tOrx ta tb)) := by
  refine ⟨fun whole pins s σ H Q I x => (pw_or ha hb).run whole pins s σ H Q I ?_⟩
  obtain ⟨g, sl, h, hH, hS, e, q⟩ := x
  refine ⟨g, sl, h, hH, hS, e, Rz.mono (fun v H1 ⟨g1, h1, w1, l1, hH1, r1, q1⟩ => ?_) (rz_step q)⟩
  subst r1
  by_cases hk : w1 = true
  · rw [if_pos hk] at q1 ⊢
    exact q1 g1 _ _ (.refl _) hH1 rfl
  · rw [if_neg hk] at q1 ⊢
    exact ⟨g1, sl, h1, hH1, SLk.mono l1 hS, q1⟩
theorem x_if (p : PT X c (RDTx Γ Wx E t)) (ha : PSs X body (RDS Γ Wx s1)) (hb : PSs X orelse (RDS Γ Wx s2)) : PS X (.If c body orelse pos) (RDSx Γ Wx E (sIf t s1 s2)) := by
  refine PS.imp (ps_if p ha hb) fun D σ H ⟨g, sl, h, hH, hS, e, q⟩ => ⟨g, sl, h, hH, hS, e, Rz.mono (fun v H1 ⟨g1, h1, w1, l1, hH1, r1, q1⟩ => ?_) (rz_st hS q)⟩
  subst r1
  by_cases hk : w1 = true
  · rw [if_pos hk] at q1 ⊢
    exact ⟨g1, sl, h1, hH1, SLk.mono l1 hS, q1⟩
  · rw [if_neg hk] at q1 ⊢
    exact ⟨g1, sl, h1, hH1, SLk.mono l1 hS, q1⟩
theorem x_ret (p : PE X a (RDEx Γ Wx E fa)) : PS X (.Return (some a) pos) (RDSx Γ Wx E (sRet fa)) :=
  PS.imp (ps_ret p) fun D σ H ⟨g, sl, h, hH, hS, e, q⟩ => ⟨g, sl, h, hH, hS, e, Rz.mono (fun v H1 ⟨g1, h1, w1, l1, hH1, r1, q1⟩ => q1 g1 _ _ (.refl _) hH1 r1) (rz_st hS q)⟩
theorem x_one {st : Stmt} (p : PS X st (RDSx Γ Wx E s1)) : PSs X [st] (RDSx Γ Wx E s1) := pss_one p
theorem x_cons {st : Stmt} {rest : List Stmt} (p : PS X st (RDSx Γ Wx E s1)) (q : PSs X rest (RDS Γ Wx s2)) : PSs X (st :: rest) (RDSx Γ Wx E (sSeq s1 s2)) := by
  refine PSs.imp (pss_cons p q) fun D σ H ⟨g, sl, h, hH, hS, e, q⟩ => ⟨g, sl, h, hH, hS, e, ?_⟩
  unfold sSeq at q
  cases e : s1 sl h with
  | nx s h1 =>
    rw [e] at q
    intro g' σ' H' l a b hl
    refine ⟨g', s, h1, a, b, ?_⟩
    rw [hl]
    exact rzS_le l q
  | rt w h1 => rw [e] at q; exact q
  | bk s h1 => rw [e] at q; exact q
  | ct s h1 => rw [e] at q; exact q
  | exc c s h1 => rw [e] at q; exact q
  | no => rw [e] at q; exact q
/-- bad = [lambda: .., ..], and what comes behind -/
theorem s_bad {c P : Addr} {k i : Nat} {x : Str} {pos' lp : Pos} {es : List Expr} {ls : List LamD} {rest : List Stmt} (hN : X.N.Nodup) (ha : PA X es (RDLs Γ (X.env.qual ++ "<lambda>") X.env.cells ls)) (hz : ls.length ≤ sizeLine) (hr : PSs X rest (RDSx Γ Wx (BadAt i (X.env.qual ++ "<lambda>") X.env.cells ls) s2)) (hi : X.N[i]? = some x := by rfl) (hx : Loc X.env.scope x := by first | exact Or.inl rfl | exact Or.inr rfl)
    (hl : ∀ (pins : List (Addr × Obj)) (s : Shared) (σ : L2.St) (H : Hp), Inv X pins σ H s → i < σ.length := by
      intro pins s σ H I; rw [I.len]; exact (by decide))
    (hs : swapsWith (.List es lp) (some (.Name x pos')) pos.line X.env = pure false := by rfl) (hf : X.fn x = true ∨ X.env.scope.names.lookup x = some .local := by first | exact .inl rfl | exact .inr rfl) :
    PSs X (.Assign [.Name x pos'] (.List es lp) pos :: rest) (RDS Γ Wx (sSeq (sBad i) s2)) := by
  refine ⟨fun pins s σ H D I ⟨g, sl, h, hH, hS, q⟩ => (pss_cons (ps_set (pos' := pos') hN hi hx (pe_lst ha) hs hf) hr).run pins s σ H D I ⟨g, h, hH, fun g1 fs H1 l1 y1 lf => ⟨?_, fun p hp => ?_⟩⟩⟩
  · rw [List.length_map, lf.len]
    exact hz
  · obtain ⟨l2, y2, e2⟩ := y1.frz hp (.lst (fs.map V.ref))
    have hlt := hl pins s σ H I
    refine ⟨g1.frz p (.lst (fs.map V.ref)), sl.set i none, h, y2, ?_, ⟨p, fs, ?_, e2, lf.mono l2⟩, ?_⟩
    · intro j w e
      by_cases hj : i = j
      · subst hj
        by_cases hb : i < sl.length
        · rw [List.getElem?_set_self hb] at e; cases e
        · rw [List.getElem?_eq_none (by simpa using hb)] at e; cases e
      · rw [List.getElem?_set_ne hj] at e
        obtain ⟨v, e1, r1⟩ := hS j w e
        exact ⟨v, by rw [List.getElem?_set_ne hj]; exact e1, RW.mono (l1.trans l2) _ _ r1⟩
    · rw [List.getElem?_set_self hlt]
    · rw [List.length_set]
      exact rzS_le (l1.trans l2) q
end
end Pk
end

/-! PkY -/
section
set_option Elab.async false
set_option linter.all false
set_option maxRecDepth 100000
set_option maxHeartbeats 4000000
namespace Pk
open PySem PySem.Spec PyProof.Rows L2 LamX
/-- x is a def that tells what a call without arguments gives, ret where an exception of the class at CS comes -/
def ToldT (K : PySem.W.Frag) (mg : Str → Option Value) (x ret : Str) (CS : Addr) : Prop :=
  ∃ (g : Addr) (a e : Str) (j : Nat) (p1 p2 p3 p4 p5 p6 p7 p8 : Pos) (pg : Arguments) (sg : Scope) (dV kV doc pm cdv ct oc : Value) (an od : Option Addr) (osl : Array (Option Value)) (Ng : List Str),
    mg x = some (.ref g) ∧ PySem.W.keepIn K (.ref g) = true ∧
    K.lookup g = some ⟨oc, od, .func (PySem.W.fnOf x x pg [.Try [.Return (some (.Call (.Name a p1) [] [] p2)) p3] [.ExceptHandler (some (.Name e p4)) none [.Return (some (.Constant (.str ret) j p5)) p6] p7] [] [] p8] sg dV kV doc pm an cdv ct), osl⟩ ∧
    PySem.W.codeIn K cdv x = true ∧ L2.Binds K (PySem.W.fnOf x x pg [.Try [.Return (some (.Call (.Name a p1) [] [] p2)) p3] [.ExceptHandler (some (.Name e p4)) none [.Return (some (.Constant (.str ret) j p5)) p6] p7] [] [] p8] sg dV kV doc pm an cdv ct) [a] [] ∧
    FnScope Ng [a] sg ∧ Ng[0]? = some a ∧ Vis sg a ∧ sg.names.lookup e = some .globalImplicit ∧ mg e = some (.ref CS) ∧ (e == ("__debug__" : Str)) = false ∧ (∀ f : Addr, (L2.start Ng [V.ref f])[0]? = some (some (V.ref f))) ∧
    (x == ("__debug__" : Str)) = false ∧ (a == ("__debug__" : Str)) = false ∧ (a == ("__classdict__" : Str)) = false
section
variable {Γ : Γ} {Wx : WX} {X : Cx} {c P CS : Addr} {k : Nat} {x ret : Str} {params : Arguments} {body : Expr} {scope : Scope} {te : Ex} {p lpos pos : Pos} {excs : List Nat}
/-- _law_told(lambda: e) -/
theorem e_toldT (T : HasTab Γ X "<lambda>" (k + 1) c P) (D : ToldT X.K X.mg x ret CS) (hx : ∀ c ∈ excs, PySem.W.exmOne X.K (.ref (Γ.cls c)) (.ref CS) = some true)
    (L : LamX.LamS X.env.scope scope) (hbody : ∀ (A : Around) (outer : List Env) (s : Shared) (H : Hp) (E : XK) (f c' : Addr), Room k (A.deeper (LamX.lamEnv X scope s.heap.objs.size f c')) → Takes (LamX.lamCx X A outer s H E scope f c') (fun c d _ H' => E c d H') → PE (LamX.lamCx X A outer s H E scope f c') body (RDE Γ (fun c d _ H' => E c d H') te))
    (hg : Gl X x := by rfl) (hdef : defaultsOf params X.env = ([], []) := by rfl) (hbind : ∀ (q : Str) (cl : List (Str × Addr)) (pm cv ctv : Value), bindArgs (PySem.W.kla_fn "<lambda>" q params body scope cl pm cv ctv) ⟨[], []⟩ = pure [] := by intro _ _ _ _ _; rfl) :
    PE X (.Call (.Name x p) [.Lambda params body scope lpos] [] pos) (RDE Γ Wx (eTold excs ret te)) := by
  obtain ⟨g, a, e, j, p1, p2, p3, p4, p5, p6, p7, p8, pg, sg, dV, kV, doc, pm, cdv, ct, oc, an, od, osl, Ng, hm, hk, lk, hcg, hb, Sg, hNg, hva, hge, hme, hde, h0, h1, h2, h3⟩ := D
  exact e_told T hg hm hk lk hcg hb Sg hNg hva hge hme hde h0 hx L hdef hbind hbody h1 h2 h3
/-- a lambda's body is told by m -/
structure LamOk (Γ : Pk.Γ) (X : Cx) (k : Nat) (l : LamD) (m : Ex) : Prop where
  L : LamX.LamS X.env.scope l.2.2
  bind : ∀ (q : Str) (cl : List (Str × Addr)) (pm cv ctv : Value), bindArgs (PySem.W.kla_fn "<lambda>" q l.1 l.2.1 l.2.2 cl pm cv ctv) ⟨[], []⟩ = pure []
  body : ∀ (A : Around) (outer : List Env) (s : Shared) (H : Hp) (E : XK) (f c' : Addr), Room k (A.deeper (LamX.lamEnv X l.2.2 s.heap.objs.size f c')) → Takes (LamX.lamCx X A outer s H E l.2.2 f c') (fun c d _ H' => E c d H') → PE (LamX.lamCx X A outer s H E l.2.2 f c') l.2.1 (RDE Γ (fun c d _ H' => E c d H') m)
def LamsOk (Γ : Pk.Γ) (X : Cx) (k : Nat) : List LamD → List Ex → Prop
  | [], [] => True
  | l :: ls, m :: ms => LamOk Γ X k l m ∧ LamsOk Γ X k ls ms
  | _, _ => False
theorem LamsOk.get : ∀ {ls : List LamD} {ms : List Ex} {j : Nat} {l : LamD}, LamsOk Γ X k ls ms → ls[j]? = some l → ∃ m, ms[j]? = some m ∧ LamOk Γ X k l m
  | l :: ls, m :: ms, 0, l', h, e => by cases e; exact ⟨m, rfl, h.1⟩
  | l :: ls, m :: ms, j + 1, l', h, e => by
    obtain ⟨m', a, b⟩ := LamsOk.get (j := j) h.2 (by simpa using e)
    exact ⟨m', a, b⟩
  | [], [], _, _, _, e => by cases e
  | [], _ :: _, _, _, h, _ => h.elim
  | _ :: _, [], _, _, h, _ => h.elim
theorem LamsOk.len : ∀ {ls : List LamD} {ms : List Ex}, LamsOk Γ X k ls ms → ls.length = ms.length
  | [], [], _ => rfl
  | _ :: ls, _ :: ms, h => by simp [LamsOk.len h.2]
  | [], _ :: _, h => h.elim
  | _ :: _, [], h => h.elim
def badL (excs : List Nat) (sl : Sl) : List Ex → HS → R Unit
  | [], h => .ok () h
  | m :: ms, h => match m sl h with
    | .exc c h1 => if excs.contains c then badL excs sl ms h1 else .no
    | _ => .no
def eBads (bx : Bool) (excs : List Nat) (ms : List Ex) : Ex := fun sl h => (badL excs sl ms h).bind fun _ h1 => mkL bx [] h1
/-- told(f) != ret within the comprehension's block -/
def ttB (Γ : Pk.Γ) (X : Cx) (k : Nat) (CS : Addr) (ret : Str) (q : Str) (iv : Nat) (σ : L2.St) : TT := fun σ' H' Q => ∃ (f : Addr) (l : LamD) (m : Ex) (c' : Addr), σ'[iv]? = some (some (.ref f)) ∧ H' f = some (LamO f c' q l.1 l.2.1 l.2.2 (cloFrom X.env.cells l.2.2.names [])) ∧ H' c' = some (CodeO c' q) ∧ LamOk Γ X k l m ∧
  RDE Γ (fun cls _ _ H2 => ∃ b, PySem.W.exmOne X.K cls (.ref CS) = some b ∧ (b = true → Q false H2) ∧ (b = false → False)) m σ H' (fun _ _ => False)
theorem pt_bad {pins : List (Addr × Obj)} {σ : L2.St} {s : Shared} {H : Hp} {C : Addr} {cl : List (Str × Addr)} {fp : List Addr} {bscope : Scope} {fv : Str} {pf pc p5 p6 : Pos} {iv jj : Nat} (D : ToldT X.K X.mg x ret CS) (hr : Room (k + 2) X.A) (I3 : Inv X pins σ H s) (f3 : ∀ b ∈ fp, FpOk X pins H b)
    (hN : X.N[iv]? = some fv) (hgx : (relS bscope X.env.scope).names.lookup x = some .globalImplicit) (hv : Vis (relS bscope X.env.scope) fv) (hd : (fv == ("__debug__" : Str)) = false) (hcd : (fv == ("__classdict__" : Str)) = false) :
    PTs (X.blk s H bscope (compEnvC bscope cl C X.env) fp) [.Compare (.Call (.Name x p) [.Name fv pf] [] pc) [.NotEq] [.Constant (.str ret) jj p5] p6] (ttB Γ X k CS ret (X.env.qual ++ "<lambda>") iv σ) := by
  obtain ⟨g, a, e, j, q1, q2, q3, q4, q5, q6, q7, q8, pg, sg, dV, kV, doc, pm, cdv, ct, oc, an, od, osl, Ng, hm, hk, lk, hcg, hb, Sg, hNg, hva, hge, hme, hde, h0, hdx, hda, hca⟩ := D
  refine pts_one ⟨fun pins' s' σ' H' Q Ib h => ?_⟩
  obtain ⟨f, l, m, c', hσ, hf, hco, lo, rd⟩ := h
  refine wpAny_isTrue_Compare1 ?_
  refine thn (Q := EP (X.blk s H bscope (compEnvC bscope cl C X.env) fp) pins' σ' (fun v H2 => v = .str ret ∧ Q false H2)) ?_ fun v s1 ⟨y, H1, I1, r1, ey, hq⟩ => ?_
  · have hgl : Gl (X.blk s H bscope (compEnvC bscope cl C X.env) fp) x := hgx
    refine wpAny_Call_Name_kw (ld_glob Ib hgl hm ?_ hdx)
    refine PySem.W.callWith_K (h₀ := X.base) Ib.ok.mod.kin hk ?_ (by rfl) (by rfl)
    show wpAny _ _ (spliced ((false, eval (.Name fv pf) (X.blk s H bscope (compEnvC bscope cl C X.env) fp).env) :: backTo pc (starEach [] (X.blk s H bscope (compEnvC bscope cl C X.env) fp).env))) _ _ s'
    refine Calls.spliced_cons (thn ((pe_var (X := X.blk s H bscope (compEnvC bscope cl C X.env) fp) (pos := pf) (i := iv) hN hv hd hcd).run pins' s' σ' H' (fun v H1 => v = .ref f ∧ H1 = H') Ib ⟨.ref f, hσ, rfl, rfl⟩) fun u s1 ⟨v, H1, I1, r1, ev, eH⟩ => ?_)
    subst ev
    rw [eH] at I1
    obtain rfl : u = Value.ref f := r1
    refine Calls.spliced_nil ⟨I1.kIn, ?_⟩
    have IX : Inv X pins σ H' s1 := I3.call' (ch := fp) I1.os I1.base I1.hok I1.bare fun b hb => ⟨(f3 b hb).2.2.2.1, (f3 b hb).2.1, (f3 b hb).2.2.2.2.1, (f3 b hb).2.2.2.2.2⟩
    have rc : codeAny (model X.prog X.w) X.A (.call (.ref g) ⟨[.ref f], []⟩) (CR C8.CX0 X.stack X.prog X.w H' s1 (fun v H2 => v = .str ret ∧ Q false H2) C8.E0) s1 := by
      refine run_ofS (N := Ng) (ps := [a]) (us := [.ref f]) (vs := [.ref f]) lk hcg Sg hr IX.env0 (hb s1 [.ref f] IX.kIn rfl) (.cons rfl .nil) rfl fun hr' => ?_
      have htt : TTold X.K CS ret (fun E H1 Q1 => H1 f = some (LamO f c' (X.env.qual ++ "<lambda>") l.1 l.2.1 l.2.2 (cloFrom X.env.cells l.2.2.names [])) ∧ RDE Γ (fun c d _ H' => E c d H') m σ H1 Q1) H' (fun v H2 => v = .str ret ∧ Q false H2) := by
        unfold TTold
        refine ⟨hf, ?_⟩
        obtain ⟨g0, sl0, h0', y1, y2, y3⟩ := rd
        refine ⟨g0, sl0, h0', y1, y2, ?_⟩
        cases em : m sl0 h0' with
        | ok w h1 => rw [em] at y3; exact fun g' v H1 l y r => (y3 g' v H1 l y r).elim
        | no => rw [em] at y3; exact y3
        | exc cc h1 =>
          rw [em] at y3
          intro g' H1 l y
          obtain ⟨b, z1, z2, z3⟩ := y3 g' H1 l y
          exact ⟨b, z1, fun hb => ⟨rfl, z2 hb⟩, z3⟩
      obtain ⟨t', ht', hq'⟩ := told_gives (X := X) (x := x) (q := X.env.qual ++ "<lambda>") (p1 := q1) (p2 := q2) (p3 := q3) (p4 := q4) (p5 := q5) (p6 := q6) (p7 := q7) (p8 := q8) (j := j) (g := g) (cdg := cdv) hge hme hde h0 f c' s1 H' (fun v H2 => v = .str ret ∧ Q false H2)
        (fun E H1 Q1 => H1 f = some (LamO f c' (X.env.qual ++ "<lambda>") l.1 l.2.1 l.2.2 (cloFrom X.env.cells l.2.2.names [])) ∧ RDE Γ (fun c d _ H' => E c d H') m σ H1 Q1)
        (fun W pn xe E p1 p2 tk hW => PE.imp (pe_actT (i := 0) IX lo.L lo.bind tk hW hr' (fun A outer s H hr2 => lo.body A outer s H E f c' hr2 (takes_of rfl rfl rfl rfl)) hNg hva hda hca) fun σZ HZ QZ ⟨z1, z2, z3, z4⟩ => ⟨z1, z3, z2, z4⟩) hco htt
      exact ⟨t', ht'.nox, hq'⟩
    refine wpAny_call (codeAny_mono rc fun r s2 hq => ?_)
    cases r with
    | error e => exact (show False from hq).elim
    | ok fl =>
      cases fl with
      | ret u => exact I1.after hq
      | next => exact False.elim hq
      | brk => exact False.elim hq
      | cont => exact False.elim hq
  · subst ey
    obtain ⟨t, rfl⟩ := (show ∃ t, v = Value.str ret t from r1)
    refine Calls.Constant_str ?_
    refine PySem.P.ne_str ?_
    refine wpAny_truthy_bool ⟨H1, I1.tok _, ?_⟩
    have eb : (ret.cps.toList != ret.cps.toList) = false := by simp
    first
      | exact hq
      | (simpa using hq)
end
end Pk
end

/-! PkZ -/
section
set_option Elab.async false
set_option linter.all false
set_option maxRecDepth 100000
set_option maxHeartbeats 4000000
namespace Pk
open PySem PySem.Spec PyProof.Rows L2 LamX
section
variable {Γ : Γ} {Wx : WX} {X : Cx} {CS : Addr} {k : Nat} {x ret : Str} {p : Pos} {excs : List Nat} {ls : List LamD} {ms : List Ex}
/-- [1 for f in bad if told(f) != ret]: each is told -/
theorem x_bads {bscope : Scope} {own : List (Str × Nat)} {fv bad : Str} {p0 pfv pb pf pc p5 p6 bpos : Pos} {ib iv j0 jj : Nat} (bx : Bool) (D : ToldT X.K X.mg x ret CS) (hx : ∀ c ∈ excs, PySem.W.exmOne X.K (.ref (Γ.cls c)) (.ref CS) = some true) (hr : Room (k + 2) X.A) (hc : X.calm = true) (hN : X.N.Nodup)
    (ok : BlkOk X.N X.env.scope bscope own) (lo : LamsOk Γ X k ls ms) (hib : X.N[ib]? = some bad := by rfl) (hvb : Vis X.env.scope bad := by first | exact .inl rfl | exact .inr (.inl rfl)) (hiv : X.N[iv]? = some fv := by rfl) (hio : iv ∈ own.map (·.2) := by decide)
    (hgx : (relS bscope X.env.scope).names.lookup x = some .globalImplicit := by rfl) (hlf : (relS bscope X.env.scope).names.lookup fv = some .local := by rfl)
    (hdb : (bad == ("__debug__" : Str)) = false := by decide) (hcb : (bad == ("__classdict__" : Str)) = false := by decide) (hd : (fv == ("__debug__" : Str)) = false := by decide) (hcd : (fv == ("__classdict__" : Str)) = false := by decide)
    (hs : ∀ x, foldedSetIterable (.Name bad pb) X.env x = pure x := by intro _; rfl) :
    PE X (.ListComp (.Constant (.int 1) j0 p0) [⟨.Name fv pfv, .Name bad pb, [.Compare (.Call (.Name x p) [.Name fv pf] [] pc) [.NotEq] [.Constant (.str ret) jj p5] p6], 0⟩] bscope bpos)
      (RDEx Γ Wx (BadAt ib (X.env.qual ++ "<lambda>") X.env.cells ls) (eBads bx excs ms)) := by
  refine ⟨fun pins s σ H Q I ⟨g, sl, h, hH, hS, ⟨L, fs, hσ, hL, hls⟩, q⟩ => ?_⟩
  rw [eval_ListComp]
  have hn : fs.length = ls.length := hls.len
  have hm : ls.length = ms.length := lo.len
  have hvlt : iv < σ.length := by
    rw [I.len]
    exact (List.getElem?_eq_some_iff.mp hiv).1
  refine lc_coreI (Q := Q) (wi := iList X.K (tVar ib)) (g := gName iv) (tt := ttB Γ X k CS ret (X.env.qual ++ "<lambda>") iv σ) (te := tC (.int 1)) hc hN I (pi_list (pe_var hib hvb hdb hcb)) ok (fun s H C cl fp => pg_name (X := X.blk s H bscope (compEnvC bscope cl C X.env) fp) hN hiv (.inl hlf) (.inr hlf))
    (fun s H C cl fp I3 f3 => pt_bad D hr I3 f3 hiv hgx (.inl hlf) hd hcd) (fun s H C cl fp => pe_int) hs ?_ fun D C s' m H' I' q hn f => ⟨m, hn, fun h'' sb => ?_⟩
  · refine ⟨.ref L, hσ, L, rfl, ⟨_, SqL.of (hH.atL hL)⟩, fun D hD => ?_⟩
    have nD := hH.noHid hD
    refine ⟨fun i m H' => m = fs.length - i ∧ i ≤ fs.length ∧ ∃ g' h', g.le g' ∧ RH Γ g' h' H' ∧ g'.hid D = some (.lst []) ∧ Rz Γ Wx (RW Γ.K) g ((badL excs sl (ms.drop i) h').bind fun _ h1 => mkL bx [] h1) σ Q, ?_, ?_⟩
    · obtain ⟨l, y, z⟩ := hH.hide hD (o := .lst []) trivial
      exact ⟨_, rfl, Nat.zero_le _, _, h, l, y, z, q⟩
    · rintro i m H' ⟨rfl, hi, g', h', l, y, z, q⟩
      have hL' : H' L = some (.lst (fs.map V.ref)) := y.atL (l.F _ _ hL)
      by_cases hlt : i < fs.length
      · obtain ⟨f, ld, e1, e2, c', e3, e4⟩ := (hls.mono l).get hlt
        obtain ⟨m, em, lm⟩ := lo.get e2
        have hd : ms.drop i = m :: ms.drop (i + 1) := by
          have hlt2 : i < ms.length := by omega
          rw [List.drop_eq_getElem_cons hlt2]
          rw [List.getElem?_eq_getElem hlt2] at em
          cases em
          rfl
        rw [hd] at q
        have hat : (fs.map V.ref)[i]? = some (V.ref f) := by rw [List.getElem?_map, e1] <;> rfl
        refine .inr ⟨⟨_, .ref f, SqL.of hL', hat⟩, fun H2 => ∃ m', m' < fs.length - i ∧ (m' = fs.length - (i + 1) ∧ i + 1 ≤ fs.length ∧ ∃ g' h', g.le g' ∧ RH Γ g' h' H2 ∧ g'.hid D = some (.lst []) ∧ Rz Γ Wx (RW Γ.K) g ((badL excs sl (ms.drop (i + 1)) h').bind fun _ h1 => mkL bx [] h1) σ Q), fun H2 nx => nx, fun x2 H2 ⟨eH, hy⟩ => ?_⟩
        subst eH
        have ex := hy _ (SqL.of hL')
        rw [hat] at ex
        cases ex
        refine ⟨wipe_eq (is := [iv]) (fun j hj => by rw [List.mem_singleton.mp hj]; exact hio) ⟨by rw [List.length_set], fun j hj => List.getElem?_set_ne (fun z => hj (by rw [z]; exact List.mem_singleton.mpr rfl))⟩, f, ld, m, c', ?_, y.atF e3, y.atF e4, lm, g', sl, h', y, SLk.mono l hS, ?_⟩
        · rw [List.getElem?_set_self (by rw [wipe_length]; exact hvlt)]
        · have q : Rz Γ Wx (RW Γ.K) g ((match m sl h' with
            | .exc c h1 => if excs.contains c then badL excs sl (ms.drop (i + 1)) h1 else .no
            | _ => .no).bind fun _ h1 => mkL bx [] h1) σ Q := q
          cases er : m sl h' with
          | ok w h1 => rw [er] at q; exact q.elim
          | no => rw [er] at q; exact q.elim
          | exc cc h1 =>
            rw [er] at q
            by_cases hcc : excs.contains cc = true
            · have q : Rz Γ Wx (RW Γ.K) g ((if excs.contains cc then badL excs sl (ms.drop (i + 1)) h1 else .no).bind fun _ h1 => mkL bx [] h1) σ Q := q
              rw [if_pos hcc] at q
              intro g2 H3 l2 y2
              refine ⟨true, hx cc (List.contains_iff_mem.mp hcc), fun _ => ?_, fun z => by cases z⟩
              simp only [Bool.false_eq_true, if_false]
              exact ⟨fs.length - (i + 1), by omega, rfl, hlt, g2, h1, l.trans l2, y2, l2.hid _ _ z, q⟩
            · have q : Rz Γ Wx (RW Γ.K) g ((if excs.contains cc then badL excs sl (ms.drop (i + 1)) h1 else .no).bind fun _ h1 => mkL bx [] h1) σ Q := q
              rw [if_neg hcc] at q
              exact q.elim
      · have e : i = fs.length := by omega
        subst e
        rw [hn, hm, List.drop_length] at q
        have q : Rz Γ Wx (RW Γ.K) g (mkL bx [] h') σ Q := q
        refine .inl ⟨⟨_, SqL.of hL', by rw [List.length_map]; exact Nat.le_refl _⟩, ?_⟩
        cases bx with
        | true =>
          obtain ⟨g2, l2, y2, r2⟩ := y.showB (c := .lst []) z ⟨[], (y.hd D _ z).1, .nil⟩ l nD
          exact q g2 _ _ l2 y2 r2
        | false =>
          obtain ⟨g2, l2, y2, f2, _, m2⟩ := y.show_ z l nD
          refine q g2 _ _ l2 y2 ?_
          unfold RW
          exact ⟨D, [], rfl, f2, .nil⟩
  · obtain ⟨f0, f1, f2, f3, f4, f5⟩ := f
    exact ⟨.ref D, H', I'.turned (t' := s'.toks) (fun b o hb e => (sb.2 b hb).trans e) f0 f1 f3 f4 f5, rfl, q⟩
end
end Pk
end

/-! PlA -/
section
set_option Elab.async false
set_option linter.all false
set_option maxRecDepth 100000
set_option maxHeartbeats 4000000
namespace Pk
open PySem PySem.Spec L2
/-! dicts walked -/
def G.lock (g : G) (p : Addr) (o : HO) : G := { g with lk := upd g.lk p o }
def G.unlk (g : G) (p : Addr) : G := { g with lk := fun a => if a = p then none else g.lk a }
def pK : Key → W
  | .inl i => .int i | .inr x => .str x
def dkW : DK → W
  | .k x => pK x | .t l => .tup (l.map pK)
def lkW (w : W) (h : HS) : HS := match w with
  | .box n => (match h.at_ n with
    | some (.dic ks ws) => h.put n (.lck ks ws)
    | _ => h)
  | _ => h
def iKeys (f : Ex) : Ix := fun sl h => (f sl h).bind fun w h1 => match dview h1 w with
  | some (ks, _) => .ok (ks.map dkW, fun _ => true) (lkW w h1)
  | none => .no
def flatK : List DK → Bool := fun ks => ks.all fun k => match k with | .k _ => true | .t _ => false
def iVals (f : Ex) : Ix := fun sl h => (f sl h).bind fun w h1 => match dview h1 w with
  | some (ks, ws) => if flatK ks then .ok (ws, fun _ => true) (lkW w h1) else .no
  | none => .no
def iItems (f : Ex) : Ix := fun sl h => (f sl h).bind fun w h1 => match dview h1 w with
  | some (ks, ws) => if flatK ks then .ok ((ks.zip ws).map fun p => .tup [dkW p.1, p.2], fun _ => true) (lkW w h1) else .no
  | none => .no
section
variable {Γ : Γ} {Wx : WX} {X : Cx} {g : G} {h : HS} {H : Hp} {sl : Sl} {σ : L2.St} {tg e : Expr} {f : Ex}
theorem RH.addlk (x : RH Γ g h H) {p : Addr} {o : HO} (e : H p = some o) (z : IsFrz o) : ∃ g2 : G, g.le g2 ∧ RH Γ g2 h H ∧ g2.lk p = some o := by
  cases q : g.lk p with
  | some u =>
    have q2 := (x.lks p u q).1
    rw [e] at q2
    cases q2
    exact ⟨g, .refl g, x, q⟩
  | none =>
    have l : g.le (g.lock p o) := ⟨Nat.le_refl _, fun _ _ => rfl, Same.refl _, Same.refl _, fun a u w => by
      show upd g.lk p o a = some u
      rw [upd_ne (ne_of_none w q)]; exact w⟩
    refine ⟨g.lock p o, l, ⟨x.fr, x.nx, x.inj, x.tr, fun n c q => ?_, x.tab, x.nt, x.hd, fun a u w => ?_, fun n ks ws q2 => ?_⟩, upd_same⟩
    · obtain ⟨a, b, c'⟩ := x.cell n c q
      exact ⟨a, b, c'.mono l rfl⟩
    · have w : upd g.lk p o a = some u := w
      by_cases ha : a = p
      · rw [ha, upd_same] at w
        cases w
        rw [ha]
        exact ⟨e, z⟩
      · rw [upd_ne ha] at w
        exact x.lks a u w
    · obtain ⟨u, q3⟩ := x.lkc n ks ws q2
      exact ⟨u, l.lk _ _ q3⟩
theorem RH.lockB (x : RH Γ g h H) {n : Nat} {ks : List DK} {ws : List W} {u : HO} {od : Obj} (e : h.at_ n = some (.dic ks ws)) (hu : H (g.ρ n) = some u) :
    g.le (g.lock (g.ρ n) (.frz od u)) ∧ RH Γ (g.lock (g.ρ n) (.frz od u)) (h.put n (.lck ks ws)) (upd H (g.ρ n) (.frz od u)) ∧ (g.lock (g.ρ n) (.frz od u)).lk (g.ρ n) = some (.frz od u) := by
  obtain ⟨hn, hF, ok⟩ := x.cell n _ e
  have ok' := ok
  obtain ⟨vs, d, rs⟩ := ok'
  have hlk : g.lk (g.ρ n) = none := by
    cases q : g.lk (g.ρ n) with
    | none => rfl
    | some o => exact (nofrz ok (by intro _ _ z; cases z) (x.lks _ _ q).1 (x.lks _ _ q).2).elim
  have du : IsDct u := by
    rcases d with ⟨kvs, q, _⟩ | ⟨kvs, q, _⟩ <;> (rw [hu] at q; cases q; trivial)
  have l : g.le (g.lock (g.ρ n) (.frz od u)) := ⟨Nat.le_refl _, fun _ _ => rfl, Same.refl _, Same.refl _, fun a w q => by
    show upd g.lk (g.ρ n) (.frz od u) a = some w
    rw [upd_ne (ne_of_none q hlk)]; exact q⟩
  obtain ⟨o0, ho, nt⟩ := ok.at
  refine ⟨l, ⟨fun a w q => ?_, x.nx, x.inj, fun m hm => ?_, fun m c2 q => ?_, tabs_upd x.tab (fun o e => by rw [ho] at e; cases e; exact nt), x.nt, fun a o' q => ?_, fun a o' q => ?_, fun m ks' ws' q => ?_⟩, upd_same⟩
  · have na : a ≠ g.ρ n := fun z => by
      have q : g.F a = some w := q
      rw [z, hF] at q; cases q
    rcases x.fr a w q with z | ⟨d, o', z⟩
    · exact .inl (by rw [upd_ne na]; exact z)
    · exact .inr ⟨d, o', by rw [upd_ne na]; exact z⟩
  · show ∃ o, upd H (g.ρ n) (.frz od u) (g.ρ m) = some o ∧ NT o
    by_cases b : g.ρ m = g.ρ n
    · rw [b]; exact ⟨_, upd_same, trivial⟩
    · rw [upd_ne b]; exact x.tr m hm
  · have q' : (if m = n then some (.lck ks ws) else h.at_ m) = some c2 := q
    by_cases b : m = n
    · rw [if_pos b] at q'
      cases q'
      rw [b]
      refine ⟨hn, hF, vs, ?_, RWs.mono l _ _ rs⟩
      rcases d with ⟨kvs, q, z⟩ | ⟨kvs, q, z⟩
      · rw [hu] at q; cases q
        exact .inl ⟨od, kvs, upd_same, z⟩
      · rw [hu] at q; cases q
        exact .inr ⟨od, kvs, upd_same, z⟩
    · rw [if_neg b] at q'
      obtain ⟨q1, q2, q3⟩ := x.cell m c2 q'
      exact ⟨q1, q2, q3.mono l (upd_ne fun z => b (x.inj m n q1 hn z))⟩
  · obtain ⟨h1, h2, h3, h4⟩ := x.hd a o' q
    exact ⟨by rw [upd_ne (h4 n hn).symm]; exact h1, h2, h3, h4⟩
  · have q : upd g.lk (g.ρ n) (.frz od u) a = some o' := q
    by_cases ha : a = g.ρ n
    · rw [ha, upd_same] at q
      cases q
      rw [ha]
      exact ⟨upd_same, du⟩
    · rw [upd_ne ha] at q
      rw [upd_ne ha]
      exact x.lks a o' q
  · have q' : (if m = n then some (.lck ks ws) else h.at_ m) = some (.lck ks' ws') := q
    by_cases b : m = n
    · rw [b]; exact ⟨_, upd_same⟩
    · rw [if_neg b] at q'
      obtain ⟨o, z⟩ := x.lkc m ks' ws' q'
      exact ⟨o, l.lk _ _ z⟩
/-- a frozen dict is locked -/
theorem RH.lockF (x : RH Γ g h H) {p : Addr} {u : HO} {od : Obj} (e : g.F p = some u) (du : IsDct u) (hu : H p = some u) : RH Γ g h (upd H p (.frz od u)) := by
  have nr : ∀ n c, h.at_ n = some c → g.ρ n ≠ p := fun n c q z => by
    have := (x.cell n c q).2.1
    rw [z, e] at this; cases this
  refine ⟨fun a w q => ?_, x.nx, x.inj, fun m hm => ?_, fun m c2 q => ?_, tabs_upd x.tab (fun o e => by rw [hu] at e; cases e; cases u <;> first | trivial | exact du), x.nt, fun a o' q => ?_, fun a o' q => ?_, x.lkc⟩
  · by_cases ha : a = p
    · rw [ha] at q ⊢
      rw [e] at q
      cases q
      exact .inr ⟨du, od, upd_same⟩
    · rcases x.fr a w q with z | ⟨d, o', z⟩
      · exact .inl (by rw [upd_ne ha]; exact z)
      · exact .inr ⟨d, o', by rw [upd_ne ha]; exact z⟩
  · by_cases b : g.ρ m = p
    · rw [b]; exact ⟨_, upd_same, trivial⟩
    · rw [upd_ne b]; exact x.tr m hm
  · obtain ⟨q1, q2, q3⟩ := x.cell m c2 q
    exact ⟨q1, q2, q3.mono (.refl g) (upd_ne (nr m c2 q))⟩
  · obtain ⟨h1, h2, h3, h4⟩ := x.hd a o' q
    refine ⟨by rw [upd_ne (fun z => by rw [z, e] at h3; cases h3)]; exact h1, h2, h3, h4⟩
  · have na : a ≠ p := fun z => by
      have q2 := (x.lks a o' q)
      rw [z, hu] at q2
      obtain ⟨q2, q3⟩ := q2
      cases q2
      cases u <;> first | exact q3 | exact du
    rw [upd_ne na]
    exact x.lks a o' q
/-- it is walked no more -/
theorem RH.unlockB {g0 : G} (x : RH Γ g h H) (l0 : g0.le g) {n : Nat} {ks : List DK} {ws : List W} (e : h.at_ n = some (.lck ks ws)) (n0 : n < g0.nx) (hl : g0.lk (g0.ρ n) = none) :
    ∃ od u, H (g.ρ n) = some (.frz od u) ∧ g0.le (g.unlk (g.ρ n)) ∧ RH Γ (g.unlk (g.ρ n)) (h.put n (.dic ks ws)) (upd H (g.ρ n) u) := by
  obtain ⟨hn, hF, ok⟩ := x.cell n _ e
  have ok' := ok
  obtain ⟨vs, d, rs⟩ := ok'
  obtain ⟨od, u, hu, du, dd⟩ : ∃ od u, H (g.ρ n) = some (.frz od u) ∧ IsDct u ∧ DctH (upd H (g.ρ n) u) (g.ρ n) ks vs := by
    rcases d with ⟨o, kvs, q, z⟩ | ⟨o, kvs, q, z⟩
    · exact ⟨o, _, q, trivial, .inl ⟨kvs, upd_same, z⟩⟩
    · exact ⟨o, _, q, trivial, .inr ⟨kvs, upd_same, z⟩⟩
  have nu : NT u := by cases u <;> first | trivial | exact du
  have rn : g.ρ n = g0.ρ n := l0.ρ n n0
  have l : g0.le (g.unlk (g.ρ n)) := ⟨l0.nx, l0.ρ, l0.F, l0.hid, fun a w q => by
    show (if a = g.ρ n then none else g.lk a) = some w
    rw [if_neg (fun z => by rw [z, rn, hl] at q; cases q)]
    exact l0.lk a w q⟩
  have mc : ∀ {c : Ct} {a : Addr} {H' : Hp}, CellOk Γ g H' a c → CellOk Γ (g.unlk (g.ρ n)) H' a c := fun {c a H'} z => by
    cases c with
    | lst ws => obtain ⟨vs, a, b⟩ := z; exact ⟨vs, a, rws_hid (g := g) (by rfl) (by rfl) (by rfl) b⟩
    | dic ks ws => obtain ⟨vs, a, b⟩ := z; exact ⟨vs, a, rws_hid (g := g) (by rfl) (by rfl) (by rfl) b⟩
    | lck ks ws => obtain ⟨vs, a, b⟩ := z; exact ⟨vs, a, rws_hid (g := g) (by rfl) (by rfl) (by rfl) b⟩
    | ins c ks ws => obtain ⟨dx, vs, a, a2, b⟩ := z; exact ⟨dx, vs, a, a2, rws_hid (g := g) (by rfl) (by rfl) (by rfl) b⟩
  refine ⟨od, u, hu, l, ⟨fun a w q => ?_, x.nx, x.inj, fun m hm => ?_, fun m c2 q => ?_, tabs_upd x.tab (fun o e => by rw [hu] at e; cases e; trivial), x.nt, fun a o' q => ?_, fun a o' q => ?_, fun m ks' ws' q => ?_⟩⟩
  · have q : g.F a = some w := q
    have na : a ≠ g.ρ n := fun z => by rw [z, hF] at q; cases q
    rcases x.fr a w q with z | ⟨d, o', z⟩
    · exact .inl (by rw [upd_ne na]; exact z)
    · exact .inr ⟨d, o', by rw [upd_ne na]; exact z⟩
  · show ∃ o, upd H (g.ρ n) u (g.ρ m) = some o ∧ NT o
    by_cases b : g.ρ m = g.ρ n
    · rw [b]; exact ⟨_, upd_same, nu⟩
    · rw [upd_ne b]; exact x.tr m hm
  · have q' : (if m = n then some (.dic ks ws) else h.at_ m) = some c2 := q
    by_cases b : m = n
    · rw [if_pos b] at q'
      cases q'
      rw [b]
      exact ⟨hn, hF, mc ⟨vs, dd, rs⟩⟩
    · rw [if_neg b] at q'
      obtain ⟨q1, q2, q3⟩ := x.cell m c2 q'
      exact ⟨q1, q2, mc (q3.mono (.refl g) (upd_ne fun z => b (x.inj m n q1 hn z)))⟩
  · obtain ⟨h1, h2, h3, h4⟩ := x.hd a o' q
    exact ⟨by rw [show upd H (g.ρ n) u a = H a from upd_ne (h4 n hn).symm]; exact h1, h2, h3, h4⟩
  · have q : (if a = g.ρ n then none else g.lk a) = some o' := q
    by_cases ha : a = g.ρ n
    · rw [if_pos ha] at q; cases q
    · rw [if_neg ha] at q
      rw [upd_ne ha]
      exact x.lks a o' q
  · have q' : (if m = n then some (.dic ks ws) else h.at_ m) = some (.lck ks' ws') := q
    by_cases b : m = n
    · rw [if_pos b] at q'; cases q'
    · rw [if_neg b] at q'
      obtain ⟨o, z⟩ := x.lkc m ks' ws' q'
      have hm := (x.cell m _ q').1
      refine ⟨o, ?_⟩
      show (if g.ρ m = g.ρ n then none else g.lk (g.ρ m)) = some o
      rw [if_neg (fun z => b (x.inj m n hm hn z))]
      exact z
end
end Pk
end

/-! PlB -/
section
set_option Elab.async false
set_option linter.all false
set_option maxRecDepth 100000
set_option maxHeartbeats 4000000
namespace Pk
open PySem PySem.Spec L2
section
variable {Γ : Γ} {Wx : WX} {X : Cx} {g : G} {h : HS} {H : Hp} {sl : Sl} {σ : L2.St} {tg e : Expr} {f : Ex} {apos cpos : Pos}
def LockOr (v : V) (H1 : Hp) (Q : VK) : Prop := ∃ d, v = .ref d ∧ ((∃ u, H1 d = some u ∧ IsDct u ∧ ∀ od, Q v (upd H1 d (.frz od u))) ∨ ∃ od u, H1 d = some (.frz od u) ∧ IsDct u ∧ Q v H1)
theorem pe_la {t : TE} (p : PE X e t) : PE X e (fun σ H Q => t σ H fun v H1 => LockOr v H1 Q) := by
  refine ⟨fun pins s σ H Q I h => ?_⟩
  refine thn (p.run pins s σ H _ I h) fun v s1 ⟨x, H1, I1, r1, d, ex, q⟩ => ?_
  rcases q with ⟨u, e1, du, q⟩ | ⟨od, u, e1, du, q⟩
  · have mu : Mut (some u) := by cases u <;> first | trivial | exact du.elim
    obtain ⟨od, I2⟩ := I1.lock e1 mu
    exact ⟨x, _, I2, r1, q od⟩
  · exact ⟨x, _, I1, r1, q⟩
/-- a dict w (the view ks, ws): from now on it is walked -/
theorem walk_ok {w : W} {v : V} {ks : List DK} {ws : List W} {R : VK} (x : RH Γ g h H) (r : RW Γ.K g w v) (e : dview h w = some (ks, ws))
    (q : ∀ g2 H2 d, g.le g2 → RH Γ g2 (lkW w h) H2 → v = .ref d → ((∃ o kvs, g2.lk d = some (.frz o (.dK kvs)) ∧ ks = kvs.map (fun p => DK.k p.1) ∧ RWs Γ.K g2 ws (kvs.map (·.2))) ∨ ∃ o kvs, g2.lk d = some (.frz o (.dT kvs)) ∧ (ks = kvs.map (fun p => DK.t p.1) ∧ kvs ≠ []) ∧ RWs Γ.K g2 ws (kvs.map (·.2))) → R v H2) : LockOr v H R := by
  cases w with
  | box n =>
    unfold RW at r
    obtain ⟨hn, rfl⟩ := r
    have e0 : (match h.at_ n with
      | some (.dic ks ws) => some (ks, ws)
      | some (.lck ks ws) => some (ks, ws)
      | _ => none) = some (ks, ws) := e
    cases ec : h.at_ n with
    | none => rw [ec] at e0; cases e0
    | some c =>
      rw [ec] at e0
      cases c with
      | lst _ => cases e0
      | ins _ _ _ => cases e0
      | dic ks' ws' =>
        cases e0
        obtain ⟨_, _, vs, d, rs⟩ := x.cell n _ ec
        have el : lkW (.box n) h = h.put n (.lck ks ws) := by
          show (match h.at_ n with
            | some (.dic ks ws) => h.put n (.lck ks ws)
            | _ => h) = _
          rw [ec]
        refine ⟨_, rfl, .inl ?_⟩
        rcases d with ⟨kvs, q1, z1, z2⟩ | ⟨kvs, q1, z1, z2⟩
        · refine ⟨_, q1, trivial, fun od => ?_⟩
          obtain ⟨l, y, z⟩ := x.lockB (od := od) ec q1
          exact q _ _ _ l (by rw [el]; exact y) rfl (.inl ⟨od, kvs, z, z1, by rw [← z2]; exact RWs.mono l _ _ rs⟩)
        · refine ⟨_, q1, trivial, fun od => ?_⟩
          obtain ⟨l, y, z⟩ := x.lockB (od := od) ec q1
          exact q _ _ _ l (by rw [el]; exact y) rfl (.inr ⟨od, kvs, z, z1, by rw [← z2]; exact RWs.mono l _ _ rs⟩)
      | lck ks' ws' =>
        cases e0
        obtain ⟨_, _, vs, d, rs⟩ := x.cell n _ ec
        have el : lkW (.box n) h = h := by
          show (match h.at_ n with
            | some (.dic ks ws) => h.put n (.lck ks ws)
            | _ => h) = _
          rw [ec]
        obtain ⟨o, hl⟩ := x.lkc n _ _ ec
        obtain ⟨ho, _⟩ := x.lks _ _ hl
        refine ⟨_, rfl, .inr ?_⟩
        rcases d with ⟨od, kvs, q1, z1, z2⟩ | ⟨od, kvs, q1, z1, z2⟩
        · rw [q1] at ho
          cases ho
          exact ⟨od, _, q1, trivial, q g H _ (.refl g) (by rw [el]; exact x) rfl (.inl ⟨od, kvs, hl, z1, by rw [← z2]; exact rs⟩)⟩
        · rw [q1] at ho
          cases ho
          exact ⟨od, _, q1, trivial, q g H _ (.refl g) (by rw [el]; exact x) rfl (.inr ⟨od, kvs, hl, z1, by rw [← z2]; exact rs⟩)⟩
  | dic ks' ws' =>
    cases e
    unfold RW at r
    obtain ⟨a, vs, rfl, d, rs⟩ := r
    refine ⟨_, rfl, ?_⟩
    rcases d with ⟨kvs, q1, z1, z2⟩ | ⟨kvs, q1, z1, z2⟩
    · rcases x.fr _ _ q1 with z | ⟨_, o', z⟩
      · refine .inl ⟨_, z, trivial, fun od => ?_⟩
        obtain ⟨g2, l, y, z3⟩ := (x.lockF (od := od) q1 trivial z).addlk upd_same trivial
        exact q g2 _ _ l y rfl (.inl ⟨od, kvs, z3, z1, by rw [← z2]; exact RWs.mono l _ _ rs⟩)
      · obtain ⟨g2, l, y, z3⟩ := x.addlk z trivial
        exact .inr ⟨o', _, z, trivial, q g2 _ _ l y rfl (.inl ⟨o', kvs, z3, z1, by rw [← z2]; exact RWs.mono l _ _ rs⟩)⟩
    · rcases x.fr _ _ q1 with z | ⟨_, o', z⟩
      · refine .inl ⟨_, z, trivial, fun od => ?_⟩
        obtain ⟨g2, l, y, z3⟩ := (x.lockF (od := od) q1 trivial z).addlk upd_same trivial
        exact q g2 _ _ l y rfl (.inr ⟨od, kvs, z3, z1, by rw [← z2]; exact RWs.mono l _ _ rs⟩)
      · obtain ⟨g2, l, y, z3⟩ := x.addlk z trivial
        exact .inr ⟨o', _, z, trivial, q g2 _ _ l y rfl (.inr ⟨o', kvs, z3, z1, by rw [← z2]; exact RWs.mono l _ _ rs⟩)⟩
  | _ => cases e
theorem rw_pK {K : PySem.W.Frag} {g : G} (k : Key) : RW K g (pK k) (kV k) := by
  cases k with
  | inl i => exact mint _
  | inr x => exact mstr _
theorem rws_pK {K : PySem.W.Frag} {g : G} : ∀ (l : List Key), RWs K g (l.map pK) (l.map kV)
  | [] => .nil
  | k :: l => .cons (rw_pK k) (rws_pK l)
/-- a tuple that stands is kept from now on -/
theorem RH.extT (x : RH Γ g h H) {p : Addr} {xs : List V} (e : H p = some (.tup xs)) : ∃ g2 : G, g.le g2 ∧ RH Γ g2 h H ∧ g2.F p = some (.tup xs) := by
  cases q : g.F p with
  | some u =>
    refine ⟨g, .refl g, x, ?_⟩
    rcases x.fr p u q with z | ⟨d, o', z⟩
    · rw [e] at z; cases z; exact q
    · rw [e] at z; cases z
  | none =>
    have l : g.le (g.frz p (.tup xs)) := ⟨Nat.le_refl _, fun _ _ => rfl, fun a u z => by
      show upd g.F p (.tup xs) a = some u
      rw [upd_ne (ne_of_none z q)]; exact z, Same.refl _, Same.refl _⟩
    by_cases hh : ∃ o, g.hid p = some o
    · obtain ⟨o, ho⟩ := hh
      obtain ⟨h1, h2, _⟩ := x.hd p o ho
      rw [e] at h1
      cases h1
      exact h2.elim
    · refine ⟨g.frz p (.tup xs), l, ⟨fun a u z => ?_, x.nx, x.inj, x.tr, fun n c z => ?_, x.tab, nt_frz x.nt trivial, fun a o z => ?_, x.lks, x.lkc⟩, upd_same⟩
      · have z : upd g.F p (.tup xs) a = some u := z
        by_cases ha : a = p
        · rw [ha, upd_same] at z
          cases z
          exact .inl (by rw [ha]; exact e)
        · rw [upd_ne ha] at z
          exact x.fr a u z
      · obtain ⟨q1, q2, q3⟩ := x.cell n c z
        refine ⟨q1, ?_, q3.mono l rfl⟩
        show upd g.F p (.tup xs) (g.ρ n) = none
        rw [upd_ne (fun z => ?_)]
        · exact q2
        · have : ∃ o, H (g.ρ n) = some o ∧ ∀ xs, o ≠ .tup xs := by
            cases c with
            | lst ws => obtain ⟨vs, q, _⟩ := q3; exact ⟨_, q, fun xs z => by cases z⟩
            | ins c ks ws => obtain ⟨dx, vs, _, q, _⟩ := q3; exact ⟨_, q, fun xs z => by cases z⟩
            | dic ks ws =>
              obtain ⟨vs, d, _⟩ := q3
              rcases d with ⟨kvs, q, _⟩ | ⟨kvs, q, _⟩ <;> exact ⟨_, q, fun xs z => by cases z⟩
            | lck ks ws =>
              obtain ⟨vs, d, _⟩ := q3
              rcases d with ⟨o, kvs, q, _⟩ | ⟨o, kvs, q, _⟩ <;> exact ⟨_, q, fun xs z => by cases z⟩
          obtain ⟨o, q, n⟩ := this
          rw [z, e] at q
          exact n xs (Option.some.inj q).symm
      · obtain ⟨h1, h2, h3, h4⟩ := x.hd a o z
        refine ⟨h1, h2, ?_, h4⟩
        show upd g.F p (.tup xs) a = none
        rw [upd_ne (fun z2 => hh ⟨o, by rw [← z2]; exact z⟩)]
        exact h3
theorem lk_at {g g' : G} {h' : HS} {H' : Hp} {p : Addr} {o : HO} (l : g.le g') (y : RH Γ g' h' H') (e : g.lk p = some o) : H' p = some o := (y.lks p o (l.lk _ _ e)).1
theorem i_keys (p : PE X e (RDE Γ Wx f)) : PI X tg e (RDI Γ Wx (iKeys f)) := by
  refine PI.imp (pi_keys (pe_la p)) fun σ H R ⟨g, sl, h, hH, hS, q⟩ => ?_
  refine ⟨g, sl, h, hH, hS, Rz.mono (fun v H1 ⟨g1, h1, w1, l1, hH1, rw1, q1⟩ => ?_) (rzI_step q)⟩
  split at q1
  · rename_i ks ws e1
    refine walk_ok hH1 rw1 e1 fun g2 H2 d l2 y2 ev hk => ?_
    rcases hk with ⟨o, kvs, hl, rfl, _⟩ | ⟨o, kvs, hl, ⟨rfl, _⟩, _⟩
    · refine ⟨d, o, ev, .inl ⟨kvs, (y2.lks _ _ hl).1, q1 g2 H2 _ l2 y2 ⟨fun g' h' H' i l y _ hi => ?_, fun g' h' H' l y _ => ?_⟩⟩⟩
      · have hi' : i < kvs.length := by simpa using hi
        refine ⟨⟨lk_at l y hl, hi'⟩, fun x H'' ⟨eH, k, v, e2, e3⟩ => ?_⟩
        subst eH; subst e3
        refine ⟨g', .refl g', y, fun w hw => ?_⟩
        rw [List.map_map, List.getElem?_map, e2] at hw
        cases hw
        exact rw_pK k
      · exact ⟨lk_at l y hl, by simp⟩
    · refine ⟨d, o, ev, .inr ⟨kvs, (y2.lks _ _ hl).1, q1 g2 H2 _ l2 y2 ⟨fun g' h' H' i l y _ hi => ?_, fun g' h' H' l y _ => ?_⟩⟩⟩
      · have hi' : i < kvs.length := by simpa using hi
        refine ⟨⟨lk_at l y hl, hi'⟩, fun x H'' ⟨eH, k, v, qa, e2, e3, e4⟩ => ?_⟩
        subst eH; subst e3
        obtain ⟨g3, l3, y3, e5⟩ := y.extT e4
        refine ⟨g3, l3, y3, fun w hw => ?_⟩
        rw [List.map_map, List.getElem?_map, e2] at hw
        cases hw
        show RW Γ.K g3 (.tup (k.map pK)) _
        unfold RW
        exact ⟨qa, k.map kV, rfl, e5, rws_pK k⟩
      · exact ⟨lk_at l y hl, by simp⟩
  · exact q1.elim
theorem flat_kvs {kvs : List (List Key × V)} (h : flatK (kvs.map fun p => DK.t p.1) = true) : kvs = [] := by
  cases kvs with
  | nil => rfl
  | cons p r => simp [flatK] at h
theorem i_vals (p : PE X e (RDE Γ Wx f)) (hbase : attributeBase e "values" X.env (eval e X.env) = eval e X.env := by rfl) (hline : (apos.endLine == cpos.line) = true := by rfl) : PI X tg (.Call (.Attribute e "values" apos) [] [] cpos) (RDI Γ Wx (iVals f)) := by
  refine PI.imp (pi_values (pe_la p) hbase hline) fun σ H R ⟨g, sl, h, hH, hS, q⟩ => ?_
  refine ⟨g, sl, h, hH, hS, Rz.mono (fun v H1 ⟨g1, h1, w1, l1, hH1, rw1, q1⟩ => ?_) (rzI_step q)⟩
  split at q1
  · rename_i ks ws e1
    by_cases hf : flatK ks = true
    · rw [if_pos hf] at q1
      refine walk_ok hH1 rw1 e1 fun g2 H2 d l2 y2 ev hk => ?_
      rcases hk with ⟨o, kvs, hl, rfl, rs⟩ | ⟨o, kvs, hl, ⟨rfl, ne⟩, rs⟩
      · have hlen : ws.length = kvs.length := by rw [rs.len, List.length_map]
        refine ⟨d, o, kvs, ev, (y2.lks _ _ hl).1, q1 g2 H2 _ l2 y2 ⟨fun g' h' H' i l y _ hi => ?_, fun g' h' H' l y _ => ?_⟩⟩
        · have hi' : i < ws.length := hi
          refine ⟨⟨lk_at l y hl, by omega⟩, fun x H'' ⟨eH, k, e2⟩ => ?_⟩
          subst eH
          refine ⟨g', .refl g', y, fun w hw => ?_⟩
          obtain ⟨v, e3, r3⟩ := rs.get hw
          rw [List.getElem?_map, e2] at e3
          cases e3
          exact RW.mono l _ _ r3
        · exact ⟨lk_at l y hl, by show kvs.length ≤ ws.length; omega⟩
      · exact absurd (flat_kvs hf) ne
    · rw [if_neg hf] at q1
      exact q1.elim
  · exact q1.elim
theorem i_items {elts : List Expr} {kk : Nat} {tpos : Pos} (p : PE X e (RDE Γ Wx f)) (hbase : attributeBase e "items" X.env (eval e X.env) = eval e X.env := by rfl) (hline : (apos.endLine == cpos.line) = true := by rfl) : PI X (.Tuple elts kk tpos) (.Call (.Attribute e "items" apos) [] [] cpos) (RDI Γ Wx (iItems f)) := by
  refine PI.imp (pi_items (pe_la p) hbase hline) fun σ H R ⟨g, sl, h, hH, hS, q⟩ => ?_
  refine ⟨g, sl, h, hH, hS, Rz.mono (fun v H1 ⟨g1, h1, w1, l1, hH1, rw1, q1⟩ => ?_) (rzI_step q)⟩
  split at q1
  · rename_i ks ws e1
    by_cases hf : flatK ks = true
    · rw [if_pos hf] at q1
      refine walk_ok hH1 rw1 e1 fun g2 H2 d l2 y2 ev hk => ?_
      rcases hk with ⟨o, kvs, hl, rfl, rs⟩ | ⟨o, kvs, hl, ⟨rfl, ne⟩, rs⟩
      · have hlen : ws.length = kvs.length := by rw [rs.len, List.length_map]
        have hz : (((kvs.map fun p => DK.k p.1).zip ws).map fun p => W.tup [dkW p.1, p.2]).length = kvs.length := by
          rw [List.length_map, List.length_zip, List.length_map]
          omega
        refine ⟨d, o, kvs, ev, (y2.lks _ _ hl).1, q1 g2 H2 _ l2 y2 ⟨fun g' h' H' i l y _ hi => ?_, fun g' h' H' l y _ => ?_⟩⟩
        · have hi' : i < kvs.length := by rw [← hz]; exact hi
          refine ⟨⟨lk_at l y hl, hi'⟩, fun x H'' ⟨T, k, v, e2, ex, hT, eH⟩ => ?_⟩
          subst eH; subst ex
          obtain ⟨l3, y3, z3⟩ := y.frz hT (.tup [kV k, v])
          refine ⟨_, l3, y3, fun w hw => ?_⟩
          have hws : i < ws.length := by omega
          have e3 : ((kvs.map fun p => DK.k p.1).zip ws)[i]? = some (DK.k k, ws[i]) := by
            rw [List.getElem?_zip_eq_some]
            exact ⟨by rw [List.getElem?_map, e2]; rfl, List.getElem?_eq_getElem hws⟩
          rw [List.getElem?_map, e3] at hw
          cases hw
          obtain ⟨v', e4, r4⟩ := rs.get (List.getElem?_eq_getElem hws)
          rw [List.getElem?_map, e2] at e4
          cases e4
          show RW Γ.K _ (.tup [pK k, ws[i]]) _
          unfold RW
          exact ⟨T, [kV k, v], rfl, z3, .cons (rw_pK k) (.cons (RW.mono (l.trans l3) _ _ r4) .nil)⟩
        · exact ⟨lk_at l y hl, by rw [← hz]; exact Nat.le_refl _⟩
      · exact absurd (flat_kvs hf) ne
    · rw [if_neg hf] at q1
      exact q1.elim
  · exact q1.elim
end
/-! it is walked no more -/
def unlP (h : HS) (n : Nat) (h1 : HS) : HS := match h1.at_ n with
  | some (.lck ks ws) => h1.put n (.dic ks ws)
  | _ => h1
def isDic (h : HS) (n : Nat) : Bool := match h.at_ n with
  | some (.dic _ _) => true
  | _ => false
def eUnl (path : Sl → HS → Option Nat) (e : Ex) : Ex := fun sl h => match path sl h with
  | some n => if isDic h n then (e sl h).bind fun r h1 => .ok r (unlP h n h1) else e sl h
  | none => e sl h
def sUnl (path : Sl → HS → Option Nat) (b : Sx) : Sx := fun sl h => match path sl h with
  | some n => if isDic h n then (match b sl h with
    | .nx s h1 => .nx s (unlP h n h1)
    | .rt w h1 => .rt w (unlP h n h1)
    | .bk s h1 => .bk s (unlP h n h1)
    | .ct s h1 => .ct s (unlP h n h1)
    | r => r) else b sl h
  | none => b sl h
section
variable {Γ : Γ} {Wx : WX} {X : Cx} {g : G} {h : HS} {H : Hp} {sl : Sl} {σ : L2.St} {e : Expr} {f : Ex} {st : Stmt} {b : Sx}
/-- what follows is told of the heap where n is walked no more -/
def Unl (X : Cx) (H' : Hp) (P : Hp → Prop) : Prop := P H' ∨ ∃ d od u, H' d = some (.frz od u) ∧ (∀ o' u', X.H_0 d ≠ some (.frz o' u')) ∧ P (upd H' d u)
theorem unl_ok {n : Nat} {g1 : G} {h1 : HS} {H1 : Hp} {pins : List (Addr × Obj)} {s : Shared} (I : Inv X pins σ H s) (x : RH Γ g h H) (hd : isDic h n = true) (l : g.le g1) (y : RH Γ g1 h1 H1) {P : Hp → Prop}
    (q : ∀ g2 H2, g.le g2 → RH Γ g2 (unlP h n h1) H2 → (∀ w v, RW Γ.K g1 w v → RW Γ.K g2 w v) → P H2) : Unl X H1 P := by
  have e0 : ∃ ks ws, h.at_ n = some (.dic ks ws) := by
    unfold isDic at hd
    split at hd
    · rename_i ks ws e; exact ⟨ks, ws, e⟩
    · cases hd
  obtain ⟨ks0, ws0, e0⟩ := e0
  obtain ⟨hn, _, ok⟩ := x.cell n _ e0
  have ok' := ok
  obtain ⟨vs, d, _⟩ := ok'
  have hlk : g.lk (g.ρ n) = none := by
    cases q : g.lk (g.ρ n) with
    | none => rfl
    | some o => exact (nofrz ok (by intro _ _ z; cases z) (x.lks _ _ q).1 (x.lks _ _ q).2).elim
  have nf : ∀ o' u', X.H_0 (g.ρ n) ≠ some (.frz o' u') := by
    rcases d with ⟨kvs, q, _⟩ | ⟨kvs, q, _⟩
    · exact I.nofrz q trivial
    · exact I.nofrz q trivial
  unfold unlP at q
  split at q
  · rename_i ks ws e1
    obtain ⟨od, u, e2, l2, y2⟩ := y.unlockB l e1 hn hlk
    exact .inr ⟨_, od, u, e2, by rw [l.ρ n hn]; exact nf, q _ _ l2 y2 fun w v r => rw_hid (g := g1) (by rfl) (by rfl) (by rfl) r⟩
  · exact .inl (q g1 H1 l y fun _ _ r => r)
theorem Unl.inv {H' : Hp} {P : Hp → Prop} {pins : List (Addr × Obj)} {s : Shared} (u : Unl X H' P) (I : Inv X pins σ H' s) : ∃ H2, Inv X pins σ H2 s ∧ P H2 := by
  rcases u with p | ⟨d, od, u, e, n, p⟩
  · exact ⟨_, I, p⟩
  · exact ⟨_, I.unlock e n, p⟩
theorem e_unl (path : Sl → HS → Option Nat) (p : PE X e (RDE Γ Wx f)) : PE X e (RDE Γ Wx (eUnl path f)) := by
  refine ⟨fun pins s σ H Q I ⟨g, sl, h, hH, hS, q⟩ => ?_⟩
  unfold eUnl at q
  split at q
  · rename_i n _
    by_cases hd : isDic h n = true
    · rw [if_pos hd] at q
      have q2 : Rz Γ Wx (RW Γ.K) g (f sl h) σ (fun v H1 => Unl X H1 (fun H2 => Q v H2)) := by
        cases er : f sl h with
        | no => rw [er] at q; exact q.elim
        | exc c h1 => rw [er] at q; exact q
        | ok w h1 =>
          rw [er] at q
          have q : ∀ g' v H', g.le g' → RH Γ g' (unlP h n h1) H' → RW Γ.K g' w v → Q v H' := q
          exact fun g1 v H1 l1 hH1 r1 => unl_ok I hH hd l1 hH1 fun g2 H2 l2 y2 m => q g2 v H2 l2 y2 (m _ _ r1)
      refine thn (p.run pins s σ H (fun v H1 => Unl X H1 (fun H2 => Q v H2)) I ⟨g, sl, h, hH, hS, q2⟩) fun v s1 ⟨x, H1, I1, r1, q1⟩ => ?_
      obtain ⟨H2, I2, q3⟩ := q1.inv I1
      exact ⟨x, H2, I2, r1, q3⟩
    · rw [if_neg hd] at q
      exact p.run pins s σ H Q I ⟨g, sl, h, hH, hS, q⟩
  · exact p.run pins s σ H Q I ⟨g, sl, h, hH, hS, q⟩
theorem s_unl (path : Sl → HS → Option Nat) (p : PS X st (RDS Γ Wx b)) : PS X st (RDS Γ Wx (sUnl path b)) := by
  refine ⟨fun pins s σ H D I ⟨g, sl, h, hH, hS, q⟩ => ?_⟩
  unfold sUnl at q
  split at q
  · rename_i n _
    by_cases hd : isDic h n = true
    · rw [if_pos hd] at q
      have slm : ∀ {g1 g2 : G} {s1 : Sl} {σ1 : L2.St}, (∀ w v, RW Γ.K g1 w v → RW Γ.K g2 w v) → SLk Γ g1 s1 σ1 → SLk Γ g2 s1 σ1 := fun m h i w e => by
        obtain ⟨v, e1, r⟩ := h i w e
        exact ⟨v, e1, m _ _ r⟩
      have q2 : RzS Γ Wx g σ.length (b sl h) { nx := fun σ1 H1 => Unl X H1 (D.nx σ1), rt := fun v H1 => Unl X H1 (D.rt v), bk := fun σ1 H1 => Unl X H1 (D.bk σ1), ct := fun σ1 H1 => Unl X H1 (D.ct σ1) } := by
        cases er : b sl h with
        | no => rw [er] at q; exact q.elim
        | exc c s1 h1 => rw [er] at q; exact q
        | nx s1 h1 =>
          rw [er] at q
          have q : ∀ g' σ' H', g.le g' → RH Γ g' (unlP h n h1) H' → SLk Γ g' s1 σ' → σ'.length = σ.length → D.nx σ' H' := q
          exact fun g1 σ1 H1 l1 hH1 sk hl => unl_ok I hH hd l1 hH1 fun g2 H2 l2 y2 m => q g2 σ1 H2 l2 y2 (slm m sk) hl
        | bk s1 h1 =>
          rw [er] at q
          have q : ∀ g' σ' H', g.le g' → RH Γ g' (unlP h n h1) H' → SLk Γ g' s1 σ' → σ'.length = σ.length → D.bk σ' H' := q
          exact fun g1 σ1 H1 l1 hH1 sk hl => unl_ok I hH hd l1 hH1 fun g2 H2 l2 y2 m => q g2 σ1 H2 l2 y2 (slm m sk) hl
        | ct s1 h1 =>
          rw [er] at q
          have q : ∀ g' σ' H', g.le g' → RH Γ g' (unlP h n h1) H' → SLk Γ g' s1 σ' → σ'.length = σ.length → D.ct σ' H' := q
          exact fun g1 σ1 H1 l1 hH1 sk hl => unl_ok I hH hd l1 hH1 fun g2 H2 l2 y2 m => q g2 σ1 H2 l2 y2 (slm m sk) hl
        | rt w h1 =>
          rw [er] at q
          have q : ∀ g' v H', g.le g' → RH Γ g' (unlP h n h1) H' → RW Γ.K g' w v → D.rt v H' := q
          exact fun g1 v H1 l1 hH1 r1 => unl_ok I hH hd l1 hH1 fun g2 H2 l2 y2 m => q g2 v H2 l2 y2 (m _ _ r1)
      refine thn (p.run pins s σ H _ I ⟨g, sl, h, hH, hS, q2⟩) fun fl s1 hq => ?_
      cases fl with
      | next =>
        obtain ⟨σ1, H1, I1, q1⟩ := hq
        obtain ⟨H2, I2, q3⟩ := q1.inv I1
        exact ⟨σ1, H2, I2, q3⟩
      | brk =>
        obtain ⟨σ1, H1, I1, q1⟩ := hq
        obtain ⟨H2, I2, q3⟩ := q1.inv I1
        exact ⟨σ1, H2, I2, q3⟩
      | cont =>
        obtain ⟨σ1, H1, I1, q1⟩ := hq
        obtain ⟨H2, I2, q3⟩ := q1.inv I1
        exact ⟨σ1, H2, I2, q3⟩
      | ret u =>
        obtain ⟨v, σ1, H1, I1, rv, q1⟩ := hq
        obtain ⟨H2, I2, q3⟩ := q1.inv I1
        exact ⟨v, σ1, H2, I2, rv, q3⟩
    · rw [if_neg hd] at q
      exact p.run pins s σ H D I ⟨g, sl, h, hH, hS, q⟩
  · exact p.run pins s σ H D I ⟨g, sl, h, hH, hS, q⟩
end
end Pk
end

/-! PlC -/
section
set_option Elab.async false
set_option linter.all false
set_option maxRecDepth 100000
set_option maxHeartbeats 4000000
namespace Pk
open PySem PySem.Spec L2
/-! sum of a tuple -/
def smI (i : Int) : Bool := decide (i.natAbs ≤ 2 ^ 40)
section
variable {X : Cx}
theorem preSum_le (val : Nat → Int) (n : Nat) (h : ∀ j, j < n → (val j).natAbs ≤ 2 ^ 40) : ∀ j, j ≤ n → (preSum val j).natAbs ≤ j * 2 ^ 40
  | 0, _ => by simp [preSum]
  | j + 1, hj => by
    have h1 := preSum_le val n h j (by omega)
    have h2 := h j (by omega)
    simp only [preSum]
    have := Int.natAbs_add_le (preSum val j) (val j)
    have e : (j + 1) * 2 ^ 40 = j * 2 ^ 40 + 2 ^ 40 := by omega
    omega
theorem preSum_sum (ns : List Int) : ∀ j, j ≤ ns.length → preSum (fun i => ns.getD i 0) j = (ns.take j).sum
  | 0, _ => by simp [preSum]
  | j + 1, hj => by
    have hj' : j < ns.length := hj
    simp only [preSum]
    rw [preSum_sum ns j (by omega), List.take_succ, List.sum_append, List.getElem?_eq_getElem hj']
    simp [List.getD, List.getElem?_eq_getElem hj']
theorem cr_sumT (hc : X.calm = true) : CallR X (.builtin "sum") (fun vs H Q => ∃ (a : Addr) (ns : List Int), vs = [V.ref a] ∧ SqT X.K H a (ns.map V.int) ∧ (ns.all smI && decide (ns.length ≤ 2 ^ 20)) = true ∧ Q (.int ns.sum) H) := by
  intro pins s σ H vs us Q I r h
  obtain ⟨a, ns, rfl, hs, hz, q⟩ := h
  obtain ⟨its, rv, pl, _⟩ := I.tuple hs
  rw [Vals.ref1 r]
  simp only [Bool.and_eq_true, decide_eq_true_eq, List.all_eq_true] at hz
  obtain ⟨hz1, hz2⟩ := hz
  have hl : its.toArray.size = ns.length := by rw [List.size_toArray, ← rv.length, List.length_map]
  have alt : a < s.heap.objs.size := by
    obtain ⟨o, e, _⟩ := pl
    exact Heap.lt_size e
  refine PySem.call_sum_walk (wpAny_pyIter_tuple pl ?_)
  have hsz : ∀ o, (s.heap.push o).objs.size = s.heap.objs.size + 1 := fun o => Heap.size_push ..
  refine ⟨_, [_, a], [_], _, _, _, (fun i => ns.getD i 0), rfl, Walks.tuple (A := X.A.in1) (I.ok.hd hc) s.heap.objs.size a (Nat.ne_of_lt alt) its.toArray, ⟨⟨_, Heap.get?_push_size _ rfl, rfl, rfl⟩, pl.push _⟩, fun c hc => ?_, fun i v hv => ?_, fun j hj => ?_, fun h' tk t' hk => ?_⟩
  · show c < (s.heap.push _).objs.size
    rw [hsz]
    rcases List.mem_cons.mp hc with z | z
    · rw [z]; exact Nat.lt_succ_self _
    · rw [List.mem_singleton.mp z]; exact Nat.lt_succ_of_lt alt
  · have hv2 : its[i]? = some v := by simpa using hv
    have hi2 : i < its.length := (List.getElem?_eq_some_iff.mp hv2).1
    have hi3 : i < ns.length := by rw [← hl, List.size_toArray]; exact hi2
    obtain ⟨u, hu, ru⟩ := rv.get (i := i) (x := V.int ns[i]) (by simp [hi3])
    rw [hv2] at hu
    cases hu
    obtain ⟨t, e⟩ := (show ∃ t, v = Value.int ns[i] t from ru)
    exact ⟨t, by rw [e]; simp [List.getD, hi3]⟩
  · rw [hl] at hj
    have hb : ∀ j, j < ns.length → ((fun i => ns.getD i 0) j).natAbs ≤ 2 ^ 40 := fun j hj => by
      have := hz1 (ns[j]) (List.getElem_mem hj)
      unfold smI at this
      have e : (fun i => ns.getD i 0) j = ns[j] := by simp [List.getD, hj]
      rw [e]
      exact of_decide_eq_true this
    have h1 := hb j hj
    have h2 := preSum_le (fun i => ns.getD i 0) ns.length hb (j + 1) hj
    have h3 : (j + 1) * 2 ^ 40 ≤ 2 ^ 20 * 2 ^ 40 := Nat.mul_le_mul_right _ (by omega)
    unfold InLong
    constructor <;> omega
  · refine ⟨.int _, H, I.kept (h' := h') (t' := tk) fun b o e => hk b o (fun z => ?_) (Heap.get?_push_of_some _ e), ⟨_, rfl⟩, ?_⟩
    · rw [List.mem_singleton.mp z] at e
      exact Nat.lt_irrefl _ (Heap.lt_size e)
    · rw [hl, preSum_sum ns ns.length (Nat.le_refl _), List.take_of_length_le (Nat.le_refl _)]
      exact q
end
end Pk
end

/-! PlD -/
section
set_option Elab.async false
set_option linter.all false
set_option maxRecDepth 100000
set_option maxHeartbeats 4000000
namespace Pk
open PySem PySem.Spec L2
/-! sum -/
def m_sum (xs : List W) (h : HS) : R W := match xs with
  | [x] => (match lview h x with
    | some ws => (match intsOf ws with
      | some ns => .ok (.int ns.sum) h
      | none => .no)
    | none => (match x with
      | .tup ws => (match intsOf ws with
        | some ns => if (ns.all smI && decide (ns.length ≤ 2 ^ 20)) = true then .ok (.int ns.sum) h else .no
        | none => .no)
      | .kt ws => (match intsOf ws with
        | some ns => if (ns.all smI && decide (ns.length ≤ 2 ^ 20)) = true then .ok (.int ns.sum) h else .no
        | none => .no)
      | _ => .no))
  | _ => .no
/-! methods of texts -/
def MS1 (Γ : Γ) (Wx : WX) (X : Cx) (id : String) (m : Str → W → HS → R W) : Prop := ∃ r : V → List V → Hp → VK → Prop, MtR X id r ∧
  ∀ {g : G} {h : HS} {H : Hp} {σ : L2.St} {a : Str} {y : W} {vy : V} {Q : VK}, RH Γ g h H → RW Γ.K g y vy → Rz Γ Wx (RW Γ.K) g (m a y h) σ Q → r (.str a) [vy] H Q
def MS0 (Γ : Γ) (Wx : WX) (X : Cx) (id : String) (m : Str → HS → R W) : Prop := ∃ r : V → List V → Hp → VK → Prop, MtR X id r ∧
  ∀ {g : G} {h : HS} {H : Hp} {σ : L2.St} {a : Str} {Q : VK}, RH Γ g h H → Rz Γ Wx (RW Γ.K) g (m a h) σ Q → r (.str a) [] H Q
def asS (m : Str → HS → R W) (w : W) (h : HS) : R W := match w with
  | .str a => m a h
  | _ => .no
def eS1 (m : Str → W → HS → R W) (fo fe : Ex) : Ex := fun sl h => (fo sl h).bind fun x h1 => match x with
  | .str a => (fe sl h1).bind fun y h2 => m a y h2
  | _ => .no
def eS0 (m : Str → HS → R W) (fo : Ex) : Ex := fun sl h => (fo sl h).bind fun x h1 => asS m x h1
def m_startswith (a : Str) (y : W) (h : HS) : R W := match y with
  | .str b => .ok (.bl (Txt.startswith a b)) h
  | _ => .no
def m_partition (a : Str) (y : W) (h : HS) : R W := match y with
  | .str b => if b.length ≠ 0 ∧ a.length ≤ sizeLine then .ok (.tup [.str (Txt.partition a b).1, .str (Txt.partition a b).2.1, .str (Txt.partition a b).2.2]) h else .no
  | _ => .no
/-! tuple.index of a text -/
def strsOf : List W → Option (List Str)
  | [] => some []
  | .str i :: ws => (strsOf ws).map (i :: ·)
  | _ => none
def ixOf (z : Str) : List Str → Option Nat
  | [] => none
  | y :: ys => if y = z then some 0 else (ixOf z ys).map (· + 1)
/-! f-strings -/
def fmtW (w : W) (h : HS) : R W := match w with
  | .str y => if y.length ≤ sizeLine then .ok (.str y) h else .no
  | .int i => if i.natAbs.log2 < 1920 then .ok (.str (toString i)) h else .no
  | _ => .no
def eFmt (f : Ex) : Ex := fun sl h => (f sl h).bind fmtW
def eJs : List Ex → Str → Ex
  | [], acc => fun _ h => .ok (.str acc) h
  | f :: fs, acc => fun sl h => (f sl h).bind fun x h1 => match x with
    | .str y => if (acc ++ y).length ≤ sizeLine then eJs fs (acc ++ y) sl h1 else .no
    | _ => .no
section
variable {Γ : Γ} {Wx : WX} {X : Cx} {g : G} {h : HS} {H : Hp} {σ : L2.St} {o e f1 : Expr} {fo fe : Ex} {apos pos : Pos} {id : String} {name : Str}
theorem ints_ok {K : PySem.W.Frag} : ∀ {ws : List W} {ns : List Int} {vs : List V}, intsOf ws = some ns → RWs K g ws vs → vs = ns.map V.int
  | [], _, vs, e, r => by cases e; unfold RWs at r; rw [r]; rfl
  | .int i :: ws, ns, vs, e, r => by
    have e' : (intsOf ws).map (i :: ·) = some ns := e
    cases q : intsOf ws with
    | none => rw [q] at e'; cases e'
    | some ms =>
      rw [q] at e'
      cases e'
      unfold RWs at r
      obtain ⟨v, vr, rfl, r1, rs⟩ := r
      rw [ints_ok q rs, rint r1]
      rfl
  | .non :: _, _, _, e, _ => by cases e
  | .bl _ :: _, _, _, e, _ => by cases e
  | .str _ :: _, _, _, e, _ => by cases e
  | .tup _ :: _, _, _, e, _ => by cases e
  | .lst _ :: _, _, _, e, _ => by cases e
  | .dic _ _ :: _, _, _, e, _ => by cases e
  | .box _ :: _, _, _, e, _ => by cases e
  | .scr _ :: _, _, _, e, _ => by cases e
  | .kt _ :: _, _, _, e, _ => by cases e
  | .tx _ :: _, _, _, e, _ => by cases e
theorem strs_ok {K : PySem.W.Frag} : ∀ {ws : List W} {ns : List Str} {vs : List V}, strsOf ws = some ns → RWs K g ws vs → vs = ns.map V.str
  | [], _, vs, e, r => by cases e; unfold RWs at r; rw [r]; rfl
  | .str i :: ws, ns, vs, e, r => by
    have e' : (strsOf ws).map (i :: ·) = some ns := e
    cases q : strsOf ws with
    | none => rw [q] at e'; cases e'
    | some ms =>
      rw [q] at e'
      cases e'
      unfold RWs at r
      obtain ⟨v, vr, rfl, r1, rs⟩ := r
      rw [strs_ok q rs, rstr r1]
      rfl
  | .non :: _, _, _, e, _ => by cases e
  | .bl _ :: _, _, _, e, _ => by cases e
  | .int _ :: _, _, _, e, _ => by cases e
  | .tup _ :: _, _, _, e, _ => by cases e
  | .lst _ :: _, _, _, e, _ => by cases e
  | .dic _ _ :: _, _, _, e, _ => by cases e
  | .box _ :: _, _, _, e, _ => by cases e
  | .scr _ :: _, _, _, e, _ => by cases e
  | .kt _ :: _, _, _, e, _ => by cases e
  | .tx _ :: _, _, _, e, _ => by cases e
theorem c_sum (hK : X.K = Γ.K) (hc : X.calm = true) : CallS Γ Wx X (.builtin "sum") m_sum := by
  refine ⟨_, (cr_sum hc).or (cr_sumT hc), fun {g h H σ xs vs Q} hH r q => ?_⟩
  unfold m_sum at q
  split at q
  · obtain ⟨v, rfl, r1⟩ := rws1 r
    split at q
    · rename_i ws e1
      split at q
      · rename_i ns e2
        obtain ⟨a, us, rfl, s, rs⟩ := lview_ok hH r1 e1
        rw [ints_ok e2 rs] at s
        exact .inl ⟨a, ns, rfl, by rw [hK]; exact SqL.of s, rz_now q hH (mint _)⟩
      · exact q.elim
    · split at q
      · split at q
        · rename_i ns e2
          split at q
          · rename_i hz
            obtain ⟨a, us, rfl, s, rs⟩ := tup_ok hH r1
            rw [ints_ok e2 rs] at s
            exact .inr ⟨a, ns, rfl, by rw [hK]; exact s, hz, rz_now q hH (mint _)⟩
          · exact q.elim
        · exact q.elim
      · split at q
        · rename_i ns e2
          split at q
          · rename_i hz
            obtain ⟨a, us, rfl, s, rs⟩ := kt_ok hH r1
            rw [ints_ok e2 rs] at s
            exact .inr ⟨a, ns, rfl, by rw [hK]; exact s, hz, rz_now q hH (mint _)⟩
          · exact q.elim
        · exact q.elim
      · exact q.elim
  · exact q.elim
theorem e_s1 {m : Str → W → HS → R W} (M : MS1 Γ Wx X id m) (slot : Slot "str" name id) (ty : typeOf (.builtin id) = pure (.type "method_descriptor")) (ho : PE X o (RDE Γ Wx fo)) (he : PE X e (RDE Γ Wx fe))
    (hs : starEach [e] X.env = [(false, eval e X.env)] := by rfl) (hbase : attributeBase o name X.env (eval o X.env) = eval o X.env := by rfl) (hline : (apos.endLine == pos.line) = true := by rfl) :
    PE X (.Call (.Attribute o name apos) [e] [] pos) (RDE Γ Wx (eS1 m fo fe)) := by
  obtain ⟨r, m1, m2⟩ := M
  refine PE.imp (pe_m1 slot ty m1 ho he hs hbase hline) fun σ H Q ⟨g, sl, h, hH, hS, q⟩ => ?_
  refine RDE.mono (fun v H1 ⟨g1, h1, w1, l1, hH1, r1, q1⟩ => ?_) (RDE.step hH hS q)
  cases w1 with
  | str a =>
    obtain rfl := rstr r1
    refine ⟨⟨a, rfl⟩, RDE.mono (fun v2 H2 ⟨g2, h2, w2, l2, hH2, r2, q2⟩ => ?_) (RDE.step hH1 (SLk.mono l1 hS) q1)⟩
    exact m2 hH2 r2 q2
  | _ => exact q1.elim
theorem e_s0 {m : Str → HS → R W} (M : MS0 Γ Wx X id m) (slot : Slot "str" name id) (ty : typeOf (.builtin id) = pure (.type "method_descriptor")) (ho : PE X o (RDE Γ Wx fo))
    (hbase : attributeBase o name X.env (eval o X.env) = eval o X.env := by rfl) (hline : (apos.endLine == pos.line) = true := by rfl) :
    PE X (.Call (.Attribute o name apos) [] [] pos) (RDE Γ Wx (eS0 m fo)) := by
  obtain ⟨r, m1, m2⟩ := M
  refine PE.imp (pe_m0 slot ty m1 ho hbase hline) fun σ H Q ⟨g, sl, h, hH, hS, q⟩ => ?_
  refine RDE.mono (fun v H1 ⟨g1, h1, w1, l1, hH1, r1, q1⟩ => ?_) (RDE.step hH hS q)
  cases w1 with
  | str a =>
    obtain rfl := rstr r1
    exact ⟨⟨a, rfl⟩, m2 hH1 q1⟩
  | _ => exact q1.elim
theorem ms_startswith : MS1 Γ Wx X "str.startswith" m_startswith := by
  refine ⟨_, mt_startswith, fun {g h H σ a y vy Q} hH r q => ?_⟩
  unfold m_startswith at q
  cases y with
  | str b =>
    obtain rfl := rstr r
    exact ⟨a, b, rfl, rfl, rz_now q hH (mbl _)⟩
  | _ => exact q.elim
theorem ms_partition : MS1 Γ Wx X "str.partition" m_partition := by
  refine ⟨_, mt_partition, fun {g h H σ a y vy Q} hH r q => ?_⟩
  unfold m_partition at q
  cases y with
  | str b =>
    obtain rfl := rstr r
    by_cases hb : b.length ≠ 0 ∧ a.length ≤ sizeLine
    · have q : Rz Γ Wx (RW Γ.K) g (if b.length ≠ 0 ∧ a.length ≤ sizeLine then .ok (.tup [.str (Txt.partition a b).1, .str (Txt.partition a b).2.1, .str (Txt.partition a b).2.2]) h else .no) σ Q := q
      rw [if_pos hb] at q
      exact ⟨a, b, rfl, rfl, by simpa using hb.1, hb.2, fun p hp => mkT_ok hH hp (.cons (mstr _) (.cons (mstr _) (.cons (mstr _) .nil))) q⟩
    · have q : Rz Γ Wx (RW Γ.K) g (if b.length ≠ 0 ∧ a.length ≤ sizeLine then .ok (.tup [.str (Txt.partition a b).1, .str (Txt.partition a b).2.1, .str (Txt.partition a b).2.2]) h else .no) σ Q := q
      rw [if_neg hb] at q
      exact q.elim
  | _ => exact q.elim
theorem e_fmt (p : PE X e (RDE Γ Wx fe)) : PE X (.FormattedValue e (-1) none pos) (RDE Γ Wx (eFmt fe)) := by
  refine PE.imp (pe_fmt p) fun σ H Q ⟨g, sl, h, hH, hS, q⟩ => ?_
  refine RDE.mono (fun v H1 ⟨g1, h1, w1, l1, hH1, r1, q1⟩ => ?_) (RDE.step hH hS q)
  unfold fmtW at q1
  split at q1
  · split at q1
    · rename_i y hz
      exact .inl ⟨y, rstr r1, hz, rz_now q1 hH1 (mstr _)⟩
    · exact q1.elim
  · split at q1
    · rename_i i hz
      exact .inr ⟨i, rint r1, hz, rz_now q1 hH1 (mstr _)⟩
    · exact q1.elim
  · exact q1.elim
inductive FJ (Γ : Pk.Γ) (Wx : WX) (X : Cx) : List Expr → List Ex → Prop where
  | nil : FJ Γ Wx X [] []
  | cons {e : Expr} {f : Ex} {es : List Expr} {fs : List Ex} (h : PE X e (RDE Γ Wx f)) (r : FJ Γ Wx X es fs) : FJ Γ Wx X (e :: es) (f :: fs)
theorem FJ.pj {es : List Expr} {fs : List Ex} (h : FJ Γ Wx X es fs) : PJ X es (fs.map (RDE Γ Wx)) := by
  induction h with
  | nil => exact .nil
  | cons h r ih => exact .cons h ih
theorem js_rd {σ : L2.St} {Q : VK} {sl : Sl} : ∀ {fs : List Ex} {acc : Str} {g : G} {h : HS} {H : Hp}, RH Γ g h H → SLk Γ g sl σ → Rz Γ Wx (RW Γ.K) g (eJs fs acc sl h) σ Q → tJs (fs.map (RDE Γ Wx)) acc σ H fun out H1 => Q (.str out) H1
  | [], acc, g, h, H, hH, hS, q => rz_now q hH (mstr _)
  | f :: fs, acc, g, h, H, hH, hS, q => by
    show RDE Γ Wx f σ H _
    refine RDE.mono (fun v H1 ⟨g1, h1, w1, l1, hH1, r1, q1⟩ => ?_) (RDE.step hH hS q)
    cases w1 with
    | str y =>
      by_cases hz : (acc ++ y).length ≤ sizeLine
      · have q1 : Rz Γ Wx (RW Γ.K) g1 (if (acc ++ y).length ≤ sizeLine then eJs fs (acc ++ y) sl h1 else .no) σ Q := q1
        rw [if_pos hz] at q1
        exact ⟨y, rstr r1, hz, js_rd hH1 (SLk.mono l1 hS) q1⟩
      · have q1 : Rz Γ Wx (RW Γ.K) g1 (if (acc ++ y).length ≤ sizeLine then eJs fs (acc ++ y) sl h1 else .no) σ Q := q1
        rw [if_neg hz] at q1
        exact q1.elim
    | _ => exact q1.elim
theorem e_joined {v1 v2 : Expr} {rest : List Expr} {fs : List Ex} (h : FJ Γ Wx X (v1 :: v2 :: rest) fs) : PE X (.JoinedStr (v1 :: v2 :: rest) pos) (RDE Γ Wx (eJs fs Str.empty)) :=
  PE.imp (pe_joined h.pj) fun σ H Q ⟨g, sl, h, hH, hS, q⟩ => js_rd hH hS q
theorem e_joined1 (p : PE X e (RDE Γ Wx fe)) : PE X (.JoinedStr [e] pos) (RDE Γ Wx fe) := pe_joined1 p
end
end Pk
end

/-! PlE -/
section
set_option Elab.async false
set_option linter.all false
set_option maxRecDepth 100000
set_option maxHeartbeats 4000000
namespace Pk
open PySem PySem.Spec L2
/-! d.get(k, x) -/
def eGet2 (fo fk fx : Ex) : Ex := fun sl h => (fo sl h).bind fun d h1 => match dview h1 d with
  | none => .no
  | some _ => (fk sl h1).bind fun k h2 => (fx sl h2).bind fun x h3 => match dget h3 d k with
    | some (some v) => .ok v h3
    | some none => .ok x h3
    | none => .no
def eGet1 (fo fk : Ex) : Ex := fun sl h => (fo sl h).bind fun d h1 => match dview h1 d with
  | none => .no
  | some _ => (fk sl h1).bind fun k h2 => match dget h2 d k with
    | some (some v) => .ok v h2
    | some none => .ok .non h2
    | none => .no
/-! dict displays with flat keys, dict(list of pairs), list(d.items()) -/
def putP (p : List DK × List W) (j : DK) (y : W) : List DK × List W := (dputK p.1 j, dputW p.1 p.2 j y)
def mergeP : List (Key × W) → List DK × List W → List DK × List W
  | [], p => p
  | (k, y) :: r, p => mergeP r (putP p (.k k) y)
def prsM : List (Ex × Ex) → Sl → HS → R (List (Key × W))
  | [], _, h => .ok [] h
  | (fk, fv) :: r, sl, h => (noX (fk sl h)).bind fun k h1 => (noX (fv sl h1)).bind fun v h2 => match kOf k with
    | some (.k j) => (prsM r sl h2).bind fun ps h3 => .ok ((j, v) :: ps) h3
    | _ => .no
def eDisp (bx : Bool) (prs : List (Ex × Ex)) : Ex := fun sl h => (prsM prs sl h).bind fun ps h1 => if ps.length ≤ 15 then mkD bx (mergeP ps ([], [])).1 (mergeP ps ([], [])).2 h1 else .no
def eDnew (bx : Bool) : Ex := fun _ h => mkD bx [] [] h
def pairsOf : List W → Option (List (Key × W))
  | [] => some []
  | .tup [k, v] :: ws => (match kOf k, pairsOf ws with
    | some (.k j), some ps => some ((j, v) :: ps)
    | _, _ => none)
  | _ => none
def m_dict (bx : Bool) (xs : List W) (h : HS) : R W := match xs with
  | [x] => (match lview h x with
    | some ws => (match pairsOf ws with
      | some ps => mkD bx (mergeP ps ([], [])).1 (mergeP ps ([], [])).2 h
      | none => .no)
    | none => .no)
  | _ => .no
def eItemsL (bx : Bool) (f : Ex) : Ex := fun sl h => (f sl h).bind fun d h1 => match dview h1 d with
  | some (ks, ws) => if flatK ks then mkL bx ((ks.zip ws).map fun p => .tup [dkW p.1, p.2]) h1 else .no
  | none => .no
section
variable {Γ : Γ} {Wx : WX} {X : Cx} {g : G} {h : HS} {H : Hp} {σ : L2.St} {o e f : Expr} {fo fe fx : Ex} {apos pos p : Pos}
theorem isD_of {a : Addr} {ks : List DK} {vs : List V} (d : DctR H a ks vs) : IsD H a := by
  rcases d with ⟨kvs, e, _⟩ | ⟨kvs, e, _⟩
  · exact .inl ⟨kvs, e⟩
  · exact .inr ⟨kvs, e⟩
theorem e_get2 (hu : X.A.units + 1 < cLine) (ho : PE X o (RDE Γ Wx fo)) (he : PE X e (RDE Γ Wx fe)) (hf : PE X f (RDE Γ Wx fx)) (m : M2 X o "get" apos e f pos) : PE X (.Call (.Attribute o "get" apos) [e, f] [] pos) (RDE Γ Wx (eGet2 fo fe fx)) := by
  refine ⟨fun pins s σ H Q I ⟨g, sl, h, hH, hS, q⟩ => ?_⟩
  refine wpAny_Call_method m.base m.few m.line PySem.F.plainAttrs_dict PySem.F.slot_dict_get PySem.F.type_dict_get (thn (ho.run pins s σ H _ I (RDE.step hH hS q)) fun u s1 ⟨x, H1, I1, rx, g1, h1, w1, l1, hH1, rw1, q1⟩ => ?_)
  cases ed : dview h1 w1 with
  | none => rw [ed] at q1; exact q1.elim
  | some kw =>
    obtain ⟨ks, ws⟩ := kw
    rw [ed] at q1
    obtain ⟨a, vs, ex, dr, _⟩ := dview_ok hH1 rw1 ed
    subst ex
    obtain rfl : u = Value.ref a := rx
    obtain ⟨t1, t2, _⟩ := isD_at I1 (isD_of dr)
    refine ⟨t1, t2, ?_⟩
    rw [m.trees]
    refine Calls.callWith_builtin rfl (Calls.evalArgs_plain (Calls.spliced_cons (thn (he.run pins s1 σ H1 _ I1 (RDE.step hH1 (SLk.mono l1 hS) q1)) fun iv s2 ⟨y, H2, I2, ry, g2, h2, w2, l2, hH2, rw2, q2⟩ =>
      Calls.spliced_cons (thn (hf.run pins s2 σ H2 _ I2 (RDE.step hH2 (SLk.mono (l1.trans l2) hS) q2)) fun fv s3 ⟨z, H3, I3, rz, g3, h3, w3, l3, hH3, rw3, q3⟩ => Calls.spliced_nil ?_))))
    cases eg : dget h3 w1 w2 with
    | none => rw [eg] at q3; exact q3.elim
    | some r =>
      rw [eg] at q3
      obtain ⟨a', ov, ea, dg, ro⟩ := dget_ok hH3 (RW.mono (l2.trans l3) _ _ rw1) (RW.mono l3 _ _ rw2) eg
      cases ea
      refine dg_get2 hu I3 dg ry rz fun w' s4 I4 rw' => ⟨_, H3, I4, rw', ?_⟩
      cases r with
      | none =>
        cases ov with
        | none => exact rz_now q3 hH3 rw3
        | some v => exact ro.elim
      | some w =>
        cases ov with
        | none => exact ro.elim
        | some v => exact rz_now q3 hH3 ro
end
end Pk
end

/-! PlF -/
section
set_option Elab.async false
set_option linter.all false
set_option maxRecDepth 100000
set_option maxHeartbeats 4000000
namespace Pk
open PySem PySem.Spec L2
section
variable {Γ : Γ} {Wx : WX} {X : Cx} {g : G} {h : HS} {H : Hp} {σ : L2.St} {o e f : Expr} {fo fe fx : Ex} {apos pos p cpos : Pos}
theorem e_get1 (hu : X.A.units + 1 < cLine) (ho : PE X o (RDE Γ Wx fo)) (he : PE X e (RDE Γ Wx fe)) (m : M1 X o "get" apos e pos) : PE X (.Call (.Attribute o "get" apos) [e] [] pos) (RDE Γ Wx (eGet1 fo fe)) := by
  refine ⟨fun pins s σ H Q I ⟨g, sl, h, hH, hS, q⟩ => ?_⟩
  refine wpAny_Call_method m.base m.few m.line PySem.F.plainAttrs_dict PySem.F.slot_dict_get PySem.F.type_dict_get (thn (ho.run pins s σ H _ I (RDE.step hH hS q)) fun u s1 ⟨x, H1, I1, rx, g1, h1, w1, l1, hH1, rw1, q1⟩ => ?_)
  cases ed : dview h1 w1 with
  | none => rw [ed] at q1; exact q1.elim
  | some kw =>
    obtain ⟨ks, ws⟩ := kw
    rw [ed] at q1
    obtain ⟨a, vs, ex, dr, _⟩ := dview_ok hH1 rw1 ed
    subst ex
    obtain rfl : u = Value.ref a := rx
    obtain ⟨t1, t2, _⟩ := isD_at I1 (isD_of dr)
    refine ⟨t1, t2, ?_⟩
    rw [m.trees]
    refine Calls.callWith_builtin rfl (Calls.evalArgs_plain (Calls.spliced_cons (thn (he.run pins s1 σ H1 _ I1 (RDE.step hH1 (SLk.mono l1 hS) q1)) fun iv s2 ⟨y, H2, I2, ry, g2, h2, w2, l2, hH2, rw2, q2⟩ =>
      Calls.spliced_nil ?_)))
    cases eg : dget h2 w1 w2 with
    | none => rw [eg] at q2; exact q2.elim
    | some r =>
      rw [eg] at q2
      obtain ⟨a', ov, ea, dg, ro⟩ := dget_ok hH2 (RW.mono l2 _ _ rw1) rw2 eg
      cases ea
      refine dg_get1 hu I2 dg ry fun w' s4 I4 rw' => ⟨_, H2, I4, rw', ?_⟩
      cases r with
      | none =>
        cases ov with
        | none => exact rz_now q2 hH2 mnon
        | some v => exact ro.elim
      | some w =>
        cases ov with
        | none => exact ro.elim
        | some v => exact rz_now q2 hH2 ro
theorem e_dnew (bx : Bool) : PE X (.Dict [] [] pos) (RDE Γ Wx (eDnew bx)) :=
  PE.imp pe_dnewK fun σ H Q ⟨g, sl, h, hH, hS, q⟩ => fun p hp => mkD_ok hH hp (.inl ⟨[], upd_same, rfl, rfl⟩) .nil q
/-- pairs' judgements -/
inductive DJ (Γ : Pk.Γ) (Wx : WX) (X : Cx) (pos : Pos) : List (Option Expr) → List Expr → List (Ex × Ex) → Prop where
  | nil : DJ Γ Wx X pos [] [] []
  | cons {k v : Expr} {fk fv : Ex} {ks : List (Option Expr)} {vs : List Expr} {r : List (Ex × Ex)} (hk : PE X k (RDE Γ Wx fk)) (hv : PE X v (RDE Γ Wx fv)) (hr : DJ Γ Wx X pos ks vs r) : DJ Γ Wx X pos (some k :: ks) (v :: vs) ((fk, fv) :: r)
theorem DJ.pps {ks : List (Option Expr)} {vs : List Expr} {r : List (Ex × Ex)} (h : DJ Γ Wx X pos ks vs r) : PPs X pos ks vs (r.map fun p => (RDE Γ Wx p.1, RDE Γ Wx p.2)) := by
  induction h with
  | nil => exact pps_nil
  | cons hk hv hr ih => exact pps_cons hk hv ih
def PrsV (K : PySem.W.Frag) (g : G) : List (Key × W) → List (V × V) → Prop
  | [], vs => vs = []
  | (k, w) :: r, vs => ∃ v vr, vs = (kV k, v) :: vr ∧ RW K g w v ∧ PrsV K g r vr
theorem PrsV.mono {K : PySem.W.Frag} {g g' : G} (l : g.le g') : ∀ {ps : List (Key × W)} {vs : List (V × V)}, PrsV K g ps vs → PrsV K g' ps vs
  | [], _, h => h
  | (k, w) :: r, _, ⟨v, vr, e, r1, r2⟩ => ⟨v, vr, e, RW.mono l _ _ r1, PrsV.mono l r2⟩
theorem kOf_flat {K : PySem.W.Frag} {g : G} {w : W} {v : V} {j : Key} (e : kOf w = some (.k j)) (r : RW K g w v) : v = kV j := by
  cases w with
  | int i => cases e; exact rint r
  | str i => cases e; exact rstr r
  | tup ws =>
    have e2 : (keysOf ws).map DK.t = some (.k j) := e
    cases q : keysOf ws with
    | none => rw [q] at e2; cases e2
    | some l => rw [q] at e2; cases e2
  | _ => cases e
theorem Rz.w0 {α β : Type} {Rl : G → α → β → Prop} {r : R α} {Q : β → Hp → Prop} (x : Rz Γ W0 Rl g r σ Q) : Rz Γ Wx Rl g r σ Q := by
  cases r with
  | ok w h => exact x
  | exc c h => exact fun g' H' l y => (x g' H' l y).elim
  | no => exact x
theorem prs_rd {α β : Type} {Rl : G → α → β → Prop} {σ : L2.St} {Q : β → Hp → Prop} {sl : Sl} {RR : List (V × V) → Hp → Prop} {g0 : G} : ∀ {prs : List (Ex × Ex)} {g : G} {h : HS} {H : Hp} {k : List (Key × W) → HS → R α}, RH Γ g h H → SLk Γ g sl σ → Rz Γ Wx Rl g0 ((prsM prs sl h).bind k) σ Q →
    (∀ g' h' H' ps vs, g.le g' → RH Γ g' h' H' → PrsV Γ.K g' ps vs → Rz Γ Wx Rl g0 (k ps h') σ Q → RR vs H') → tPairs (prs.map fun p => (RDE Γ Wx p.1, RDE Γ Wx p.2)) σ H RR
  | [], g, h, H, k, hH, hS, q, fin => fin g h H [] [] (.refl g) hH rfl q
  | (fk, fv) :: r, g, h, H, k, hH, hS, q, fin => by
    have bb : ∀ {α β γ : Type} (r : Pk.R α) (k : α → HS → Pk.R β) (k2 : β → HS → Pk.R γ), (r.bind k).bind k2 = r.bind fun a h => (k a h).bind k2 := fun r k k2 => by cases r <;> rfl
    unfold prsM at q
    rw [bb] at q
    refine ⟨g, sl, h, hH, hS, Rz.w0 (Rz.mono (fun v1 H1 ⟨g1, h1, w1, l1, hH1, r1, q1⟩ => ?_) (rz_noX σ g q))⟩
    rw [bb] at q1
    refine ⟨g1, sl, h1, hH1, SLk.mono l1 hS, Rz.w0 (Rz.mono (fun v2 H2 ⟨g2, h2, w2, l2, hH2, r2, q2⟩ => ?_) (rz_noX σ g1 q1))⟩
    split at q2
    · rename_i j ej
      rw [bb] at q2
      have ev := kOf_flat ej (RW.mono l2 _ _ r1)
      refine prs_rd (k := fun ps h3 => k ((j, w2) :: ps) h3) hH2 (SLk.mono (l1.trans l2) hS) q2 fun g' h' H' ps vs l3 hH3 pv q3 => ?_
      exact fin g' h' H' ((j, w2) :: ps) ((v1, v2) :: vs) (l1.trans (l2.trans l3)) hH3 ⟨v2, vs, by rw [ev], RW.mono l3 _ _ r2, pv⟩ q3
    · exact q2.elim
theorem merge_ok {K : PySem.W.Frag} {g : G} : ∀ {ps : List (Key × W)} {vs : List (V × V)} {kvs : List (Key × V)} {kw : List DK × List W}, PrsV K g ps vs → kw.1 = kvs.map (fun p => DK.k p.1) → RWs K g kw.2 (kvs.map (·.2)) →
    ∃ more : List (Key × V), vs = more.map (fun kv => (kV kv.1, kv.2)) ∧ more.length = ps.length ∧ (mergeP ps kw).1 = (mergeK kvs more).map (fun p => DK.k p.1) ∧ RWs K g (mergeP ps kw).2 ((mergeK kvs more).map (·.2))
  | [], vs, kvs, kw, pv, e1, e2 => by
    have pv : vs = [] := pv
    subst pv
    exact ⟨[], rfl, rfl, e1, e2⟩
  | (k, w) :: r, vs, kvs, kw, ⟨v, vr, e, r1, pv⟩, e1, e2 => by
    subst e
    obtain ⟨kk, kws⟩ := kw
    have e1 : kk = kvs.map (fun p => DK.k p.1) := e1
    subst e1
    obtain ⟨p1, p2⟩ := putK_put (v := v) kinj r1 (j := k) (ws := kws) e2
    have p1 : (putP (kvs.map (fun p => DK.k p.1), kws) (.k k) w).1 = (putK kvs k v).map (fun p => DK.k p.1) := p1
    have p2 : RWs K g (putP (kvs.map (fun p => DK.k p.1), kws) (.k k) w).2 ((putK kvs k v).map (·.2)) := p2
    obtain ⟨more, m1, m2, m3, m4⟩ := merge_ok (kvs := putK kvs k v) (kw := putP (kvs.map (fun p => DK.k p.1), kws) (.k k) w) pv p1 p2
    exact ⟨(k, v) :: more, by rw [m1]; rfl, by simp [m2], m3, m4⟩
theorem e_disp (bx : Bool) {keys : List (Option Expr)} {values : List Expr} {prs : List (Ex × Ex)} (hp : DJ Γ Wx X pos keys values prs) (hall : keys.all (·.isSome) = true := by rfl) (hl : keys.length = values.length := by rfl) (h0 : keys ≠ [] := by simp) (h15 : keys.length ≤ 15 := by decide) : PE X (.Dict keys values pos) (RDE Γ Wx (eDisp bx prs)) := by
  refine PE.imp (pe_disp hp.pps hall hl h0 h15) fun σ H Q ⟨g, sl, h, hH, hS, q⟩ => ?_
  intro p hpn
  have nD := hH.noHid hpn
  obtain ⟨l0, y0, z0⟩ := hH.hide hpn (o := .dK []) trivial
  refine prs_rd y0 (SLk.mono l0 hS) q fun g' h' H' ps vs l1 y1 pv q1 => ?_
  have z1 : g'.hid p = some (.dK []) := l1.hid _ _ z0
  refine ⟨(y1.hd p _ z1).1, ?_⟩
  by_cases hz : ps.length ≤ 15
  · rw [if_pos hz] at q1
    obtain ⟨more, e1, e2, e3, e4⟩ := merge_ok (kvs := []) (kw := ([], [])) pv rfl .nil
    refine ⟨more, e1, by omega, ?_⟩
    obtain ⟨y2, z2⟩ := y1.rehide z1 (o' := .dK (mergeK [] more)) trivial
    have l2 : g.le (g'.hide p (.dK (mergeK [] more))) := hide_le (l0.trans l1) nD
    have e5 : RWs Γ.K (g'.hide p (.dK (mergeK [] more))) (mergeP ps ([], [])).2 ((mergeK [] more).map (·.2)) := rws_hid (g := g') (by rfl) (by rfl) (by rfl) e4
    have dd : DctH (upd H' p (.dK (mergeK [] more))) p (mergeP ps ([], [])).1 ((mergeK [] more).map (·.2)) := .inl ⟨mergeK [] more, upd_same, e3, rfl⟩
    cases bx with
    | true =>
      obtain ⟨g2, l3, y3, r3⟩ := y2.showB (c := .dic (mergeP ps ([], [])).1 (mergeP ps ([], [])).2) z2 ⟨_, dd, e5⟩ l2 nD
      exact q1 g2 _ _ l3 y3 r3
    | false =>
      obtain ⟨g2, l3, y3, f3, _, m3⟩ := y2.show_ z2 l2 nD
      refine q1 g2 _ _ l3 y3 ?_
      unfold RW
      exact ⟨p, _, rfl, .inl ⟨_, f3, e3, rfl⟩, m3 _ _ e5⟩
  · rw [if_neg hz] at q1
    exact q1.elim
end
end Pk
end

/-! PlG -/
section
set_option Elab.async false
set_option linter.all false
set_option maxRecDepth 100000
set_option maxHeartbeats 4000000
namespace Pk
open PySem PySem.Spec L2
section
variable {Γ : Γ} {Wx : WX} {X : Cx} {g : G} {h : HS} {H : Hp} {σ : L2.St} {o e f : Expr} {fo fe fx : Ex} {apos pos p cpos : Pos}
theorem pairs_ok : ∀ {ws : List W} {ps : List (Key × W)} {vs : List V}, RH Γ g h H → pairsOf ws = some ps → RWs Γ.K g ws vs → ∃ (as : List Addr) (prs : List (V × V)) (kvs : List (Key × V)), vs = as.map V.ref ∧ PrsV Γ.K g ps (kvs.map fun kv => (kV kv.1, kv.2)) ∧ Paired (fun p kv => SqT Γ.K H p [kV kv.1, kv.2]) as kvs
  | [], ps, vs, hH, e, r => by
    cases e
    unfold RWs at r
    subst r
    exact ⟨[], [], [], rfl, rfl, .nil⟩
  | .tup [k, w] :: ws, ps, vs, hH, e, r => by
    have e' : (match kOf k, pairsOf ws with
      | some (.k j), some ps => some ((j, w) :: ps)
      | _, _ => none) = some ps := e
    unfold RWs at r
    obtain ⟨v, vr, rfl, r1, rs⟩ := r
    cases q1 : kOf k with
    | none => rw [q1] at e'; cases e'
    | some j =>
      cases q2 : pairsOf ws with
      | none => rw [q1, q2] at e'; cases j <;> cases e'
      | some ps' =>
        rw [q1, q2] at e'
        cases j with
        | t l => cases e'
        | k j =>
          cases e'
          obtain ⟨as, prs, kvs, z1, z2, z3⟩ := pairs_ok hH q2 rs
          obtain ⟨a, us, rfl, st, rs2⟩ := tup_ok hH r1
          obtain ⟨v1, v2, rfl, r2, r3⟩ := rws2 rs2
          have ev := kOf_flat q1 r2
          refine ⟨a :: as, [], (j, v2) :: kvs, by rw [z1]; rfl, ⟨v2, _, rfl, r3, z2⟩, .cons (by rw [← ev]; exact st) z3⟩
  | .tup [] :: ws, _, _, _, e, _ => by cases e
  | .tup [_] :: ws, _, _, _, e, _ => by cases e
  | .tup (_ :: _ :: _ :: _) :: ws, _, _, _, e, _ => by cases e
  | .non :: _, _, _, _, e, _ => by cases e
  | .bl _ :: _, _, _, _, e, _ => by cases e
  | .int _ :: _, _, _, _, e, _ => by cases e
  | .str _ :: _, _, _, _, e, _ => by cases e
  | .lst _ :: _, _, _, _, e, _ => by cases e
  | .dic _ _ :: _, _, _, _, e, _ => by cases e
  | .box _ :: _, _, _, _, e, _ => by cases e
  | .scr _ :: _, _, _, _, e, _ => by cases e
  | .kt _ :: _, _, _, _, e, _ => by cases e
  | .tx _ :: _, _, _, _, e, _ => by cases e
theorem c_dict (bx : Bool) (hK : X.K = Γ.K) (hc : X.calm = true) : CallS Γ Wx X (.type "dict") (m_dict bx) := by
  refine ⟨_, call_dictP hc, fun {g h H σ xs vs Q} hH r q => ?_⟩
  unfold m_dict at q
  split at q
  · obtain ⟨v, rfl, r1⟩ := rws1 r
    split at q
    · rename_i ws e1
      split at q
      · rename_i ps e2
        obtain ⟨a, us, rfl, s, rs⟩ := lview_ok hH r1 e1
        obtain ⟨as, _, kvs, rfl, pv, pd⟩ := pairs_ok hH e2 rs
        obtain ⟨more, z1, z2, z3, z4⟩ := merge_ok (kvs := []) (kw := ([], [])) pv rfl .nil
        have hm : kvs = more := by
          have inj : ∀ (l1 l2 : List (Key × V)), l1.map (fun kv => (kV kv.1, kv.2)) = l2.map (fun kv => (kV kv.1, kv.2)) → l1 = l2 := by
            intro l1
            induction l1 with
            | nil => intro l2 e; cases l2 with
              | nil => rfl
              | cons _ _ => cases e
            | cons p r ih =>
              intro l2 e
              cases l2 with
              | nil => cases e
              | cons p2 r2 =>
                simp only [List.map_cons, List.cons.injEq, Prod.mk.injEq] at e
                obtain ⟨⟨e1, e2⟩, e3⟩ := e
                obtain ⟨k1, v1⟩ := p
                obtain ⟨k2, v2⟩ := p2
                have : k1 = k2 := by
                  cases k1 <;> cases k2 <;> simp [kV] at e1 <;> first | rw [e1] | exact absurd e1 (by simp)
                rw [this, show v1 = v2 from e2, ih r2 e3]
          exact inj _ _ z1
        subst hm
        refine ⟨a, as, kvs, rfl, by rw [hK]; exact SqL.of s, by rw [hK]; exact pd, fun p hp => ?_⟩
        exact mkD_ok hH hp (.inl ⟨mergeK [] kvs, upd_same, z3, rfl⟩) z4 q
      · exact q.elim
    · exact q.elim
  · exact q.elim
/-- the heap has more -/
theorem RH.more {H1 : Hp} (x : RH Γ g h H) (e : ∀ b o, H b = some o → H1 b = some o) : RH Γ g h H1 := by
  refine ⟨fun a u q => ?_, x.nx, x.inj, fun n hn => ?_, fun n c q => ?_, x.tab.ext e, x.nt, fun a o q => ?_, fun a o q => ⟨e _ _ (x.lks a o q).1, (x.lks a o q).2⟩, x.lkc⟩
  · rcases x.fr a u q with z | ⟨d, o', z⟩
    · exact .inl (e _ _ z)
    · exact .inr ⟨d, o', e _ _ z⟩
  · obtain ⟨o, q, n⟩ := x.tr n hn
    exact ⟨o, e _ _ q, n⟩
  · obtain ⟨q1, q2, q3⟩ := x.cell n c q
    obtain ⟨o, e1, n1⟩ := q3.at
    exact ⟨q1, q2, q3.mono (.refl g) ((e _ _ e1).trans e1.symm)⟩
  · obtain ⟨h1, h2, h3, h4⟩ := x.hd a o q
    exact ⟨e _ _ h1, h2, h3, h4⟩
theorem paired_mem {α β : Type} {P P' : α → β → Prop} : ∀ {xs : List α} {ys : List β}, Paired P xs ys → (∀ x y, x ∈ xs → P x y → P' x y) → Paired P' xs ys
  | _, _, .nil, _ => .nil
  | _, _, .cons h t, f => .cons (f _ _ List.mem_cons_self h) (paired_mem t fun x y hx => f x y (List.mem_cons_of_mem _ hx))
theorem tups_frz {K : PySem.W.Frag} (hK : K = Γ.K) : ∀ {as : List Addr} {kvs : List (Key × V)} {ws : List W} {g : G}, RH Γ g h H → Paired (fun (t : Addr) (q : Key × V) => H t = some (.tup [kV q.1, q.2])) as kvs → RWs K g ws (kvs.map (·.2)) →
    ∃ g2, g.le g2 ∧ RH Γ g2 h H ∧ RWs K g2 (((kvs.map fun p => DK.k p.1).zip ws).map fun p => W.tup [dkW p.1, p.2]) (as.map V.ref)
  | [], [], ws, g, x, _, r => ⟨g, .refl g, x, .nil⟩
  | a :: as, (k, v) :: kvs, ws, g, x, pd, r => by
    cases pd with
    | cons pa pr =>
      cases ws with
      | nil => unfold RWs at r; cases r
      | cons w ws =>
        unfold RWs at r
        obtain ⟨v', vr, e, r1, rs⟩ := r
        cases e
        obtain ⟨g1, l1, y1, f1⟩ := x.extT pa
        obtain ⟨g2, l2, y2, r2⟩ := tups_frz hK y1 pr (RWs.mono l1 _ _ rs)
        refine ⟨g2, l1.trans l2, y2, .cons ?_ r2⟩
        unfold RW
        exact ⟨a, [kV k, v], rfl, l2.F _ _ f1, .cons (rw_pK k) (.cons (RW.mono (l1.trans l2) _ _ r1) .nil)⟩
theorem dview_flat {w : W} {v : V} {ks : List DK} {ws : List W} (x : RH Γ g h H) (hf : flatK ks = true) (r : RW Γ.K g w v) (e : dview h w = some (ks, ws)) : ∃ a kvs, v = .ref a ∧ Rd H a (.dK kvs) ∧ ks = kvs.map (fun p => DK.k p.1) ∧ RWs Γ.K g ws (kvs.map (·.2)) := by
  have key : ∀ {H0 : Hp} {a : Addr} {vs : List V}, (∃ kvs : List (Key × V), Rd H a (.dK kvs) ∧ ks = kvs.map (fun p => DK.k p.1) ∧ vs = kvs.map (·.2)) → RWs Γ.K g ws vs → ∃ kvs, Rd H a (.dK kvs) ∧ ks = kvs.map (fun p => DK.k p.1) ∧ RWs Γ.K g ws (kvs.map (·.2)) := fun ⟨kvs, e1, e2, e3⟩ r => ⟨kvs, e1, e2, by rw [← e3]; exact r⟩
  cases w with
  | box n =>
    unfold RW at r
    obtain ⟨hn, rfl⟩ := r
    have e0 : (match h.at_ n with
      | some (.dic ks ws) => some (ks, ws)
      | some (.lck ks ws) => some (ks, ws)
      | _ => none) = some (ks, ws) := e
    cases ec : h.at_ n with
    | none => rw [ec] at e0; cases e0
    | some c =>
      rw [ec] at e0
      obtain ⟨_, _, ok⟩ := x.cell n _ ec
      cases c with
      | lst _ => cases e0
      | ins _ _ _ => cases e0
      | dic ks' ws' =>
        cases e0
        obtain ⟨vs, d, rs⟩ := ok
        rcases d with ⟨kvs, q, e2, e3⟩ | ⟨kvs, q, e2, e3⟩
        · exact ⟨_, kvs, rfl, .inl q, e2, by rw [← e3]; exact rs⟩
        · rw [e2.1] at hf; exact absurd (flat_kvs hf) e2.2
      | lck ks' ws' =>
        cases e0
        obtain ⟨vs, d, rs⟩ := ok
        rcases d with ⟨o, kvs, q, e2, e3⟩ | ⟨o, kvs, q, e2, e3⟩
        · exact ⟨_, kvs, rfl, .inr ⟨o, q⟩, e2, by rw [← e3]; exact rs⟩
        · rw [e2.1] at hf; exact absurd (flat_kvs hf) e2.2
  | dic ks' ws' =>
    cases e
    unfold RW at r
    obtain ⟨a, vs, rfl, d, rs⟩ := r
    rcases d with ⟨kvs, q, e2, e3⟩ | ⟨kvs, q, e2, e3⟩
    · exact ⟨_, kvs, rfl, (x.fr a _ q).imp id fun ⟨_, o, z⟩ => ⟨o, z⟩, e2, by rw [← e3]; exact rs⟩
    · rw [e2.1] at hf; exact absurd (flat_kvs hf) e2.2
  | _ => cases e
theorem itemsL_q {bx : Bool} {S : Addr} {as : List Addr} {kvs : List (Key × V)} {ws : List W} {H1 H' : Hp} {Q : VK} (k1 : ∀ b o, H1 b = some o → H' b = some o) (k2 : H1 S = none) (k4 : S ∉ as) (k5 : H' S = some (.lst (as.map V.ref))) (k6 : Paired (fun (t : Addr) (q : Key × V) => H' t = some (.tup [kV q.1, q.2])) as kvs)
    (hH1 : RH Γ g h H1) (rs : RWs Γ.K g ws (kvs.map (·.2))) (q1 : Rz Γ Wx (RW Γ.K) g (mkL bx (((kvs.map fun p => DK.k p.1).zip ws).map fun p => .tup [dkW p.1, p.2]) h) σ Q) : Q (.ref S) H' := by
  let H0 : Hp := fun b => if b = S then none else H' b
  have eH : H' = upd H0 S (.lst (as.map V.ref)) := by
    funext b
    by_cases hb : b = S
    · rw [hb, upd_same, k5]
    · rw [upd_ne hb]
      show H' b = if b = S then none else H' b
      rw [if_neg hb]
  have e0 : H0 S = none := if_pos rfl
  have y0 : RH Γ g h H0 := hH1.more fun b o e => by
    show (if b = S then none else H' b) = some o
    rw [if_neg (fun z => by rw [z, k2] at e; cases e)]
    exact k1 _ _ e
  have pd : Paired (fun (t : Addr) (q : Key × V) => H0 t = some (.tup [kV q.1, q.2])) as kvs := by
    refine paired_mem k6 fun t q ht hq => ?_
    show (if t = S then none else H' t) = _
    rw [if_neg (fun z => k4 (by rw [← z]; exact ht))]
    exact hq
  obtain ⟨g2, l2, y2, r2⟩ := tups_frz rfl y0 pd rs
  rw [eH]
  exact mkL_ok y2 e0 r2 (Rz.le l2 q1)
/-- list(d.items()), locked or not -/
theorem e_itemsL (bx : Bool) (hc : X.calm = true) (he : PE X e (RDE Γ Wx fe)) (hg : Gl X "list") (hm : X.mg "list" = none) (hv : bootBuiltins "list" = some (.type "list") := by decide +kernel) (hbase : attributeBase e "items" X.env (eval e X.env) = eval e X.env := by rfl) (hline : (apos.endLine == cpos.line) = true := by rfl)
    (hs : starEach [.Call (.Attribute e "items" apos) [] [] cpos] X.env = (false, eval (.Call (.Attribute e "items" apos) [] [] cpos) X.env) :: starEach [] X.env := by rfl) :
    PE X (.Call (.Name "list" p) [.Call (.Attribute e "items" apos) [] [] cpos] [] pos) (RDE Γ Wx (eItemsL bx fe)) := by
  refine ⟨fun pins s σ H Q I ⟨g, sl, h, hH, hS, q⟩ => ?_⟩
  refine wpAny_Call_Name_kw (ld_blt I hg hm hv ?_)
  refine PyProof.Rows.callWith_type1 ?_ hs rfl
  rw [hs]
  show wpAny _ _ (spliced ((false, eval (.Call (.Attribute e "items" apos) [] [] cpos) X.env) :: backTo pos (starEach [] X.env))) _ _ s
  refine Calls.spliced_cons ?_
  refine wpAny_Call_method (T := "dict") (id := "dict.items") hbase rfl hline F.plainAttrs_dict F.slot_dict_items F.type_dict_items (thn (he.run pins s σ H _ I (RDE.step hH hS q)) fun u s1 ⟨x, H1, I1, rx, g1, h1, w1, l1, hH1, rw1, q1⟩ => ?_)
  cases ed : dview h1 w1 with
  | none => rw [ed] at q1; exact q1.elim
  | some kw =>
    obtain ⟨ks, ws⟩ := kw
    rw [ed] at q1
    have q1 : Rz Γ Wx (RW Γ.K) g1 (if flatK ks then mkL bx ((ks.zip ws).map fun p => .tup [dkW p.1, p.2]) h1 else .no) σ Q := q1
    by_cases hf : flatK ks = true
    · rw [if_pos hf] at q1
      obtain ⟨d, kvs, ex, hd, ek, rs⟩ := dview_flat hH1 hf rw1 ed
      subst ex
      subst ek
      obtain rfl : u = Value.ref d := rx
      obtain ⟨hz, hs0, vs, kv, hdo⟩ := dk_rd I1.hok hd
      obtain ⟨ep, hat⟩ := hdo.dictAt
      have lk : kvs.length = vs.length := Paired.length kv
      have I2 : Inv X pins σ H1 { s1 with heap := s1.heap.push { cls := .type "dict_items", data := .fields #[.ref d] } } := I1.kept (t' := s1.toks) fun b ob q => Heap.get?_push_of_some _ q
      refine ⟨hdo.typeIs, hdo.mapOf.noDict, ?_⟩
      show wpAny _ _ (callWith cpos (.builtin "dict.items") [.ref d] [] []) _ X.xe s1
      refine method_meetsIn F.slot_dict_items F.entry_dict_items rfl (PySem.evalArgs_none ⟨rfl, hdo.typeIs, F.args_dict_items_1 _, _, meets_dict_items (mixKind X.prog X.w) d hs0, ⟨vs, hdo⟩, ?_⟩)
      refine Calls.spliced_nil ?_
      refine PySem.W.kdx_call (knd := mixKind X.prog X.w) (kvs := vs) (ep := ep) (I1.ok.hd hc) ⟨_, Heap.get?_push_size _ rfl, rfl, rfl⟩ (hat.push _) (by omega) fun h' tk acc c as hk hS2 hl hG hacc => ?_
      obtain ⟨H', k1, k2, k3, k4, k5, k6, J⟩ := LiI.items_laid (tk := tk) I2 hz kv hk hS2 hl hG hacc
      exact ⟨.ref _, H', J, rfl, itemsL_q k1 k2 k4 k5 k6 hH1 rs q1⟩
    · rw [if_neg hf] at q1
      exact q1.elim
end
end Pk
end

/-! PlH -/
section
set_option Elab.async false
set_option linter.all false
set_option maxRecDepth 100000
set_option maxHeartbeats 4000000
namespace Pk
open PySem PySem.Spec L2
def enumW (ws : List W) : List W := ws.zipIdx.map fun p => .tup [.int (p.2 : Nat), p.1]
def iEnum (fr : Ax) : Ix := fun sl h => (fr sl h).bind fun xs h1 => match xs with
  | [w] => (match lview h1 w with
    | some ws => .ok (enumW ws, keep w ws) h1
    | none => .no)
  | _ => .no
def zipW (xs ys : List W) : List W := (xs.zip ys).map fun p => .tup [p.1, p.2]
def tview : W → Option (List W)
  | .tup ws => some ws
  | .kt ws => some ws
  | _ => none
def iZip (fr : Ax) : Ix := fun sl h => (fr sl h).bind fun xs h1 => match xs with
  | [x, y] => (match lview h1 x, lview h1 y with
    | some a, some b => .ok (zipW a b, fun h => keep x a h && keep y b h) h1
    | _, _ => (match tview x, tview y with
      | some a, some b => .ok (zipW a b, fun _ => true) h1
      | _, _ => .no))
  | _ => .no
section
variable {Γ : Γ} {Wx : WX} {X : Cx} {g : G} {h : HS} {H : Hp} {σ : L2.St} {e e2 : Expr} {fr : Ax} {p pos tpos : Pos} {elts : List Expr} {kk : Nat}
theorem lview_keep {w : W} {v : V} {ws : List W} (hH : RH Γ g h H) (r : RW Γ.K g w v) (e : lview h w = some ws) : ∃ a, v = .ref a ∧ (∃ vs, H a = some (.lst vs) ∧ RWs Γ.K g ws vs) ∧ ∀ g' h' H', g.le g' → RH Γ g' h' H' → keep w ws h' = true → ∃ vs, H' a = some (.lst vs) ∧ RWs Γ.K g' ws vs := by
  obtain ⟨a, vs, ev, q, rs⟩ := lview_ok hH r e
  refine ⟨a, ev, ⟨vs, q, rs⟩, fun g' h' H' l y k => ?_⟩
  subst ev
  have r' := RW.mono l _ _ r
  have e' : lview h' w = some ws := by
    cases w with
    | lst us => exact e
    | box n =>
      unfold keep at k
      simp only at k
      show (match h'.at_ n with
        | some (.lst us) => some us
        | _ => none) = some ws
      split at k
      · rename_i us eu
        first
          | (rw [eu]; show some us = some ws; rw [beqWs_eq _ _ k])
          | (show some us = some ws; rw [beqWs_eq _ _ k])
      · cases k
    | _ => cases e
  obtain ⟨a2, vs2, ev2, q2, rs2⟩ := lview_ok y r' e'
  cases ev2
  exact ⟨vs2, q2, rs2⟩
theorem i_enum (hK : X.K = Γ.K) (hg : Gl X "enumerate") (hm : X.mg "enumerate" = none) (ha : PA X [e] (RDA Γ Wx fr)) (hs : starEach [e] X.env = [(false, eval e X.env)] := by rfl) :
    PI X (.Tuple elts kk tpos) (.Call (.Name "enumerate" p) [e] [] pos) (RDI Γ Wx (iEnum fr)) := by
  refine PI.imp (pi_enum hg hm ha hs) fun σ H R ⟨g, sl, h, hH, hS, q⟩ => ⟨g, sl, h, hH, hS, Rz.mono (fun v H1 ⟨g1, h1, w1, l1, hH1, r1, q1⟩ => ?_) (rzI_step q)⟩
  split at q1
  · split at q1
    · rename_i w ws e1
      obtain ⟨v1, rfl, r2⟩ := rws1 r1
      obtain ⟨a, rfl, ⟨vs, q2, rs⟩, st⟩ := lview_keep hH1 r2 e1
      refine ⟨a, vs, rfl, SqL.of q2, q1 g1 H1 _ (.refl _) hH1 ⟨fun g' h' H' i l y k hi => ?_, fun g' h' H' l y k => ?_⟩⟩
      · have hi' : i < ws.length := by unfold enumW at hi; simpa using hi
        obtain ⟨vs', q3, rs'⟩ := st g' h' H' l y k
        obtain ⟨v, hv, rv⟩ := rs'.get (List.getElem?_eq_getElem hi')
        refine ⟨⟨vs', v, SqL.of q3, hv⟩, fun x H'' ⟨T, x', ex, hT, eH, hx⟩ => ?_⟩
        subst ex; subst eH
        have e4 := hx vs' (SqL.of q3)
        rw [hv] at e4
        cases e4
        obtain ⟨l3, y3, z3⟩ := y.frz hT (.tup [.int (i : Nat), v])
        refine ⟨_, l3, y3, fun w2 hw => ?_⟩
        unfold enumW at hw
        rw [List.getElem?_map, List.getElem?_zipIdx, List.getElem?_eq_getElem hi'] at hw
        simp only [Option.map_some, Nat.zero_add, Option.some.injEq] at hw
        subst hw
        unfold RW
        exact ⟨T, _, rfl, z3, .cons (mint _) (.cons (RW.mono l3 _ _ rv) .nil)⟩
      · obtain ⟨vs', q3, rs'⟩ := st g' h' H' l y k
        exact ⟨vs', SqL.of q3, by rw [← rs'.len]; unfold enumW; simp⟩
    · exact q1.elim
  · exact q1.elim
theorem tview_ok {w : W} {v : V} {ws : List W} (hH : RH Γ g h H) (r : RW Γ.K g w v) (e : tview w = some ws) : ∃ a vs, v = .ref a ∧ SqT Γ.K H a vs ∧ RWs Γ.K g ws vs := by
  cases w with
  | tup us => cases e; exact tup_ok hH r
  | kt us => cases e; exact kt_ok hH r
  | _ => cases e
theorem zipW_get {xs ys : List W} {i : Nat} {w : W} (e : (zipW xs ys)[i]? = some w) : ∃ x y, xs[i]? = some x ∧ ys[i]? = some y ∧ w = .tup [x, y] := by
  unfold zipW at e
  rw [List.getElem?_map] at e
  cases q : (xs.zip ys)[i]? with
  | none => rw [q] at e; cases e
  | some p =>
    rw [q] at e
    cases e
    obtain ⟨x, y⟩ := p
    rw [List.getElem?_zip_eq_some] at q
    exact ⟨x, y, q.1, q.2, rfl⟩
theorem zipW_lt {xs ys : List W} {i : Nat} (hi : i < (zipW xs ys).length) : i < xs.length ∧ i < ys.length := by
  unfold zipW at hi
  rw [List.length_map, List.length_zip] at hi
  omega
theorem zipW_ge {xs ys : List W} : xs.length ≤ (zipW xs ys).length ∨ ys.length ≤ (zipW xs ys).length := by
  unfold zipW
  rw [List.length_map, List.length_zip]
  omega
theorem i_zip (hK : X.K = Γ.K) (hg : Gl X "zip") (hm : X.mg "zip" = none) (ha : PA X [e, e2] (RDA Γ Wx fr)) (hs : starEach [e, e2] X.env = (false, eval e X.env) :: starEach [e2] X.env := by rfl) (hpl : (backTo pos (starEach [e2] X.env)).any (·.1) = false := by rfl) :
    PI X (.Tuple elts kk tpos) (.Call (.Name "zip" p) [e, e2] [] pos) (RDI Γ Wx (iZip fr)) := by
  refine PI.imp (RZ.pi_zipA hg hm ha hs hpl) fun σ H R ⟨g, sl, h, hH, hS, q⟩ => ⟨g, sl, h, hH, hS, Rz.mono (fun v H1 ⟨g1, h1, w1, l1, hH1, r1, q1⟩ => ?_) (rzI_step q)⟩
  split at q1
  · obtain ⟨v1, v2, rfl, r2, r3⟩ := rws2 r1
    split at q1
    · rename_i x y a b e1 e2
      obtain ⟨A1, rfl, ⟨vs, q2, rs⟩, st⟩ := lview_keep hH1 r2 e1
      obtain ⟨A2, rfl, ⟨vs2, q3, rs2⟩, st2⟩ := lview_keep hH1 r3 e2
      refine ⟨A1, A2, vs, vs2, rfl, .inl ⟨SqL.of q2, SqL.of q3, q1 g1 H1 _ (.refl _) hH1 ⟨fun g' h' H' i l y k hi => ?_, fun g' h' H' l y k => ?_⟩⟩⟩
      · obtain ⟨hi1, hi2⟩ := zipW_lt hi
        simp only [Bool.and_eq_true] at k
        obtain ⟨us, q4, rs4⟩ := st g' h' H' l y k.1
        obtain ⟨us2, q5, rs5⟩ := st2 g' h' H' l y k.2
        obtain ⟨v, hv, rv⟩ := rs4.get (List.getElem?_eq_getElem hi1)
        obtain ⟨v', hv', rv'⟩ := rs5.get (List.getElem?_eq_getElem hi2)
        refine ⟨⟨us, us2, v, v', SqL.of q4, SqL.of q5, hv, hv'⟩, fun x H'' ⟨T, x1, x2, ex, hT, eH, hx, hy⟩ => ?_⟩
        subst ex; subst eH
        have e6 := hx us (SqL.of q4)
        have e7 := hy us2 (SqL.of q5)
        rw [hv] at e6
        rw [hv'] at e7
        cases e6; cases e7
        obtain ⟨l3, y3, z3⟩ := y.frz hT (.tup [v, v'])
        refine ⟨_, l3, y3, fun w2 hw => ?_⟩
        obtain ⟨wx, wy, f1, f2, rfl⟩ := zipW_get hw
        rw [List.getElem?_eq_getElem hi1] at f1
        rw [List.getElem?_eq_getElem hi2] at f2
        cases f1; cases f2
        unfold RW
        exact ⟨T, _, rfl, z3, .cons (RW.mono l3 _ _ rv) (.cons (RW.mono l3 _ _ rv') .nil)⟩
      · simp only [Bool.and_eq_true] at k
        obtain ⟨us, q4, rs4⟩ := st g' h' H' l y k.1
        obtain ⟨us2, q5, rs5⟩ := st2 g' h' H' l y k.2
        exact ⟨us, us2, SqL.of q4, SqL.of q5, by rw [← rs4.len, ← rs5.len]; exact zipW_ge⟩
    · split at q1
      · rename_i x y _ a b e1 e2
        obtain ⟨A1, vs, rfl, q2, rs⟩ := tview_ok hH1 r2 e1
        obtain ⟨A2, vs2, rfl, q3, rs2⟩ := tview_ok hH1 r3 e2
        refine ⟨A1, A2, vs, vs2, rfl, .inr ⟨by rw [hK]; exact q2, by rw [hK]; exact q3, q1 g1 H1 _ (.refl _) hH1 ⟨fun g' h' H' i l y k hi => ?_, fun g' h' H' l y k => ?_⟩⟩⟩
        · obtain ⟨hi1, hi2⟩ := zipW_lt hi
          obtain ⟨_, us, ee, q4, rs4⟩ := tview_ok y (RW.mono l _ _ r2) e1
          cases ee
          obtain ⟨_, us2, ee, q5, rs5⟩ := tview_ok y (RW.mono l _ _ r3) e2
          cases ee
          obtain ⟨v, hv, rv⟩ := rs4.get (List.getElem?_eq_getElem hi1)
          obtain ⟨v', hv', rv'⟩ := rs5.get (List.getElem?_eq_getElem hi2)
          refine ⟨⟨us, us2, v, v', by rw [hK]; exact q4, by rw [hK]; exact q5, hv, hv'⟩, fun x H'' ⟨T, x1, x2, ex, hT, eH, hx, hy⟩ => ?_⟩
          subst ex; subst eH
          have e6 := hx us (by rw [hK]; exact q4)
          have e7 := hy us2 (by rw [hK]; exact q5)
          rw [hv] at e6
          rw [hv'] at e7
          cases e6; cases e7
          obtain ⟨l3, y3, z3⟩ := y.frz hT (.tup [v, v'])
          refine ⟨_, l3, y3, fun w2 hw => ?_⟩
          obtain ⟨wx, wy, f1, f2, rfl⟩ := zipW_get hw
          rw [List.getElem?_eq_getElem hi1] at f1
          rw [List.getElem?_eq_getElem hi2] at f2
          cases f1; cases f2
          unfold RW
          exact ⟨T, _, rfl, z3, .cons (RW.mono l3 _ _ rv) (.cons (RW.mono l3 _ _ rv') .nil)⟩
        · obtain ⟨_, us, ee, q4, rs4⟩ := tview_ok y (RW.mono l _ _ r2) e1
          cases ee
          obtain ⟨_, us2, ee, q5, rs5⟩ := tview_ok y (RW.mono l _ _ r3) e2
          cases ee
          exact ⟨us, us2, by rw [hK]; exact q4, by rw [hK]; exact q5, by rw [← rs4.len, ← rs5.len]; exact zipW_ge⟩
      · exact q1.elim
  · exact q1.elim
end
end Pk
end

/-! PlI -/
section
set_option Elab.async false
set_option linter.all false
set_option maxRecDepth 100000
set_option maxHeartbeats 4000000
namespace Pk
open PySem PySem.Spec L2
/-! tuples of texts whose methods are called: t.index(x), x in t -/
def eTx (fr : Ax) : Ex := fun sl h => (fr sl h).bind fun ws h1 => match strsOf ws with
  | some ys => if ys.length ≤ sizeLine then .ok (.tx ys) h1 else .no
  | none => .no
def txIx (ys : List Str) (y : W) (h : HS) : R W := match y with
  | .str z => (match ixOf z ys with
    | some j => .ok (.int (j : Nat)) h
    | none => .no)
  | _ => .no
def eTxIx (fo fe : Ex) : Ex := fun sl h => (fo sl h).bind fun x h1 => match x with
  | .tx ys => (fe sl h1).bind fun y h2 => txIx ys y h2
  | _ => .no
def wInX (x y : W) (h : HS) : R W := match x, y with
  | .str z, .tx ys => .ok (.bl (inV (.str z) (ys.map V.str))) h
  | _, _ => .no
def wNotInX (x y : W) (h : HS) : R W := match x, y with
  | .str z, .tx ys => .ok (.bl (!inV (.str z) (ys.map V.str))) h
  | _, _ => .no
/-! tuple(range(..)), list(range(..)) -/
def rgArgs : List W → Option (Int × Int × Int)
  | [.int j] => some (0, j, 1)
  | [.int i, .int j] => some (i, j, 1)
  | [.int i, .int j, .int c] => some (i, j, c)
  | _ => none
def eTupR (fr : Ax) : Ex := fun sl h => (fr sl h).bind fun ws h1 => match ws with
  | [.int i, .int j, .int c] => if (rgOk i j c && decide (rgN i j c ≤ 2 ^ 24)) = true then .ok (.tup (rItems i c (rgN i j c))) h1 else .no
  | _ => .no
section
variable {Γ : Γ} {Wx : WX} {X : Cx} {g : G} {h : HS} {H : Hp} {σ : L2.St} {o e a b c : Expr} {fo fe : Ex} {fr : Ax} {p p2 pos pos2 apos : Pos}
theorem tx_at {X : Cx} {pins : List (Addr × Obj)} {s : Shared} {ys : List Str} {p : Addr} (I : Inv X pins σ H s) (e : H p = some (TxO p ys)) : ∃ (ob : Obj) (n : Nat) (its : Array Value), s.heap.get? p = some ob ∧ ob.cls = .type "tuple" ∧ ob.dict = none ∧ ob.data = .seq its n ∧ L2.Vals (ys.map V.str) its.toList := by
  obtain ⟨z, _, _⟩ := (show ObjOk X.prog X.w H s.heap p (TxO p ys) from I.hok p _ e)
  exact z
theorem e_tx {x1} {es : List Expr} (ha : PA X es (RDA Γ Wx fr)) : PE X (.Tuple es x1 pos) (RDE Γ Wx (eTx fr)) := by
  refine ⟨fun pins s σ H Q I ⟨g, sl, h, hH, hS, q⟩ => ?_⟩
  refine wpAny_Tuple_spliced (thn (ha.run pos pins s σ H _ I (RDA.step hH hS q)) fun us s1 ⟨xs, H1, I1, r, g1, h1, w1, l1, hH1, r1, q1⟩ => ?_)
  split at q1
  · rename_i ys e1
    split at q1
    · rename_i hz
      have ev := strs_ok e1 r1
      subst ev
      have hl : us.length = ys.length := by rw [← r.length, List.length_map]
      refine ⟨by omega, ?_⟩
      have hf : H1 s1.heap.objs.size = none := I1.hok.fresh (Nat.le_refl _)
      have hgt : (s1.heap.push { cls := .type "tuple", data := .seq us.toArray }).get? s1.heap.objs.size = some { cls := .type "tuple", data := .seq us.toArray } := Heap.get?_push_size _ rfl
      obtain ⟨l2, y2, f2⟩ := hH1.frz hf (TxO s1.heap.objs.size ys)
      refine ⟨.ref s1.heap.objs.size, upd H1 s1.heap.objs.size (TxO s1.heap.objs.size ys), I1.laid (t' := s1.toks) (fun b u e => Heap.get?_push_of_some _ e) (Nat.le_refl _) ?_, rfl, q1 _ _ _ l2 y2 ?_⟩
      · exact ⟨⟨_, _, _, hgt, rfl, rfl, rfl, by simpa using r⟩, ⟨_, hgt⟩, fun h1 h2 ⟨o, n, its, a1, a2⟩ k => ⟨o, n, its, k _ a1, a2⟩⟩
      · unfold RW
        exact ⟨_, rfl, f2⟩
    · exact q1.elim
  · exact q1.elim
theorem o_inX : OpS Γ Wx X (compareOp .In) wInX := by
  refine ⟨fun x y H Q => ∃ (p : Addr) (z : Str) (ys : List Str), x = .str z ∧ y = .ref p ∧ H p = some (TxO p ys) ∧ Q (.bl (inV (.str z) (ys.map V.str))) H, ?_, fun {g h H σ x y vx vy Q} hH rx ry q => ?_⟩
  · rintro pins s σ H x y v u Q I rx ry ⟨p, z, ys, rfl, rfl, e, q⟩
    cases ry
    obtain ⟨ob, n, its, e1, e2, e3, e4, r⟩ := tx_at I e
    have pl : PyProof.Rows.IsTup s.heap p its.toList.toArray := ⟨ob, e1, e2, n, by rw [Array.toArray_toList]; exact e4⟩
    refine SeqAt.in_tupleAt (eqU (.str z)) pl (fun w hw => mem_eqAt (x := .str z) rx rfl r (flat_strs ys) w (by simpa using hw)) ⟨.bl _, H, I, rfl, ?_⟩
    rw [show its.toList.toArray.any (eqU (.str z)) = its.toList.any (eqU (.str z)) by simp, any_eqU r (flat_strs ys)]
    exact q
  · unfold wInX at q
    split at q
    · obtain rfl := rstr rx
      unfold RW at ry
      obtain ⟨a, rfl, f⟩ := ry
      exact ⟨a, _, _, rfl, rfl, hH.atF f, rz_now q hH (mbl _)⟩
    · exact q.elim
theorem o_notInX : OpS Γ Wx X (compareOp .NotIn) wNotInX := by
  refine ⟨fun x y H Q => ∃ (p : Addr) (z : Str) (ys : List Str), x = .str z ∧ y = .ref p ∧ H p = some (TxO p ys) ∧ Q (.bl (!inV (.str z) (ys.map V.str))) H, ?_, fun {g h H σ x y vx vy Q} hH rx ry q => ?_⟩
  · rintro pins s σ H x y v u Q I rx ry ⟨p, z, ys, rfl, rfl, e, q⟩
    cases ry
    obtain ⟨ob, n, its, e1, e2, e3, e4, r⟩ := tx_at I e
    have pl : PyProof.Rows.IsTup s.heap p its.toList.toArray := ⟨ob, e1, e2, n, by rw [Array.toArray_toList]; exact e4⟩
    refine SeqAt.notIn_tupleAt (eqU (.str z)) pl (fun w hw => mem_eqAt (x := .str z) rx rfl r (flat_strs ys) w (by simpa using hw)) ⟨.bl _, H, I, rfl, ?_⟩
    rw [show its.toList.toArray.any (eqU (.str z)) = its.toList.any (eqU (.str z)) by simp, any_eqU r (flat_strs ys)]
    exact q
  · unfold wNotInX at q
    split at q
    · obtain rfl := rstr rx
      unfold RW at ry
      obtain ⟨a, rfl, f⟩ := ry
      exact ⟨a, _, _, rfl, rfl, hH.atF f, rz_now q hH (mbl _)⟩
    · exact q.elim
theorem strsAre_vals : ∀ {ys : List Str} {us : List Value}, L2.Vals (ys.map V.str) us → PyProof.Rows.StrsAre us ys
  | [], _, .nil => .nil
  | _ :: _, _, .cons ⟨t, e⟩ r => by
    subst e
    exact .cons _ t (strsAre_vals r)
theorem ixOf_idx {z : Str} : ∀ {ys : List Str} {j : Nat}, ixOf z ys = some j → z ∈ ys ∧ ys.idxOf z = j
  | [], j, e => by cases e
  | y :: ys, j, e => by
    unfold ixOf at e
    by_cases hy : y = z
    · rw [if_pos hy] at e
      cases e
      exact ⟨by rw [hy]; exact List.mem_cons_self, by rw [hy]; simp⟩
    · rw [if_neg hy] at e
      cases q : ixOf z ys with
      | none => rw [q] at e; cases e
      | some k =>
        rw [q] at e
        cases e
        obtain ⟨i1, i2⟩ := ixOf_idx q
        refine ⟨List.mem_cons_of_mem _ i1, ?_⟩
        rw [List.idxOf_cons]
        have : (y == z) = false := by simpa using hy
        rw [this, ← i2]
        simp
theorem e_txIx (hc : X.calm = true) (ho : PE X o (RDE Γ Wx fo)) (he : PE X e (RDE Γ Wx fe)) (m : M1 X o "index" apos e pos) : PE X (.Call (.Attribute o "index" apos) [e] [] pos) (RDE Γ Wx (eTxIx fo fe)) := by
  refine ⟨fun pins s σ H Q I ⟨g, sl, h, hH, hS, q⟩ => ?_⟩
  refine wpAny_Call_method m.base m.few m.line PySem.F.plainAttrs_tuple PySem.F.slot_tuple_index PySem.F.type_tuple_index (thn (ho.run pins s σ H _ I (RDE.step hH hS q)) fun u s1 ⟨x, H1, I1, rx, g1, h1, w1, l1, hH1, rw1, q1⟩ => ?_)
  cases w1 with
  | tx ys =>
    unfold RW at rw1
    obtain ⟨A, ex, f⟩ := rw1
    subst ex
    obtain rfl : u = Value.ref A := rx
    obtain ⟨ob, n, its, e1, e2, e3, e4, r⟩ := tx_at I1 (hH1.atF f)
    refine ⟨⟨ob, e1, e2⟩, fun b hb => by cases hb; exact ⟨ob, e1, e3⟩, ?_⟩
    rw [m.trees]
    refine Calls.callWith_builtin rfl (Calls.evalArgs_plain (Calls.spliced_cons (thn (he.run pins s1 σ H1 _ I1 (RDE.step hH1 (SLk.mono l1 hS) q1)) fun iv s2 ⟨y, H2, I2, ry, g2, h2, w2, l2, hH2, rw2, q2⟩ => Calls.spliced_nil ?_)))
    cases w2 with
    | str z =>
      obtain rfl := rstr rw2
      obtain ⟨t, rfl⟩ := (show ∃ t, iv = Value.str z t from ry)
      have q2 : Rz Γ Wx (RW Γ.K) g2 (match ixOf z ys with
        | some j => .ok (.int (j : Nat)) h2
        | none => .no) σ Q := q2
      cases ei : ixOf z ys with
      | none => rw [ei] at q2; exact q2.elim
      | some j =>
        rw [ei] at q2
        obtain ⟨i1, i2⟩ := ixOf_idx ei
        obtain ⟨ob, n, its, e1, e2, e3, e4, r⟩ := tx_at I2 (hH2.atF (l2.F _ _ f))
        have pl : PyProof.Rows.IsTup s2.heap A its := ⟨ob, e1, e2, n, e4⟩
        refine PySem.W.kix_tupS (items := its) pl (strsAre_vals r) (I2.ok.hd hc) (fun _ => ?_) fun hn => absurd i1 hn
        rw [i2]
        exact ⟨.int (j : Nat), H2, I2.tok _, ⟨_, rfl⟩, rz_now q2 hH2 (mint _)⟩
    | _ => exact q2.elim
  | _ => exact q1.elim
theorem e_tupR3 (hc : X.calm = true) (hg : Gl X "tuple") (hm : X.mg "tuple" = none) (hg2 : Gl X "range") (hm2 : X.mg "range" = none) (ha : PA X [a, b, c] (RDA Γ Wx fr))
    (hs : starEach [a, b, c] X.env = (false, eval a X.env) :: starEach [b, c] X.env := by rfl) (hpl : (backTo pos2 (starEach [b, c] X.env)).any (·.1) = false := by rfl)
    (hs2 : starEach [.Call (.Name "range" p2) [a, b, c] [] pos2] X.env = (false, eval (.Call (.Name "range" p2) [a, b, c] [] pos2) X.env) :: starEach [] X.env := by rfl) :
    PE X (.Call (.Name "tuple" p) [.Call (.Name "range" p2) [a, b, c] [] pos2] [] pos) (RDE Γ Wx (eTupR fr)) := by
  refine ⟨fun pins s σ H Q I ⟨g, sl, h, hH, hS, q⟩ => ?_⟩
  refine wpAny_Call_Name_kw (ld_blt I hg hm PyProof.Rows.boot_tuple ?_)
  refine PyProof.Rows.callWith_type1 ?_ hs2 rfl
  rw [hs2]
  show wpAny _ _ (spliced ((false, eval (.Call (.Name "range" p2) [a, b, c] [] pos2) X.env) :: backTo pos (starEach [] X.env))) _ _ s
  refine Calls.spliced_cons ?_
  refine PyProof.Rows.Call_ (ld_blt I hg2 hm2 PyProof.Rows.boot_range (PyProof.Rows.callWith_type1 (thn (ha.run pos2 pins s σ H _ I (RDA.step hH hS q)) fun us s1 ⟨vs, H1, I1, r1, g1, h1, w1, l1, hH1, rw1, q1⟩ => ?_) hs hpl))
  split at q1
  · split at q1
    · rename_i i j k hb
      simp only [Bool.and_eq_true, decide_eq_true_eq] at hb
      obtain ⟨v1, v2, v3, rfl, r2, r3, r4⟩ := rws3 rw1
      cases rint r2; cases rint r3; cases rint r4
      obtain ⟨c0, c1, c2, c3⟩ := rgOk_ok hb.1
      cases r1 with
      | cons r rr =>
        cases rr with
        | cons r' rr =>
          cases rr with
          | cons r'' rr =>
            cases rr
            obtain ⟨t, rfl⟩ := r
            obtain ⟨t', rfl⟩ := r'
            obtain ⟨t'', rfl⟩ := r''
            refine PySem.call_range_3 c0 ?_ (.inl (PyProof.noPylong_small c1))
            refine Calls.spliced_nil ?_
            have I2 : Inv X pins σ H1 { s1 with heap := s1.heap.push { cls := .type "range", data := .fields #[.int i t, .int j t', .int k t''] } } := I1.kept (t' := s1.toks) fun b o e => Heap.get?_push_of_some _ e
            refine call_tuple_range (n := rgN i j k) (I2.ok.hd hc) (IsRange.new ..) c2 c3 hb.2 fun h' tk acc hk hi => ?_
            have I3 : Inv X pins σ H1 { s1 with heap := h', toks := tk } := I2.kept hk
            have hl : acc.toList.length = rgN i j k := by rw [Array.length_toList]; exact hi.1
            have rv : L2.Vals ((List.range (rgN i j k)).map fun (n : Nat) => V.int (i + (n : Int) * k)) acc.toList := by
              rw [← hl]
              refine vals_of_get acc.toList _ fun j u hj => ?_
              obtain ⟨t, rfl⟩ := hi.2 j u (by rw [← hj, Array.getElem?_toList])
              exact ⟨t, rfl⟩
            refine ⟨.ref h'.objs.size, upd H1 h'.objs.size (.tup ((List.range (rgN i j k)).map fun (n : Nat) => V.int (i + (n : Int) * k))), I3.laid (t' := tk) (fun c o e => Heap.get?_push_of_some _ e) (Nat.le_refl _) (show ObjOk X.prog X.w _ _ _ (.tup _) from ⟨?_, acc.toList, rv, ?_⟩), rfl, mkT_ok hH1 (I3.hok.fresh (Nat.le_refl _)) ?_ q1⟩
            · rw [List.length_map, List.length_range]
              have : (2 : Nat) ^ 24 ≤ sizeLine := by decide
              omega
            · rw [Array.toArray_toList]; exact PyProof.Rows.IsTup.new _ _
            · unfold rItems
              have : ∀ (l : List Nat), RWs Γ.K g1 (l.map fun (n : Nat) => W.int (i + (n : Int) * k)) (l.map fun (n : Nat) => V.int (i + (n : Int) * k)) := by
                intro l
                induction l with
                | nil => exact .nil
                | cons x r ih => exact .cons (mint _) ih
              exact this _
    · exact q1.elim
  · exact q1.elim
end
end Pk
end

/-! PlJ -/
section
set_option Elab.async false
set_option linter.all false
set_option maxRecDepth 100000
set_option maxHeartbeats 4000000
namespace Pk
open PySem PySem.Spec L2
section
variable {Γ : Γ} {Wx : WX} {X : Cx} {P : Program} {w : World} {K : PySem.W.Frag} {mg : Str → Option Value} {base : Heap} {k n : Nat}
/-- a def by its body, with the defaults that it may have -/
theorem fnD_ok {x qual : Str} {params : Arguments} {body : List Stmt} {scope : Scope} {dvs : List V} {kws : List (Str × V)} {f : Addr} {fd : FuncData} {N ps : List Str} {b : Sx} (F : FunD K x qual params body scope dvs kws f fd) (S : FnScope N ps scope)
    (hn : n = ps.length) (hb : ∀ (cdv : Value) (A : Around) (outer : List Env) (s : Shared) (H : Hp) (E : XK), Room k (A.deeper (PyProof.Rows.envOfC qual scope s.heap.objs.size f cdv)) →
      Takes (cxOf (L2.CX P w) P w K mg base N qual scope f cdv A outer s H E) (fun c d _ H' => E c d H') → PSs (cxOf (L2.CX P w) P w K mg base N qual scope f cdv A outer s H E) body (RDS Γ (fun c d _ H' => E c d H') b)) :
    FnOk P w K mg base (L2.CX P w) (k + 1) f fd ps (spM Γ n (bodyM N.length b)) := by
  refine F.ok S (fun vs H Q E h => by rw [← hn]; exact h.1) fun cdv A outer s H vs Q E hr h => ?_
  obtain ⟨hl, g, h0, ws, hH, rs, q⟩ := h
  have tk : Takes (cxOf (L2.CX P w) P w K mg base N qual scope f cdv A outer s H E) (fun c d _ H' => E c d H') := takes_of rfl rfl rfl rfl
  refine ⟨_, hb cdv A outer s H E hr tk, g, _, h0, hH, slk_start (N := N) rs, ?_⟩
  unfold bodyM at q
  cases e : b (ws.map some ++ List.replicate (N.length - ws.length) none) h0 with
  | nx s1 h1 => rw [e] at q; exact fun g' σ' H' l a _ _ => q g' _ H' l a mnon
  | rt w1 h1 => rw [e] at q; exact q
  | exc c s1 h1 => rw [e] at q; exact fun g' σ' H' l a _ _ => q g' H' l a
  | bk s1 h1 => rw [e] at q; exact q.elim
  | ct s1 h1 => rw [e] at q; exact q.elim
  | no => rw [e] at q; exact q.elim
/-- an exception class of the run's own, below ValueError -/
structure ExcT (Γ : Pk.Γ) (mg : Str → Option Value) (x : Str) (k : Nat) : Prop where
  mg : mg x = some (.ref (Γ.cls k))
  ok : PySem.W.excIn Γ.K (Γ.cls k) He.veBase "ValueError.__new__" = true
  kp : PySem.W.keepIn Γ.K (.ref (Γ.cls k)) = true
  sub : PySem.W.subIn Γ.K (.ref (Γ.cls k)) (.type "BaseException") = some true
  ty : PySem.W.typeIn Γ.K (.ref (Γ.cls k)) = some (.type "type")
theorem s_raiseX {x m : Str} {j k : Nat} {p p2 pos rpos : Pos} (hK : X.K = Γ.K) (hc : X.calm = true) (tk : Takes X Wx) (T : ExcT Γ X.mg x k) (hg : Gl X x := by rfl) (hdb : (x == ("__debug__" : Str)) = false := by decide) :
    PS X (.Raise (some (.Call (.Name x p) [.Constant (.str m) j p2] [] pos)) none rpos) (RDS Γ Wx (sRaise k)) :=
  s_raise hc tk (pmk_own PySem.F.excBase_ValueError (by rw [hK]; exact T.ok) T.mg (by rw [hK]; exact T.kp) (raises_own (by rw [hK]; exact T.sub) (by rw [hK]; exact T.ty)) hg hdb)
/-- a global that is a number -/
theorem e_gint {x : Str} {i : Int} {pos : Pos} (hm : ∃ t, X.mg x = some (.int i t)) (hg : Gl X x := by rfl) (hd : (x == ("__debug__" : Str)) = false := by decide) : PE X (.Name x pos) (RDE Γ Wx (eC (.int i))) := by
  obtain ⟨t, hm⟩ := hm
  exact e_c (pe_glob hg hm (v := .int i) ⟨t, rfl⟩ hd) fun g => mint i
/-- a global that is a tuple of the module's own -/
theorem e_gtup {x : Str} {a : Addr} {ws : List W} {vs : List V} {pos : Pos} (hK : X.K = Γ.K) (hm : X.mg x = some (.ref a)) (ht : ∀ H, SqT Γ.K H a vs) (hr : ∀ g, RWs Γ.K g ws vs) (hg : Gl X x := by rfl) (hd : (x == ("__debug__" : Str)) = false := by decide) : PE X (.Name x pos) (RDE Γ Wx (eC (.kt ws))) :=
  e_c (pe_glob hg hm (v := .ref a) rfl hd) fun g => by
    unfold RW
    exact ⟨a, vs, rfl, ht _, hr g⟩
end
end Pk
end

/-! PlK -/
section
set_option Elab.async false
set_option linter.all false
set_option maxRecDepth 100000
set_option maxHeartbeats 4000000
namespace Pk
open PySem PySem.Spec L2
section
variable {Γ : Γ} {Wx : WX} {X : Cx} {P : Program} {w : World} {K : PySem.W.Frag} {mg : Str → Option Value} {base : Heap} {k n : Nat} {A : Around}
theorem hu1 (r : Room k A) : A.units + 1 < cLine := by have := r.un; omega
theorem hu64 (r : Room k A) : A.units + 64 < cLine := by have := r.un; omega
theorem gl_nil {ws : List W} {sl : Sl} {h : HS} {r : Sl × HS} (e : gNilx ws sl h = some r) : ws.length = 0 := by
  cases ws with
  | nil => rfl
  | cons _ _ => cases e
theorem gl_cons {t : Gx} {u : List W → Sl → HS → Option (Sl × HS)} {n : Nat} (hu : ∀ ws sl h r, u ws sl h = some r → ws.length = n) : ∀ ws sl h r, gConsx t u ws sl h = some r → ws.length = n + 1 := by
  intro ws sl h r e
  cases ws with
  | nil => cases e
  | cons w ws =>
    have e : (match t w sl h with
      | some (s, h1) => u ws s h1
      | none => none) = some r := e
    cases q : t w sl h with
    | none => rw [q] at e; cases e
    | some p => rw [q] at e; rw [List.length_cons, hu _ _ _ _ e]
theorem gl1 {a : Gx} : ∀ ws sl h r, gConsx a gNilx ws sl h = some r → ws.length = 1 := gl_cons fun _ _ _ _ => gl_nil
theorem gl2 {a b : Gx} : ∀ ws sl h r, gConsx a (gConsx b gNilx) ws sl h = some r → ws.length = 2 := gl_cons gl1
theorem gl3 {a b c : Gx} : ∀ ws sl h r, gConsx a (gConsx b (gConsx c gNilx)) ws sl h = some r → ws.length = 3 := gl_cons gl2
theorem gl4 {a b c d : Gx} : ∀ ws sl h r, gConsx a (gConsx b (gConsx c (gConsx d gNilx))) ws sl h = some r → ws.length = 4 := gl_cons gl3
def kAdd (x y : W) (h : HS) : R W := match x, y with
  | .int a, .int b => .ok (.int (a + b)) h
  | _, _ => .no
def kSub (x y : W) (h : HS) : R W := match x, y with
  | .int a, .int b => .ok (.int (a - b)) h
  | _, _ => .no
/-- a def whose code object is known (it holds a table: generator expressions, lambdas) -/
theorem fnC_ok {x qual : Str} {params : Arguments} {body : List Stmt} {scope : Scope} {dvs : List V} {kws : List (Str × V)} {f c : Addr} {fd : FuncData} {N ps : List Str} {b : Sx} (F : FunD K x qual params body scope dvs kws f fd) (hc : fd.code = .ref c) (S : FnScope N ps scope)
    (hn : n = ps.length) (hb : ∀ (A : Around) (outer : List Env) (s : Shared) (H : Hp) (E : XK), Room k (A.deeper (PyProof.Rows.envOfC qual scope s.heap.objs.size f (.ref c))) →
      Takes (cxOf (L2.CX P w) P w K mg base N qual scope f (.ref c) A outer s H E) (fun c d _ H' => E c d H') → PSs (cxOf (L2.CX P w) P w K mg base N qual scope f (.ref c) A outer s H E) body (RDS Γ (fun c d _ H' => E c d H') b)) :
    FnOk P w K mg base (L2.CX P w) (k + 1) f fd ps (spM Γ n (bodyM N.length b)) := by
  obtain ⟨oc, od, dV, kV, doc, pm, an, cdv, ct, osl, rfl, lk, hcd, _, _⟩ := F.ex
  have hc : cdv = .ref c := hc
  subst hc
  refine fn_of lk hcd S (fun vs H Q E h => by rw [← hn]; exact h.1) fun A outer s H vs Q E hr h => ?_
  obtain ⟨hl, g, h0, ws, hH, rs, q⟩ := h
  have tk : Takes (cxOf (L2.CX P w) P w K mg base N qual scope f (.ref c) A outer s H E) (fun c d _ H' => E c d H') := takes_of rfl rfl rfl rfl
  refine ⟨_, hb A outer s H E hr tk, g, _, h0, hH, slk_start (N := N) rs, ?_⟩
  unfold bodyM at q
  cases e : b (ws.map some ++ List.replicate (N.length - ws.length) none) h0 with
  | nx s1 h1 => rw [e] at q; exact fun g' σ' H' l a _ _ => q g' _ H' l a mnon
  | rt w1 h1 => rw [e] at q; exact q
  | exc c s1 h1 => rw [e] at q; exact fun g' σ' H' l a _ _ => q g' H' l a
  | bk s1 h1 => rw [e] at q; exact q.elim
  | ct s1 h1 => rw [e] at q; exact q.elim
  | no => rw [e] at q; exact q.elim
/-- a def's code object and table -/
structure TabT (Γ : Pk.Γ) (mg : Str → Option Value) (base : Heap) (qual q : Str) (fd : FuncData) (c P : Addr) : Prop where
  code : fd.code = .ref c
  tb : LamX.TabB base mg c P
  mem : (P, qual ++ ".<locals>." ++ q) ∈ Γ.tabs
  uni : ∀ p ∈ Γ.tabs, p.1 = P → p.2 = qual ++ ".<locals>." ++ q
/-- a def with defaults -/
structure DfT (K : PySem.W.Frag) (fd : FuncData) (ps : List Str) (dvs : List V) (dws : List W) (ds : List Value) : Prop where
  b : Binds K fd ps ds
  v : Vals dvs ds
  r : ∀ g, RWs K g dws dvs
/-- no call at no fuel -/
theorem fnZ {f : Addr} {fd : FuncData} {ps : List Str} {m : List W → HS → R W} (hm : ∀ ws h, m ws h = .no) (hn : n = ps.length) : FnOk P w K mg base (L2.CX P w) k f fd ps (spM Γ n m) := by
  refine ⟨fun vs H Q E h => by rw [← hn]; exact h.1, fun A outer s H args us vs Q E hr e0 hb r h => ?_⟩
  obtain ⟨_, g, h0, ws, _, _, q⟩ := h
  rw [hm] at q
  exact q.elim
end
end Pk
end

/-! PlL -/
section
set_option Elab.async false
set_option linter.all false
set_option maxRecDepth 100000
set_option maxHeartbeats 4000000
namespace Pk
open PySem PySem.Spec L2
/-- list(zip(a, b)) -/
def eZipL (bx : Bool) (fr : Ax) : Ex := fun sl h => (fr sl h).bind fun xs h1 => match xs with
  | [x, y] => match tview x, tview y with
    | some a, some b => mkL bx ((a.zip b).map fun p => .tup [p.1, p.2]) h1
    | _, _ => .no
  | _ => .no
end Pk
namespace Pk
open PySem PySem.Spec L2
section
variable {X : Cx}
theorem hlt {i : Nat} (h : Nat.blt i X.N.length = true) : ∀ (pins : List (Addr × Obj)) (s : Shared) (σ : L2.St) (H : Hp), Inv X pins σ H s → i < σ.length := fun _ _ _ _ I => by rw [I.len]; exact Nat.blt_eq ▸ h
theorem hlt2 {i j : Nat} (h : Nat.blt i X.N.length = true) (h2 : Nat.blt j X.N.length = true) : ∀ (pins : List (Addr × Obj)) (s : Shared) (σ : L2.St) (H : Hp), Inv X pins σ H s → i < σ.length ∧ j < σ.length := fun p s σ H I => ⟨hlt h p s σ H I, hlt h2 p s σ H I⟩
end
end Pk
namespace Pk
open PySem PySem.Spec L2
theorem TabT.has {Γ : Pk.Γ} {X : Cx} {mg : Str → Option Value} {base : Heap} {qual q : Str} {fd : FuncData} {c P : Addr} {k j : Nat} (T : TabT Γ mg base qual q fd c P) (hr : Room j X.A) (hj : k + 1 ≤ j) (hq : X.env.qual = qual ++ ".<locals>.") (hc : X.env.code = .ref c) (hm : X.mg = mg) (hb : X.base = base) : HasTab Γ X q k c P := by
  refine ⟨hr.mono hj, ?_, hc, ?_, ?_⟩
  · rw [hm, hb]; exact T.tb
  · rw [hq]; exact T.mem
  · rw [hq]; exact T.uni
end Pk
namespace Pk
open PySem PySem.Spec L2
section
variable {Γ : Pk.Γ} {X : Cx} {k : Nat}
theorem lam_nil : LamsOk Γ X k [] [] := trivial
theorem lam_cons {params : Arguments} {body : Expr} {scope : Scope} {m : Ex} {ls : List LamD} {ms : List Ex} (L : LamX.LamS X.env.scope scope)
    (body_ : ∀ (A : Around) (outer : List Env) (s : Shared) (H : Hp) (E : XK) (f c' : Addr), Room k (A.deeper (LamX.lamEnv X scope s.heap.objs.size f c')) → Takes (LamX.lamCx X A outer s H E scope f c') (fun c d _ H' => E c d H') → PE (LamX.lamCx X A outer s H E scope f c') body (RDE Γ (fun c d _ H' => E c d H') m))
    (hs : LamsOk Γ X k ls ms) (bind : ∀ (q : Str) (cl : List (Str × Addr)) (pm cv ctv : Value), bindArgs (PySem.W.kla_fn "<lambda>" q params body scope cl pm cv ctv) ⟨[], []⟩ = pure [] := by intro _ _ _ _ _; rfl) :
    LamsOk Γ X k ((params, body, scope) :: ls) (m :: ms) := ⟨⟨L, bind, body_⟩, hs⟩
end
end Pk
namespace Pk
open PySem PySem.Spec L2
section
variable {Γ : Pk.Γ} {Wx : WX} {X : Cx} {a b c : Expr} {pos : Pos}
theorem hlt3 {i j k : Nat} (h : Nat.blt i X.N.length = true) (h2 : Nat.blt j X.N.length = true) (h3 : Nat.blt k X.N.length = true) : ∀ (pins : List (Addr × Obj)) (s : Shared) (σ : L2.St) (H : Hp), Inv X pins σ H s → i < σ.length ∧ j < σ.length ∧ k < σ.length := fun p s σ H I => ⟨hlt h p s σ H I, hlt h2 p s σ H I, hlt h3 p s σ H I⟩
theorem s_par3 {x y z : Str} {px py pz pt : Pos} {kt k2 pt2} {fr : Ax} (i j k : Nat) (hc : X.calm = true) (hN : X.N.Nodup) (ha : PA X [a, b, c] (RDA Γ Wx fr))
    (hl : ∀ (pins : List (Addr × Obj)) (s : Shared) (σ : L2.St) (H : Hp), Inv X pins σ H s → i < σ.length ∧ j < σ.length ∧ k < σ.length)
    (hi : X.N[i]? = some x := by rfl) (hj : X.N[j]? = some y := by rfl) (hk : X.N[k]? = some z := by rfl) (hij : i ≠ j := by decide) (hik : i ≠ k := by decide) (hjk : j ≠ k := by decide)
    (hx : X.env.scope.names.lookup x = some .local := by rfl) (hy : X.env.scope.names.lookup y = some .local := by rfl) (hz : X.env.scope.names.lookup z = some .local := by rfl)
    (hw : swappedStores [.Tuple [.Name x px, .Name y py, .Name z pz] kt pt] (.Tuple [a, b, c] k2 pt2) X.env = pure (some [x, y, z]) := by rfl)
    (hs : swapsWithSole [.Tuple [.Name x px, .Name y py, .Name z pz] kt pt] (.Tuple [a, b, c] k2 pt2) pos.line X.env = pure false := by rfl) :
    PS X (.Assign [.Tuple [.Name x px, .Name y py, .Name z pz] kt pt] (.Tuple [a, b, c] k2 pt2) pos) (RDS Γ Wx (sPar3 i j k fr)) := by
  refine ⟨fun pins s σ H D I ⟨g, sl, h, hH, hS, q⟩ => (ps_par3 hc hN hi hj hk hij hik hjk hx hy hz ha hw hs).run pins s σ H D I ⟨g, sl, h, hH, hS, Rz.mono (fun v H1 ⟨g1, h1, w1, l1, hH1, r1, q1⟩ => ?_) (rz_st hS q)⟩⟩
  split at q1
  · obtain ⟨v1, v2, v3, rfl, r2, r3, r4⟩ := rws3 r1
    obtain ⟨l2, l3, l4⟩ := hl pins s σ H I
    exact ⟨v1, v2, v3, rfl, q1 g1 _ H1 (.refl _) hH1 ((((SLk.mono l1 hS).set r2 l2).set r3 (by rw [List.length_set]; exact l3)).set r4 (by rw [List.length_set, List.length_set]; exact l4)) (by rw [List.length_set, List.length_set, List.length_set])⟩
  · exact q1.elim
end
end Pk
end

/-! Qa -/
section
set_option Elab.async false
set_option linter.all false
set_option maxRecDepth 100000
set_option maxHeartbeats 4000000
/-! what a mirror does, told by what is wanted behind it -/
namespace Pk
open PySem PySem.Spec L2
def Wp {α : Type} (r : R α) (K : α → HS → Prop) (E : Nat → HS → Prop) : Prop := match r with
  | .ok a h => K a h
  | .exc c h => E c h
  | .no => False
def Ws (r : RS) (N : Sl → HS → Prop) (T : W → HS → Prop) (B C : Sl → HS → Prop) (E : Nat → HS → Prop) : Prop := match r with
  | .nx s h => N s h
  | .rt w h => T w h
  | .bk s h => B s h
  | .ct s h => C s h
  | .exc c _ h => E c h
  | .no => False
def Sz (n : Nat) (P : Prop) : Prop := n ≤ sizeLine ∧ P
theorem sizeLine_is : sizeLine = 16777216 := rfl
def NoE : Nat → HS → Prop := fun _ _ => False
def Is1 (xs : List W) (P : W → Prop) : Prop := ∃ a, xs = [a] ∧ P a
def Is2 (xs : List W) (P : W → W → Prop) : Prop := ∃ a b, xs = [a, b] ∧ P a b
def Is3 (xs : List W) (P : W → W → W → Prop) : Prop := ∃ a b c, xs = [a, b, c] ∧ P a b c
def IsI (w : W) (P : Int → Prop) : Prop := ∃ i, w = .int i ∧ P i
def IsS (w : W) (P : Str → Prop) : Prop := ∃ i, w = .str i ∧ P i
def SvI (h : HS) (w : W) (P : List W → Prop) : Prop := ∃ ws, sview h w = some ws ∧ P ws
def LvI (h : HS) (w : W) (P : List W → Prop) : Prop := ∃ ws, lview h w = some ws ∧ P ws
theorem is1 {P : W → Prop} {a : W} (p : P a) : Is1 [a] P := ⟨_, rfl, p⟩
theorem is2 {P : W → W → Prop} {a b : W} (p : P a b) : Is2 [a, b] P := ⟨_, _, rfl, p⟩
theorem is3 {P : W → W → W → Prop} {a b c : W} (p : P a b c) : Is3 [a, b, c] P := ⟨_, _, _, rfl, p⟩
theorem isI {P : Int → Prop} {a : Int} (p : P a) : IsI (.int a) P := ⟨_, rfl, p⟩
theorem isS {P : Str → Prop} {a : Str} (p : P a) : IsS (.str a) P := ⟨_, rfl, p⟩
theorem svL {h : HS} {P : List W → Prop} {ws : List W} (p : P ws) : SvI h (.lst ws) P := ⟨_, rfl, p⟩
theorem svT {h : HS} {P : List W → Prop} {ws : List W} (p : P ws) : SvI h (.tup ws) P := ⟨_, rfl, p⟩
theorem svK {h : HS} {P : List W → Prop} {ws : List W} (p : P ws) : SvI h (.kt ws) P := ⟨_, rfl, p⟩
theorem lvL {h : HS} {P : List W → Prop} {ws : List W} (p : P ws) : LvI h (.lst ws) P := ⟨_, rfl, p⟩
section
variable {α β : Type} {r : R α} {K : α → HS → Prop} {E : Nat → HS → Prop} {h h1 : HS} {sl s : Sl} {c : Nat} {w x y : W}
theorem eq_wp {r r0 : R α} (e : Wp r (fun a h => .ok a h = r0) (fun c h => .exc c h = r0)) : r = r0 := by
  cases r with
  | ok a h => exact e
  | exc c h => exact e
  | no => exact e.elim
theorem wp_eq {r r0 : R α} (e : r = r0) (p : Wp r0 K E) : Wp r K E := e ▸ p
theorem ws_eq {r r0 : RS} {N T B C} (e : r = r0) (p : Ws r0 N T B C E) : Ws r N T B C E := e ▸ p
theorem wp_ok {a : α} (p : K a h) : Wp (.ok a h) K E := p
theorem wp_exc (p : E c h) : Wp (.exc c h : R α) K E := p
theorem wp_bind {k : α → HS → R β} {K : β → HS → Prop} (p : Wp r (fun a h => Wp (k a h) K E) E) : Wp (r.bind k) K E := by
  cases r with
  | ok a h => exact p
  | exc c h => exact p
  | no => exact p.elim
theorem wp_mono {K' : α → HS → Prop} {E' : Nat → HS → Prop} (p : Wp r K E) (k : ∀ a h, K a h → K' a h) (e : ∀ c h, E c h → E' c h) : Wp r K' E' := by
  cases r with
  | ok a h => exact k _ _ p
  | exc c h => exact e _ _ p
  | no => exact p.elim
theorem wp_noX (p : Wp r K NoE) : Wp (noX r) K E := by
  cases r with
  | ok a h => exact p
  | exc c h => exact p.elim
  | no => exact p.elim
variable {N : Sl → HS → Prop} {T : W → HS → Prop} {B C : Sl → HS → Prop}
theorem ws_mono {r : RS} {N' : Sl → HS → Prop} {T' : W → HS → Prop} {B' C' : Sl → HS → Prop} {E' : Nat → HS → Prop} (p : Ws r N T B C E) (n : ∀ s h, N s h → N' s h) (t : ∀ w h, T w h → T' w h) (b : ∀ s h, B s h → B' s h) (cc : ∀ s h, C s h → C' s h) (e : ∀ c h, E c h → E' c h) : Ws r N' T' B' C' E' := by
  cases r with
  | nx s h => exact n _ _ p
  | rt w h => exact t _ _ p
  | bk s h => exact b _ _ p
  | ct s h => exact cc _ _ p
  | exc c s h => exact e _ _ p
  | no => exact p.elim
theorem ws_st {k : α → HS → RS} (p : Wp r (fun a h => Ws (k a h) N T B C E) E) : Ws (r.st s k) N T B C E := by
  cases r with
  | ok a h => exact p
  | exc c h => exact p
  | no => exact p.elim
theorem ws_then {r : RS} {k : Sl → HS → RS} (p : Ws r (fun s h => Ws (k s h) N T B C E) T B C E) : Ws (r.then k) N T B C E := by
  cases r with
  | nx s h => exact p
  | rt w h => exact p
  | bk s h => exact p
  | ct s h => exact p
  | exc c s h => exact p
  | no => exact p.elim
theorem ws_nx (p : N s h) : Ws (.nx s h) N T B C E := p
/-! heaps -/
@[simp] theorem put_at {c : Ct} {n m : Nat} : (h.put n c).at_ m = if m = n then some c else h.at_ m := rfl
@[simp] theorem put_nx {c : Ct} {n : Nat} : (h.put n c).nx = h.nx := rfl
@[simp] theorem new_at {c : Ct} {m : Nat} : (h.new c).at_ m = if m = h.nx then some c else h.at_ m := rfl
@[simp] theorem new_nx {c : Ct} : (h.new c).nx = h.nx + 1 := rfl
theorem HS.ext {h h1 : HS} (e : ∀ n, h.at_ n = h1.at_ n) (e2 : h.nx = h1.nx) : h = h1 := by
  cases h; cases h1; simp only [HS.mk.injEq] at *; exact ⟨funext e, e2⟩
@[simp] theorem put_put {c d : Ct} {n : Nat} : (h.put n c).put n d = h.put n d := HS.ext (fun m => by simp only [put_at]; split <;> rfl) rfl
/-! expressions -/
variable {fa fb fc : Ex} {m m' : W → W → HS → R W} {mu : W → HS → R W} {ta tb : Tx} {fr : Ax} {KW : W → HS → Prop} {KT : Bool → HS → Prop} {KA : List W → HS → Prop}
theorem wp_var {i : Nat} {w : W} (e : sl[i]? = some (some w)) (p : KW w h) : Wp (eVar i sl h) KW E := by unfold eVar; rw [e]; exact p
theorem wp_c (p : KW w h) : Wp (eC w sl h) KW E := p
theorem wp_bin (p : Wp (fa sl h) (fun x h1 => Wp (fb sl h1) (fun y h2 => Wp (m x y h2) KW E) E) E) : Wp (eBin m fa fb sl h) KW E := wp_bind (wp_mono p (fun _ _ q => wp_bind q) fun _ _ q => q)
theorem wp_un (p : Wp (fa sl h) (fun x h1 => Wp (mu x h1) KW E) E) : Wp (eUn mu fa sl h) KW E := wp_bind p
theorem wp_asB {b : Bool} (p : KT b h) : Wp (asB (.bl b) h) KT E := p
theorem wp_tval (p : Wp (fa sl h) (fun x h1 => Wp (asB x h1) KT E) E) : Wp (tVal fa sl h) KT E := wp_bind p
theorem wp_chain (p : Wp (fa sl h) (fun x h1 => Wp (fb sl h1) (fun y h2 => Wp (m x y h2) (fun z h3 => Wp (asB z h3) (fun k h3 => Wp (if k then (fc sl h3).bind fun w h4 => m' y w h4 else .ok (.bl false) h3) KW E) E) E) E) E) : Wp (eChain m m' fa fb fc sl h) KW E :=
  wp_bind (wp_mono p (fun _ _ q => wp_bind (wp_mono q (fun _ _ q => wp_bind (wp_mono q (fun _ _ q => wp_bind q) fun _ _ q => q)) fun _ _ q => q)) fun _ _ q => q)
theorem wp_tand (p : Wp (ta sl h) (fun k h1 => Wp (if k then tb sl h1 else .ok false h1) KT E) E) : Wp (tAndx ta tb sl h) KT E := wp_bind p
theorem wp_tor (p : Wp (ta sl h) (fun k h1 => Wp (if k then .ok true h1 else tb sl h1) KT E) E) : Wp (tOrx ta tb sl h) KT E := wp_bind p
theorem wp_tnot (p : Wp (ta sl h) (fun k h1 => KT (!k) h1) E) : Wp (tNotx ta sl h) KT E := wp_bind (wp_mono p (fun _ _ q => q) fun _ _ q => q)
theorem wp_and (p : Wp (fa sl h) (fun x h1 => Wp (asB x h1) (fun k h1 => Wp (if k then fb sl h1 else .ok (.bl false) h1) KW E) E) E) : Wp (eAnd fa fb sl h) KW E := wp_bind (wp_mono p (fun _ _ q => wp_bind q) fun _ _ q => q)
theorem wp_or (p : Wp (fa sl h) (fun x h1 => Wp (asB x h1) (fun k h1 => Wp (if k then .ok (.bl true) h1 else fb sl h1) KW E) E) E) : Wp (eOr fa fb sl h) KW E := wp_bind (wp_mono p (fun _ _ q => wp_bind q) fun _ _ q => q)
theorem wp_not (p : Wp (fa sl h) (fun x h1 => Wp (asB x h1) (fun k h1 => KW (.bl (!k)) h1) E) E) : Wp (eNot fa sl h) KW E := wp_bind (wp_mono p (fun _ _ q => wp_bind (wp_mono q (fun _ _ q => q) fun _ _ q => q)) fun _ _ q => q)
theorem wp_if (p : Wp (ta sl h) (fun k h1 => Wp (if k then fa sl h1 else fb sl h1) KW E) E) : Wp (eIf ta fa fb sl h) KW E := wp_bind p
theorem wp_anil (p : KA [] h) : Wp (aNil sl h) KA E := p
theorem wp_acons (p : Wp (fa sl h) (fun x h1 => Wp (fr sl h1) (fun xs h2 => KA (x :: xs) h2) E) E) : Wp (aCons fa fr sl h) KA E := wp_bind (wp_mono p (fun _ _ q => wp_bind q) fun _ _ q => q)
theorem wp_sz {n : Nat} {a : R α} (e : n ≤ sizeLine) (p : Wp a K E) : Wp (if n ≤ sizeLine then a else .no) K E := by rw [if_pos e]; exact p
theorem wp_pos {P : Prop} [Decidable P] {a b : R α} (e : P) (p : Wp a K E) : Wp (if P then a else b) K E := by rw [if_pos e]; exact p
theorem wp_neg {P : Prop} [Decidable P] {a b : R α} (e : ¬ P) (p : Wp b K E) : Wp (if P then a else b) K E := by rw [if_neg e]; exact p
theorem wp_ite {P : Prop} [Decidable P] {a b : R α} (p : P → Wp a K E) (q : ¬ P → Wp b K E) : Wp (if P then a else b) K E := by
  by_cases e : P
  · rw [if_pos e]; exact p e
  · rw [if_neg e]; exact q e
theorem ws_pos {P : Prop} [Decidable P] {a b : RS} (e : P) (p : Ws a N T B C E) : Ws (if P then a else b) N T B C E := by rw [if_pos e]; exact p
theorem ws_neg {P : Prop} [Decidable P] {a b : RS} (e : ¬ P) (p : Ws b N T B C E) : Ws (if P then a else b) N T B C E := by rw [if_neg e]; exact p
theorem ws_ite {P : Prop} [Decidable P] {a b : RS} (p : P → Ws a N T B C E) (q : ¬ P → Ws b N T B C E) : Ws (if P then a else b) N T B C E := by
  by_cases e : P
  · rw [if_pos e]; exact p e
  · rw [if_neg e]; exact q e
theorem wp_tup (p : Wp (fr sl h) (fun xs h1 => Wp (if xs.length ≤ sizeLine then .ok (.tup xs) h1 else .no) KW E) E) : Wp (eTup fr sl h) KW E := wp_bind p
theorem wp_lst {bx : Bool} (p : Wp (fr sl h) (fun xs h1 => Wp (if xs.length ≤ sizeLine then mkL bx xs h1 else .no) KW E) E) : Wp (eLst bx fr sl h) KW E := wp_bind p
theorem wp_mkLf {ws : List W} (p : KW (.lst ws) h) : Wp (mkL false ws h) KW E := p
theorem wp_mkLt {ws : List W} (p : KW (.box h.nx) (h.new (.lst ws))) : Wp (mkL true ws h) KW E := p
theorem wp_mkDf {ks : List DK} {ws : List W} (p : KW (.dic ks ws) h) : Wp (mkD false ks ws h) KW E := p
theorem wp_mkDt {ks : List DK} {ws : List W} (p : KW (.box h.nx) (h.new (.dic ks ws))) : Wp (mkD true ks ws h) KW E := p
/-! operations -/
variable {a b : Int} {bx : Bool}
theorem wp_add (p : KW (.int (a + b)) h) : Wp (wAdd bx (.int a) (.int b) h) KW E := p
theorem wp_sub (p : KW (.int (a - b)) h) : Wp (wSub (.int a) (.int b) h) KW E := p
theorem wp_neg' (p : KW (.int (-a)) h) : Wp (wNeg (.int a) h) KW E := p
theorem wp_kadd (p : KW (.int (a + b)) h) : Wp (kAdd (.int a) (.int b) h) KW E := p
theorem wp_ksub (p : KW (.int (a - b)) h) : Wp (kSub (.int a) (.int b) h) KW E := p
theorem wp_mul (e : (-(2 ^ 64) < a ∧ a < 2 ^ 64) ∨ (-(2 ^ 64) < b ∧ b < 2 ^ 64)) (p : KW (.int (a * b)) h) : Wp (wMul bx (.int a) (.int b) h) KW E := wp_pos e p
theorem wp_div (e : 0 < b ∧ b < 1073741824) (p : KW (.int (a / b)) h) : Wp (wDiv (.int a) (.int b) h) KW E := wp_pos e p
theorem wp_mod (e : 0 < b) (p : KW (.int (a % b)) h) : Wp (wMod (.int a) (.int b) h) KW E := wp_pos e p
theorem wp_adds {a b : Str} (e : a.length + b.length ≤ sizeLine) (p : KW (.str (a ++ b)) h) : Wp (wAdd bx (.str a) (.str b) h) KW E := wp_pos e p
theorem wp_addL {a b : List W} (e : a.length + b.length ≤ sizeLine) (p : Wp (mkL bx (a ++ b) h) KW E) : Wp (wAdd bx (.lst a) (.lst b) h) KW E := wp_pos (P := a.length + b.length ≤ sizeLine) e p
theorem wp_lt (p : KW (.bl (decide (a < b))) h) : Wp (wLt (.int a) (.int b) h) KW E := p
theorem wp_le (p : KW (.bl (decide (a ≤ b))) h) : Wp (wLe (.int a) (.int b) h) KW E := p
theorem wp_gt (p : KW (.bl (decide (b < a))) h) : Wp (wGt (.int a) (.int b) h) KW E := p
theorem wp_ge (p : KW (.bl (decide (b ≤ a))) h) : Wp (wGe (.int a) (.int b) h) KW E := p
theorem wp_eqi (p : KW (.bl (decide (a = b))) h) : Wp (wEq (.int a) (.int b) h) KW E := p
theorem wp_nei (p : KW (.bl (!decide (a = b))) h) : Wp (wNe (.int a) (.int b) h) KW E := p
theorem wp_eqs {a b : Str} (p : KW (.bl (decide (a = b))) h) : Wp (wEq (.str a) (.str b) h) KW E := p
theorem wp_nes {a b : Str} (p : KW (.bl (!decide (a = b))) h) : Wp (wNe (.str a) (.str b) h) KW E := p
theorem wp_eqb {a b : Bool} (p : KW (.bl (decide (a = b))) h) : Wp (wEq (.bl a) (.bl b) h) KW E := p
theorem wp_neb {a b : Bool} (p : KW (.bl (!decide (a = b))) h) : Wp (wNe (.bl a) (.bl b) h) KW E := p
theorem wp_eqw {b : Bool} (e : weq h x y = some b) (p : KW (.bl b) h) : Wp (wEq x y h) KW E := by unfold wEq; rw [e]; exact p
theorem wp_new {b : Bool} (e : weq h x y = some b) (p : KW (.bl (!b)) h) : Wp (wNe x y h) KW E := by unfold wNe; rw [e]; exact p
theorem wp_is (p : KW (.bl (isNon x)) h) : Wp (wIs x .non h) KW E := p
theorem wp_isN (p : KW (.bl (!isNon x)) h) : Wp (wIsN x .non h) KW E := p
theorem wp_in {b : Bool} (e : win h x y = some b) (p : KW (.bl b) h) : Wp (wIn x y h) KW E := by unfold wIn; rw [e]; exact p
theorem wp_nin {b : Bool} (e : win h x y = some b) (p : KW (.bl (!b)) h) : Wp (wNotIn x y h) KW E := by unfold wNotIn; rw [e]; exact p
/-! calls -/
theorem wp_callB {m : List W → HS → R W} (p : Wp (fr sl h) (fun xs h1 => Wp (m xs h1) KW E) E) : Wp (eCallB m fr sl h) KW E := wp_bind p
theorem wp_go {n : Nat} {m : List W → HS → R W} {xs : List W} (e : xs.length = n) (p : Wp (m xs h) KW E) : Wp (go n m xs h) KW E := by unfold go; rw [if_pos e]; exact p
theorem wp_call {n : Nat} {m : List W → HS → R W} {ds : List W} (p : Wp (fr sl h) (fun xs h1 => Wp (go n m (xs ++ ds) h1) KW E) E) : Wp (eCall n m ds fr sl h) KW E := wp_bind p
theorem wp_meth {c n : Nat} {nm : Str} {m : List W → HS → R W} {ds : List W} (p : Wp (fa sl h) (fun x h1 => insOf c nm x h1 = true ∧ Wp (fr sl h1) (fun xs h2 => Wp (go n m (x :: (xs ++ ds)) h2) KW E) E) E) : Wp (eMeth c nm n m ds fa fr sl h) KW E :=
  wp_bind (wp_mono p (fun _ _ q => wp_pos q.1 (wp_bind q.2)) fun _ _ q => q)
theorem wp_make {c n : Nat} {m : List W → HS → R W} {ds : List W} (p : Wp (fr sl h) (fun xs h1 => Wp (go n m (.box h1.nx :: (xs ++ ds)) (h1.new (.ins c [] []))) (fun r h2 => isNon r = true ∧ KW (.box h1.nx) h2) E) E) : Wp (eMake c n m ds fr sl h) KW E :=
  wp_bind (wp_mono p (fun _ _ q => wp_bind (wp_mono q (fun _ _ q => wp_pos q.1 q.2) fun _ _ q => q)) fun _ _ q => q)
theorem wp_told {es : List Nat} {ret : Str} (p : Wp (fa sl h) KW (fun c h1 => es.contains c = true ∧ KW (.str ret) h1)) : Wp (eTold es ret fa sl h) KW E := by
  unfold eTold told
  cases e : fa sl h with
  | ok w h => rw [e] at p; exact p
  | exc c h => rw [e] at p; exact wp_pos p.1 p.2
  | no => rw [e] at p; exact p.elim
theorem wp_body {n : Nat} {f : Sx} {ws : List W} (p : Ws (f (ws.map some ++ List.replicate (n - ws.length) none) h) (fun _ h => KW .non h) KW (fun _ _ => False) (fun _ _ => False) E) : Wp (bodyM n f ws h) KW E := by
  unfold bodyM
  cases e : f (ws.map some ++ List.replicate (n - ws.length) none) h <;> rw [e] at p <;> first | exact p | exact p.elim
/-! statements -/
variable {sa sb : Sx} {g : Gx}
theorem ws_nil (p : N sl h) : Ws (sNil sl h) N T B C E := p
theorem ws_seq (p : Ws (sa sl h) (fun s h => Ws (sb s h) N T B C E) T B C E) : Ws (sSeq sa sb sl h) N T B C E := ws_then p
theorem ws_expr (p : Wp (fa sl h) (fun _ h1 => N sl h1) E) : Ws (sExpr fa sl h) N T B C E := ws_st p
theorem ws_ret (p : Wp (fa sl h) T E) : Ws (sRet fa sl h) N T B C E := ws_st p
theorem ws_retN (p : T .non h) : Ws (sRetN sl h) N T B C E := p
theorem ws_if (p : Wp (ta sl h) (fun k h1 => Ws (if k then sa sl h1 else sb sl h1) N T B C E) E) : Ws (sIf ta sa sb sl h) N T B C E := ws_st p
theorem ws_raise (p : E c h) : Ws (sRaise c sl h) N T B C E := p
theorem ws_asgN {i : Nat} (p : Wp (fa sl h) (fun w h1 => N (sl.set i (some w)) h1) E) : Ws (sAsg fa (gN i) sl h) N T B C E := ws_st p
def Gp (g : Option (Sl × HS)) (N : Sl → HS → Prop) : Prop := match g with | some (s, h) => N s h | none => False
theorem ws_asg (p : Wp (fa sl h) (fun w h1 => Gp (g w sl h1) N) E) : Ws (sAsg fa g sl h) N T B C E := by
  refine ws_st (wp_mono p (fun w h1 q => ?_) fun _ _ q => q)
  cases e : g w sl h1 with
  | some p => rw [e] at q; exact q
  | none => rw [e] at q; exact q.elim
theorem gp_n {i : Nat} (p : N (sl.set i (some w)) h) : Gp (gN i w sl h) N := p
theorem gp_tup {u : List W → Sl → HS → Option (Sl × HS)} {ws : List W} (e : sview h w = some ws) (p : Gp (u ws sl h) N) : Gp (gTupx u w sl h) N := by unfold gTupx; rw [e]; exact p
theorem gp_nil (p : N sl h) : Gp (gNilx [] sl h) N := p
theorem gp_cons {t : Gx} {u : List W → Sl → HS → Option (Sl × HS)} {ws : List W} (p : Gp (t w sl h) (fun s h => Gp (u ws s h) N)) : Gp (gConsx t u (w :: ws) sl h) N := by
  show Gp (match t w sl h with | some (s, h1) => u ws s h1 | none => none) N
  cases e : t w sl h with
  | some q => rw [e] at p; exact p
  | none => rw [e] at p; exact p.elim
theorem ws_par {i j : Nat} (p : Wp (fr sl h) (fun ws h1 => Is2 ws fun v w => N ((sl.set i (some v)).set j (some w)) h1) E) : Ws (sPar i j fr sl h) N T B C E := ws_st (wp_mono p (fun _ _ ⟨_, _, e, q⟩ => by subst e; exact q) fun _ _ q => q)
theorem ws_par3 {i j k : Nat} (p : Wp (fr sl h) (fun ws h1 => Is3 ws fun u v w => N (((sl.set i (some u)).set j (some v)).set k (some w)) h1) E) : Ws (sPar3 i j k fr sl h) N T B C E := ws_st (wp_mono p (fun _ _ ⟨_, _, _, e, q⟩ => by subst e; exact q) fun _ _ q => q)
theorem ws_aug {i : Nat} {x : W} (e : sl[i]? = some (some x)) (p : Wp (fa sl h) (fun y h1 => Wp (m x y h1) (fun z h2 => N (sl.set i (some z)) h2) E) E) : Ws (sAug i m fa sl h) N T B C E := by
  unfold sAug; rw [e]; exact ws_st (wp_mono p (fun _ _ q => ws_st q) fun _ _ q => q)
theorem ws_fld {cs : List Nat} {f : Str} {fv fo : Ex} (p : Wp (fv sl h) (fun y h1 => Wp (fo sl h1) (fun x h2 => ∃ h3, setFld cs f x y h2 = some h3 ∧ N sl h3) E) E) : Ws (sFldx cs f fv fo sl h) N T B C E :=
  ws_st (wp_mono p (fun _ _ q => ws_st (wp_mono q (fun _ _ ⟨_, e, q⟩ => by rw [e]; exact q) fun _ _ q => q)) fun _ _ q => q)
theorem ws_sub {fv fo fi : Ex} (p : Wp (fv sl h) (fun v h1 => Wp (fo sl h1) (fun x h2 => Wp (fi sl h2) (fun i h3 => ∃ h4, setIx x i v h3 = some h4 ∧ N sl h4) E) E) E) : Ws (sSub fv fo fi sl h) N T B C E :=
  ws_st (wp_mono p (fun _ _ q => ws_st (wp_mono q (fun _ _ q => ws_st (wp_mono q (fun _ _ ⟨_, e, q⟩ => by rw [e]; exact q) fun _ _ q => q)) fun _ _ q => q)) fun _ _ q => q)
theorem ws_del {fo fi : Ex} (p : Wp (fo sl h) (fun x h2 => Wp (fi sl h2) (fun i h3 => ∃ h4, delIx x i h3 = some h4 ∧ N sl h4) E) E) : Ws (sDel fo fi sl h) N T B C E :=
  ws_st (wp_mono p (fun _ _ q => ws_st (wp_mono q (fun _ _ ⟨_, e, q⟩ => by rw [e]; exact q) fun _ _ q => q)) fun _ _ q => q)
/-! loops -/
def Ip (r : R (List W × (HS → Bool))) (K : List W → (HS → Bool) → HS → Prop) (E : Nat → HS → Prop) : Prop := Wp r (fun p h => K p.1 p.2 h) E
variable {KI : List W → (HS → Bool) → HS → Prop} {src : Ix}
theorem ip_seq (p : Wp (fa sl h) (fun w h1 => SvI h1 w fun ws => KI ws (keep w ws) h1) E) : Ip (iSeq fa sl h) KI E :=
  wp_bind (wp_mono p (fun _ _ ⟨_, e, q⟩ => by rw [e]; exact q) fun _ _ q => q)
theorem ip_r1 (p : Wp (fr sl h) (fun ws h1 => Is1 ws fun a => IsI a fun j => (-(2 ^ 62) ≤ j ∧ j < 2 ^ 62) ∧ KI (rItems 0 1 j.toNat) (fun _ => true) h1) E) : Ip (iR1 fr sl h) KI E :=
  wp_bind (wp_mono p (fun _ _ ⟨_, e, _, e1, b, q⟩ => by subst e e1; exact wp_pos b q) fun _ _ q => q)
theorem ip_r2 (p : Wp (fr sl h) (fun ws h1 => Is2 ws fun a b => IsI a fun i => IsI b fun j => (-(2 ^ 62) ≤ i ∧ i < 2 ^ 62 ∧ -(2 ^ 62) ≤ j ∧ j < 2 ^ 62) ∧ KI (rItems i 1 (j - i).toNat) (fun _ => true) h1) E) : Ip (iR2 fr sl h) KI E :=
  wp_bind (wp_mono p (fun _ _ ⟨_, _, e, _, e1, _, e2, b, q⟩ => by subst e e1 e2; exact wp_pos b q) fun _ _ q => q)
theorem ip_r3 (p : Wp (fr sl h) (fun ws h1 => Is3 ws fun a b c => IsI a fun i => IsI b fun j => IsI c fun c => rgOk i j c = true ∧ KI (rItems i c (rgN i j c)) (fun _ => true) h1) E) : Ip (iR3 fr sl h) KI E :=
  wp_bind (wp_mono p (fun _ _ ⟨_, _, _, e, _, e1, _, e2, _, e3, b, q⟩ => by subst e e1 e2 e3; exact wp_pos b q) fun _ _ q => q)
theorem ip_txt (p : Wp (fa sl h) (fun w h1 => IsS w fun x => KI (x.cps.toList.map fun c => W.str ⟨#[c]⟩) (fun _ => true) h1) E) : Ip (iTxt fa sl h) KI E :=
  wp_bind (wp_mono p (fun _ _ ⟨_, e, q⟩ => by subst e; exact q) fun _ _ q => q)
theorem ip_keys (p : Wp (fa sl h) (fun w h1 => ∃ ks ws, dview h1 w = some (ks, ws) ∧ KI (ks.map dkW) (fun _ => true) (lkW w h1)) E) : Ip (iKeys fa sl h) KI E :=
  wp_bind (wp_mono p (fun _ _ ⟨_, _, e, q⟩ => by rw [e]; exact q) fun _ _ q => q)
theorem ip_enum (p : Wp (fr sl h) (fun xs h1 => Is1 xs fun w => LvI h1 w fun ws => KI (enumW ws) (keep w ws) h1) E) : Ip (iEnum fr sl h) KI E :=
  wp_bind (wp_mono p (fun _ _ ⟨_, e, _, e2, q⟩ => by subst e; dsimp only; rw [e2]; exact q) fun _ _ q => q)
theorem ws_for (p : Ip (src sl h) (fun ws kp h1 => Ws (forL kp g sb ws sl h1) N T B C E) E) : Ws (sFor src g sb sl h) N T B C E := by
  unfold sFor
  unfold Ip Wp at p
  cases e : src sl h with
  | ok q h1 => rw [e] at p; exact p
  | exc c h1 => rw [e] at p; exact p
  | no => rw [e] at p; exact p.elim
theorem ws_forL {kp : HS → Bool} {ws : List W} (I : Nat → Sl → HS → Prop) (h0 : I 0 sl h) (hk : ∀ i sl h, i ≤ ws.length → I i sl h → kp h = true)
    (hs : ∀ i w sl h, ws[i]? = some w → I i sl h → Gp (g w sl h) (fun s h1 => Ws (sb s h1) (I (i + 1)) T N (I (i + 1)) E))
    (hd : ∀ sl h, I ws.length sl h → N sl h) : Ws (forL kp g sb ws sl h) N T B C E := by
  induction ws generalizing I sl h with
  | nil =>
    unfold forL
    rw [if_pos (hk 0 sl h (Nat.le_refl _) h0)]
    exact hd _ _ h0
  | cons w ws ih =>
    unfold forL
    rw [if_pos (hk 0 sl h (Nat.zero_le _) h0)]
    have q := hs 0 w sl h rfl h0
    cases e : g w sl h with
    | none => rw [e] at q; exact q.elim
    | some p =>
      obtain ⟨s, h1⟩ := p
      rw [e] at q
      have q : Ws (sb s h1) (I 1) T N (I 1) E := q
      show Ws (match sb s h1 with
        | RS.nx s2 h2 => forL kp g sb ws s2 h2
        | RS.ct s2 h2 => forL kp g sb ws s2 h2
        | RS.bk s2 h2 => RS.nx s2 h2
        | r => r) N T B C E
      have go : ∀ s2 h2, I 1 s2 h2 → Ws (forL kp g sb ws s2 h2) N T B C E := fun s2 h2 i2 =>
        ih (fun i => I (i + 1)) i2 (fun i sl h l => hk (i + 1) sl h (Nat.succ_le_succ l)) (fun i w sl h e => hs (i + 1) w sl h (by simpa using e)) (fun sl h i3 => hd sl h i3)
      cases e2 : sb s h1 <;> rw [e2] at q
      · exact go _ _ q
      · exact q
      · exact q
      · exact go _ _ q
      · exact q
      · exact q.elim
theorem ws_whileN {t : Tx} (I : Nat → Sl → HS → Prop) (hs : ∀ n sl h, I n sl h → Wp (t sl h) (fun k h1 => (k = true → ∃ n', n = n' + 1 ∧ Ws (sb sl h1) (I n') T N (I n') E) ∧ (k = false → N sl h1)) E) :
    ∀ (n f : Nat) (sl : Sl) (h : HS), I n sl h → n < f → Ws (whileL t sb f sl h) N T B C E := by
  intro n
  induction n with
  | zero =>
    intro f sl h i0 hf
    obtain ⟨f, rfl⟩ : ∃ f', f = f' + 1 := ⟨f - 1, by omega⟩
    unfold whileL
    refine ws_st (wp_mono (hs 0 sl h i0) (fun k h1 q => ?_) fun _ _ q => q)
    cases k with
    | true => obtain ⟨n', e, _⟩ := q.1 rfl; cases e
    | false => exact q.2 rfl
  | succ n ih =>
    intro f sl h i0 hf
    obtain ⟨f, rfl⟩ : ∃ f', f = f' + 1 := ⟨f - 1, by omega⟩
    unfold whileL
    refine ws_st (wp_mono (hs (n + 1) sl h i0) (fun k h1 q => ?_) fun _ _ q => q)
    cases k with
    | false => exact q.2 rfl
    | true =>
      obtain ⟨n', e, q⟩ := q.1 rfl
      have e' : n = n' := by omega
      subst e'
      rw [if_pos rfl]
      cases e2 : sb sl h1 <;> rw [e2] at q
      · exact ih f _ _ q (by omega)
      · exact q
      · exact q
      · exact ih f _ _ q (by omega)
      · exact q
      · exact q.elim
theorem ws_while {t : Tx} (I : Nat → Sl → HS → Prop) (n : Nat) (h0 : I n sl h) (hn : n < fuel) (hs : ∀ n sl h, I n sl h → Wp (t sl h) (fun k h1 => (k = true → ∃ n', n = n' + 1 ∧ Ws (sb sl h1) (I n') T N (I n') E) ∧ (k = false → N sl h1)) E) :
    Ws (sWhile t sb sl h) N T B C E := ws_whileN I hs n fuel sl h h0 hn
variable {own : List Nat} {tt : Tx} {te : Ex}
theorem wp_lc (p : Ip (src sl h) (fun ws kp h1 => Wp (lcLoop own kp g tt te sl ws [] h1) (fun acc h2 => Wp (mkL bx acc h2) KW E) E) E) : Wp (eLc bx own src g tt te sl h) KW E := wp_bind (wp_mono p (fun _ _ q => wp_bind q) fun _ _ q => q)
theorem wp_lcLoopI {kp : HS → Bool} {ws : List W} (I : Nat → List W → HS → Prop) {acc : List W} (h0 : I 0 acc h) (hl : acc.length + ws.length ≤ sizeLine) (hk : ∀ i acc h, i ≤ ws.length → I i acc h → kp h = true)
    (hs : ∀ i w acc h, ws[i]? = some w → I i acc h → Gp (g w (wipeS sl own) h) (fun s h1 => Wp (tt s h1) (fun b h2 => (b = true → Wp (te s h2) (fun y h3 => I (i + 1) (acc ++ [y]) h3) NoE) ∧ (b = false → I (i + 1) acc h2)) NoE))
    (hd : ∀ acc h, I ws.length acc h → KA acc h) : Wp (lcLoop own kp g tt te sl ws acc h) KA E := by
  induction ws generalizing I acc h with
  | nil =>
    unfold lcLoop
    rw [if_pos (hk 0 acc h (Nat.le_refl _) h0)]
    exact hd _ _ h0
  | cons w ws ih =>
    unfold lcLoop
    rw [if_pos (hk 0 acc h (Nat.zero_le _) h0)]
    have q := hs 0 w acc h rfl h0
    cases e : g w (wipeS sl own) h with
    | none => rw [e] at q; exact q.elim
    | some p =>
      obtain ⟨s, h1⟩ := p
      rw [e] at q
      simp only [List.length_cons] at hl
      have go : ∀ acc2 h2, acc2.length ≤ acc.length + 1 → I 1 acc2 h2 → Wp (lcLoop own kp g tt te sl ws acc2 h2) KA E := fun acc2 h2 l2 i2 =>
        ih (fun i => I (i + 1)) i2 (by omega) (fun i sl h l => hk (i + 1) sl h (Nat.succ_le_succ l)) (fun i w sl h e => hs (i + 1) w sl h (by simpa using e)) (fun sl h i3 => hd sl h i3)
      refine wp_bind (wp_noX (wp_mono q (fun b h2 q => ?_) fun _ _ q => q))
      cases b with
      | true =>
        rw [if_pos rfl]
        refine wp_bind (wp_noX (wp_mono (q.1 rfl) (fun y h3 q => ?_) fun _ _ q => q))
        exact wp_pos (by omega) (go _ _ (by simp) q)
      | false =>
        rw [if_neg (by decide)]
        exact go _ _ (by omega) (q.2 rfl)
/-- no store, whole numbers -/
theorem wp_lcI {kp : HS → Bool} {ns : List Int} (P : Int → Bool) (F : Int → W) (hl : ns.length ≤ sizeLine) (hk : kp h = true)
    (hs : ∀ n ∈ ns, Gp (g (.int n) (wipeS sl own) h) (fun s h1 => Wp (tt s h1) (fun b h2 => b = P n ∧ (b = true → Wp (te s h2) (fun y h3 => y = F n ∧ h3 = h) NoE) ∧ h2 = h) NoE))
    (hd : KA ((ns.filter P).map F) h) : Wp (lcLoop own kp g tt te sl (ns.map W.int) [] h) KA E := by
  refine wp_lcLoopI (fun i acc h' => h' = h ∧ acc = ((ns.take i).filter P).map F) ⟨rfl, rfl⟩ (by simpa using hl) (fun i acc h' _ q => by rw [q.1]; exact hk) (fun i w acc h' e q => ?_) (fun acc h' q => ?_)
  · obtain ⟨rfl, rfl⟩ := q
    rw [List.getElem?_map] at e
    cases e2 : ns[i]? with
    | none => rw [e2] at e; cases e
    | some n =>
      rw [e2] at e
      cases e
      have z := hs n (List.mem_of_getElem? e2)
      have tk : ns.take (i + 1) = ns.take i ++ [n] := by rw [List.take_add_one, e2]; rfl
      unfold Gp at z ⊢
      split at z
      · rename_i s h1 e3
        refine wp_mono z (fun b h2 q => ?_) fun _ _ q => q
        obtain ⟨q1, q2, q3⟩ := q
        subst q3
        refine ⟨fun eb => wp_mono (q2 eb) (fun y h3 q => ?_) fun _ _ q => q, fun eb => ?_⟩
        · obtain ⟨rfl, rfl⟩ := q
          refine ⟨rfl, ?_⟩
          rw [tk, List.filter_append, List.map_append, List.filter_cons_of_pos (by rw [← q1]; exact eb)]
          rfl
        · refine ⟨rfl, ?_⟩
          rw [tk, List.filter_append, List.map_append, List.filter_cons_of_neg (by rw [← q1, eb]; decide)]
          simp
      · exact z.elim
  · obtain ⟨rfl, rfl⟩ := q
    rw [List.length_map, List.take_length]
    exact hd
/-- no store -/
theorem wp_lcX {γ : Type} {kp : HS → Bool} {ns : List γ} (ex : γ → W) (P : γ → Bool) (F : γ → W) (hl : ns.length ≤ sizeLine) (hk : kp h = true)
    (hs : ∀ n ∈ ns, Gp (g (ex n) (wipeS sl own) h) (fun s h1 => Wp (tt s h1) (fun b h2 => b = P n ∧ (b = true → Wp (te s h2) (fun y h3 => y = F n ∧ h3 = h) NoE) ∧ h2 = h) NoE))
    (hd : KA ((ns.filter P).map F) h) : Wp (lcLoop own kp g tt te sl (ns.map ex) [] h) KA E := by
  refine wp_lcLoopI (fun i acc h' => h' = h ∧ acc = ((ns.take i).filter P).map F) ⟨rfl, rfl⟩ (by simpa using hl) (fun i acc h' _ q => by rw [q.1]; exact hk) (fun i w acc h' e q => ?_) (fun acc h' q => ?_)
  · obtain ⟨rfl, rfl⟩ := q
    rw [List.getElem?_map] at e
    cases e2 : ns[i]? with
    | none => rw [e2] at e; cases e
    | some n =>
      rw [e2] at e
      cases e
      have z := hs n (List.mem_of_getElem? e2)
      have tk : ns.take (i + 1) = ns.take i ++ [n] := by rw [List.take_add_one, e2]; rfl
      unfold Gp at z ⊢
      split at z
      · rename_i s h1 e3
        refine wp_mono z (fun b h2 q => ?_) fun _ _ q => q
        obtain ⟨q1, q2, q3⟩ := q
        subst q3
        refine ⟨fun eb => wp_mono (q2 eb) (fun y h3 q => ?_) fun _ _ q => q, fun eb => ?_⟩
        · obtain ⟨rfl, rfl⟩ := q
          refine ⟨rfl, ?_⟩
          rw [tk, List.filter_append, List.map_append, List.filter_cons_of_pos (by rw [← q1]; exact eb)]
          rfl
        · refine ⟨rfl, ?_⟩
          rw [tk, List.filter_append, List.map_append, List.filter_cons_of_neg (by rw [← q1, eb]; decide)]
          simp
      · exact z.elim
  · obtain ⟨rfl, rfl⟩ := q
    rw [List.length_map, List.take_length]
    exact hd
end
end Pk
end

/-! Qb -/
section
set_option Elab.async false
set_option linter.all false
set_option maxRecDepth 100000
set_option maxHeartbeats 4000000
namespace Pk
open PySem PySem.Spec L2
section
variable {α β ω : Type} {K : W → HS → Prop} {E : Nat → HS → Prop} {h h1 : HS} {sl s : Sl} {c : Nat} {w x y : W} {own : List Nat} {tg : Gx} {tt : Tx} {te : Ex} {src : Ix}
def outM : RS → R W
  | .nx _ h' => .ok .non h'
  | .rt w h' => .ok w h'
  | .exc c _ h' => .exc c h'
  | _ => .no
theorem wp_out {r : RS} (p : Ws r (fun _ h => K .non h) K (fun _ _ => False) (fun _ _ => False) E) : Wp (outM r) K E := by
  cases r <;> first | exact p | exact p.elim
/-! generator expressions -/
theorem wp_gLoop {kp : HS → Bool} {ω β : Type} {KO : ω → HS → Prop} {fin : β → HS → R ω} {step : β → W → Option (Sum ω β)} {ws : List W} {b : β} (I : Nat → β → HS → Prop) (h0 : I 0 b h) (hk : ∀ i b h, i ≤ ws.length → I i b h → kp h = true)
    (hs : ∀ i w b h, ws[i]? = some w → I i b h → Gp (tg w (wipeS sl own) h) (fun s h1 => Wp (tt s h1) (fun c h2 => (c = true → Wp (te s h2) (fun y h3 => (∃ z, step b y = some (.inl z) ∧ KO z h3) ∨ ∃ b', step b y = some (.inr b') ∧ I (i + 1) b' h3) NoE) ∧ (c = false → I (i + 1) b h2)) NoE))
    (hd : ∀ b h, I ws.length b h → Wp (fin b h) KO E) : Wp (gLoop own kp tg tt te sl fin step ws b h) KO E := by
  induction ws generalizing I b h with
  | nil =>
    unfold gLoop
    rw [if_pos (hk 0 b h (Nat.le_refl _) h0)]
    exact hd _ _ h0
  | cons w ws ih =>
    unfold gLoop
    rw [if_pos (hk 0 b h (Nat.zero_le _) h0)]
    have q := hs 0 w b h rfl h0
    cases e : tg w (wipeS sl own) h with
    | none => rw [e] at q; exact q.elim
    | some p =>
      obtain ⟨s, h1⟩ := p
      rw [e] at q
      have go : ∀ b2 h2, I 1 b2 h2 → Wp (gLoop own kp tg tt te sl fin step ws b2 h2) KO E := fun b2 h2 i2 =>
        ih (fun i => I (i + 1)) i2 (fun i sl h l => hk (i + 1) sl h (Nat.succ_le_succ l)) (fun i w sl h e => hs (i + 1) w sl h (by simpa using e)) (fun sl h i3 => hd sl h i3)
      refine wp_bind (wp_noX (wp_mono q (fun c h2 q => ?_) fun _ _ q => q))
      cases c with
      | true =>
        rw [if_pos rfl]
        refine wp_bind (wp_noX (wp_mono (q.1 rfl) (fun y h3 q => ?_) fun _ _ q => q))
        unfold gNext
        rcases q with ⟨z, e1, q⟩ | ⟨b', e1, q⟩
        · rw [e1]; exact q
        · rw [e1]; exact go _ _ q
      | false =>
        rw [if_neg (by decide)]
        exact go _ _ (q.2 rfl)
/-- what is asked of an element that stores nothing: kept by P, worth F -/
def El (tg : Gx) (tt : Tx) (te : Ex) (sl : Sl) (h : HS) (w : W) (p : Bool) (y : W) : Prop :=
  Gp (tg w sl h) (fun s h1 => Wp (tt s h1) (fun c h2 => c = p ∧ h2 = h ∧ (c = true → Wp (te s h2) (fun y' h3 => y' = y ∧ h3 = h) NoE)) NoE)
theorem el_gp {w : W} {p : Bool} {y : W} {I : Bool → W → HS → Prop} (e : El tg tt te sl h w p y) :
    Gp (tg w sl h) (fun s h1 => Wp (tt s h1) (fun c h2 => (c = true → Wp (te s h2) (fun y' h3 => p = true ∧ y' = y ∧ h3 = h) NoE) ∧ (c = false → p = false ∧ h2 = h)) NoE) := by
  unfold El Gp at e
  unfold Gp
  split at e
  · refine wp_mono e (fun c h2 q => ⟨fun ec => wp_mono (q.2.2 ec) (fun _ _ r => ⟨by rw [← q.1]; exact ec, r⟩) fun _ _ r => r, fun ec => ⟨by rw [← q.1]; exact ec, q.2.1⟩⟩) fun _ _ q => q
  · exact e.elim
theorem gp_mono {g : Option (Sl × HS)} {N N' : Sl → HS → Prop} (p : Gp g N) (f : ∀ s h, N s h → N' s h) : Gp g N' := by
  unfold Gp at p ⊢
  split at p
  · exact f _ _ p
  · exact p
theorem wp_tupI {kp : HS → Bool} {ns : List Int} (P : Int → Bool) (F : Int → W) (hl : ns.length ≤ sizeLine) (hk : kp h = true) (hs : ∀ n ∈ ns, El tg tt te (wipeS sl own) h (.int n) (P n) (F n))
    (hd : K (.tup ((ns.filter P).map F)) h) : Wp (gLoop own kp tg tt te sl (fun ws h => .ok (.tup ws) h) stTup (ns.map W.int) [] h) K E := by
  refine wp_gLoop (fun i acc h' => h' = h ∧ acc = ((ns.take i).filter P).map F) ⟨rfl, rfl⟩ (fun i acc h' _ q => by rw [q.1]; exact hk) (fun i w acc h' e q => ?_) (fun acc h' q => ?_)
  · obtain ⟨rfl, rfl⟩ := q
    rw [List.getElem?_map] at e
    cases e2 : ns[i]? with
    | none => rw [e2] at e; cases e
    | some n =>
      rw [e2] at e
      cases e
      have hi : i < ns.length := (List.getElem?_eq_some_iff.mp e2).1
      have tk : ns.take (i + 1) = ns.take i ++ [n] := by rw [List.take_add_one, e2]; rfl
      refine gp_mono (el_gp (I := fun _ _ _ => True) (hs n (List.mem_of_getElem? e2))) fun s h1 z => wp_mono z (fun c h2 ⟨z1, z2⟩ => ⟨fun ec => wp_mono (z1 ec) (fun y h3 ⟨p1, p2, p3⟩ => .inr ⟨_, ?_, p3, rfl⟩) fun _ _ q => q, fun ec => ?_⟩) fun _ _ q => q
      · subst p2
        unfold stTup
        rw [if_pos, tk, List.filter_append, List.map_append, List.filter_cons_of_pos p1]
        · rfl
        · have := List.length_filter_le P (ns.take i)
          rw [List.length_map]
          have l2 : (ns.take i).length ≤ i := List.length_take_le i ns
          omega
      · refine ⟨(z2 ec).2, ?_⟩
        rw [tk, List.filter_append, List.map_append, List.filter_cons_of_neg (by rw [(z2 ec).1]; decide)]
        simp
  · obtain ⟨rfl, rfl⟩ := q
    rw [List.length_map, List.take_length]
    exact hd
theorem wp_tupX {γ : Type} {kp : HS → Bool} {ns : List γ} (ex : γ → W) (P : γ → Bool) (F : γ → W) (hl : ns.length ≤ sizeLine) (hk : kp h = true) (hs : ∀ n ∈ ns, El tg tt te (wipeS sl own) h (ex n) (P n) (F n))
    (hd : K (.tup ((ns.filter P).map F)) h) : Wp (gLoop own kp tg tt te sl (fun ws h => .ok (.tup ws) h) stTup (ns.map ex) [] h) K E := by
  refine wp_gLoop (fun i acc h' => h' = h ∧ acc = ((ns.take i).filter P).map F) ⟨rfl, rfl⟩ (fun i acc h' _ q => by rw [q.1]; exact hk) (fun i w acc h' e q => ?_) (fun acc h' q => ?_)
  · obtain ⟨rfl, rfl⟩ := q
    rw [List.getElem?_map] at e
    cases e2 : ns[i]? with
    | none => rw [e2] at e; cases e
    | some n =>
      rw [e2] at e
      cases e
      have hi : i < ns.length := (List.getElem?_eq_some_iff.mp e2).1
      have tk : ns.take (i + 1) = ns.take i ++ [n] := by rw [List.take_add_one, e2]; rfl
      refine gp_mono (el_gp (I := fun _ _ _ => True) (hs n (List.mem_of_getElem? e2))) fun s h1 z => wp_mono z (fun c h2 ⟨z1, z2⟩ => ⟨fun ec => wp_mono (z1 ec) (fun y h3 ⟨p1, p2, p3⟩ => .inr ⟨_, ?_, p3, rfl⟩) fun _ _ q => q, fun ec => ?_⟩) fun _ _ q => q
      · subst p2
        unfold stTup
        rw [if_pos, tk, List.filter_append, List.map_append, List.filter_cons_of_pos p1]
        · rfl
        · have := List.length_filter_le P (ns.take i)
          rw [List.length_map]
          have l2 : (ns.take i).length ≤ i := List.length_take_le i ns
          omega
      · refine ⟨(z2 ec).2, ?_⟩
        rw [tk, List.filter_append, List.map_append, List.filter_cons_of_neg (by rw [(z2 ec).1]; decide)]
        simp
  · obtain ⟨rfl, rfl⟩ := q
    rw [List.length_map, List.take_length]
    exact hd
theorem wp_sumI {kp : HS → Bool} {ns : List Int} (P : Int → Bool) (F : Int → Int) (hl : ns.length ≤ 2 ^ 20) (hb : ∀ n ∈ ns, 0 ≤ F n ∧ F n ≤ 2 ^ 40) (hk : kp h = true) (hs : ∀ n ∈ ns, El tg tt te (wipeS sl own) h (.int n) (P n) (.int (F n)))
    (hd : K (.int ((ns.filter P).map F).sum) h) : Wp (gLoop own kp tg tt te sl (fun n h => .ok (.int n) h) stSum (ns.map W.int) 0 h) K E := by
  have bd : ∀ l : List Int, (∀ n ∈ l, 0 ≤ F n ∧ F n ≤ 2 ^ 40) → 0 ≤ ((l.filter P).map F).sum ∧ ((l.filter P).map F).sum ≤ l.length * 2 ^ 40 := by
    intro l
    induction l with
    | nil => intro _; simp
    | cons n l ih =>
      intro hb
      obtain ⟨i1, i2⟩ := ih fun m hm => hb m (List.mem_cons_of_mem _ hm)
      obtain ⟨b1, b2⟩ := hb n List.mem_cons_self
      by_cases hp : P n = true
      · rw [List.filter_cons_of_pos hp, List.map_cons, List.sum_cons, List.length_cons]
        omega
      · rw [List.filter_cons_of_neg hp, List.length_cons]
        omega
  refine wp_gLoop (fun i (acc : Int) h' => h' = h ∧ acc = (((ns.take i).filter P).map F).sum) ⟨rfl, rfl⟩ (fun i acc h' _ q => by rw [q.1]; exact hk) (fun i w acc h' e q => ?_) (fun acc h' q => ?_)
  · obtain ⟨rfl, rfl⟩ := q
    rw [List.getElem?_map] at e
    cases e2 : ns[i]? with
    | none => rw [e2] at e; cases e
    | some n =>
      rw [e2] at e
      cases e
      have hi : i < ns.length := (List.getElem?_eq_some_iff.mp e2).1
      have tk : ns.take (i + 1) = ns.take i ++ [n] := by rw [List.take_add_one, e2]; rfl
      refine gp_mono (el_gp (I := fun _ _ _ => True) (hs n (List.mem_of_getElem? e2))) fun s h1 z => wp_mono z (fun c h2 ⟨z1, z2⟩ => ⟨fun ec => wp_mono (z1 ec) (fun y h3 ⟨p1, p2, p3⟩ => .inr ⟨_, ?_, p3, rfl⟩) fun _ _ q => q, fun ec => ?_⟩) fun _ _ q => q
      · subst p2
        have hbn := hb n (List.mem_of_getElem? e2)
        obtain ⟨i1, i2⟩ := bd (ns.take i) fun m hm => hb m (List.mem_of_mem_take hm)
        have l2 : (ns.take i).length ≤ i := List.length_take_le i ns
        unfold stSum
        dsimp only
        rw [if_pos, tk, List.filter_append, List.map_append, List.filter_cons_of_pos p1, List.sum_append]
        · simp
        · unfold inL
          simp only [Bool.and_eq_true, decide_eq_true_eq]
          omega
      · refine ⟨(z2 ec).2, ?_⟩
        rw [tk, List.filter_append, List.map_append, List.filter_cons_of_neg (by rw [(z2 ec).1]; decide)]
        simp
  · obtain ⟨rfl, rfl⟩ := q
    rw [List.length_map, List.take_length]
    exact hd
theorem wp_sumX {γ : Type} {kp : HS → Bool} {ns : List γ} (ex : γ → W) (P : γ → Bool) (F : γ → Int) (hl : ns.length ≤ 2 ^ 20) (hb : ∀ n ∈ ns, 0 ≤ F n ∧ F n ≤ 2 ^ 40) (hk : kp h = true) (hs : ∀ n ∈ ns, El tg tt te (wipeS sl own) h (ex n) (P n) (.int (F n)))
    (hd : K (.int ((ns.filter P).map F).sum) h) : Wp (gLoop own kp tg tt te sl (fun n h => .ok (.int n) h) stSum (ns.map ex) 0 h) K E := by
  have bd : ∀ l : List γ, (∀ n ∈ l, 0 ≤ F n ∧ F n ≤ 2 ^ 40) → 0 ≤ ((l.filter P).map F).sum ∧ ((l.filter P).map F).sum ≤ l.length * 2 ^ 40 := by
    intro l
    induction l with
    | nil => intro _; simp
    | cons n l ih =>
      intro hb
      obtain ⟨i1, i2⟩ := ih fun m hm => hb m (List.mem_cons_of_mem _ hm)
      obtain ⟨b1, b2⟩ := hb n List.mem_cons_self
      by_cases hp : P n = true
      · rw [List.filter_cons_of_pos hp, List.map_cons, List.sum_cons, List.length_cons]
        omega
      · rw [List.filter_cons_of_neg hp, List.length_cons]
        omega
  refine wp_gLoop (fun i (acc : Int) h' => h' = h ∧ acc = (((ns.take i).filter P).map F).sum) ⟨rfl, rfl⟩ (fun i acc h' _ q => by rw [q.1]; exact hk) (fun i w acc h' e q => ?_) (fun acc h' q => ?_)
  · obtain ⟨rfl, rfl⟩ := q
    rw [List.getElem?_map] at e
    cases e2 : ns[i]? with
    | none => rw [e2] at e; cases e
    | some n =>
      rw [e2] at e
      cases e
      have hi : i < ns.length := (List.getElem?_eq_some_iff.mp e2).1
      have tk : ns.take (i + 1) = ns.take i ++ [n] := by rw [List.take_add_one, e2]; rfl
      refine gp_mono (el_gp (I := fun _ _ _ => True) (hs n (List.mem_of_getElem? e2))) fun s h1 z => wp_mono z (fun c h2 ⟨z1, z2⟩ => ⟨fun ec => wp_mono (z1 ec) (fun y h3 ⟨p1, p2, p3⟩ => .inr ⟨_, ?_, p3, rfl⟩) fun _ _ q => q, fun ec => ?_⟩) fun _ _ q => q
      · subst p2
        have hbn := hb n (List.mem_of_getElem? e2)
        obtain ⟨i1, i2⟩ := bd (ns.take i) fun m hm => hb m (List.mem_of_mem_take hm)
        have l2 : (ns.take i).length ≤ i := List.length_take_le i ns
        unfold stSum
        dsimp only
        rw [if_pos, tk, List.filter_append, List.map_append, List.filter_cons_of_pos p1, List.sum_append]
        · simp
        · unfold inL
          simp only [Bool.and_eq_true, decide_eq_true_eq]
          omega
      · refine ⟨(z2 ec).2, ?_⟩
        rw [tk, List.filter_append, List.map_append, List.filter_cons_of_neg (by rw [(z2 ec).1]; decide)]
        simp
  · obtain ⟨rfl, rfl⟩ := q
    rw [List.length_map, List.take_length]
    exact hd
theorem wp_anyW {kp : HS → Bool} {ws : List W} (P : W → Bool) (hk : kp h = true) (hs : ∀ n ∈ ws, El tg tt te (wipeS sl own) h n true (.bl (P n)))
    (hd : K (.bl (ws.any P)) h) : Wp (gLoop own kp tg tt te sl (fun _ h => .ok (.bl false) h) stAny ws () h) K E := by
  refine wp_gLoop (fun i _ h' => h' = h ∧ ws.any P = (ws.drop i).any P) ⟨rfl, rfl⟩ (fun i acc h' _ q => by rw [q.1]; exact hk) (fun i w acc h' e q => ?_) (fun acc h' q => ?_)
  · obtain ⟨rfl, q⟩ := q
    have hi := (List.getElem?_eq_some_iff.mp e)
    obtain ⟨hi, e'⟩ := hi
    have tk : ws.drop i = w :: ws.drop (i + 1) := by rw [List.drop_eq_getElem_cons hi, e']
    refine gp_mono (el_gp (I := fun _ _ _ => True) (hs w (List.mem_of_getElem? e))) fun s h1 z => wp_mono z (fun c h2 ⟨z1, z2⟩ => ⟨fun ec => wp_mono (z1 ec) (fun y h3 ⟨p1, p2, p3⟩ => ?_) fun _ _ q => q, fun ec => ?_⟩) fun _ _ q => q
    · subst p2 p3
      rw [tk, List.any_cons] at q
      cases ep : P w with
      | true =>
        rw [ep] at q
        exact .inl ⟨_, rfl, by rw [q] at hd; exact hd⟩
      | false => rw [ep] at q; exact .inr ⟨(), rfl, rfl, q⟩
    · exact absurd (z2 ec).1 (by decide)
  · obtain ⟨rfl, q⟩ := q
    rw [List.drop_length] at q
    rw [q] at hd
    exact hd
theorem wp_any (p : Ip (src sl h) (fun ws kp h1 => Wp (gLoop own kp tg tt te sl (fun _ h => .ok (.bl false) h) stAny ws () h1) K E) E) : Wp (eAny own src tg tt te sl h) K E := wp_bind p
theorem wp_all (p : Ip (src sl h) (fun ws kp h1 => Wp (gLoop own kp tg tt te sl (fun _ h => .ok (.bl true) h) stAll ws () h1) K E) E) : Wp (eAll own src tg tt te sl h) K E := wp_bind p
theorem wp_sumG (p : Ip (src sl h) (fun ws kp h1 => Wp (gLoop own kp tg tt te sl (fun n h => .ok (.int n) h) stSum ws 0 h1) K E) E) : Wp (eSumG own src tg tt te sl h) K E := wp_bind p
theorem wp_tupG (p : Ip (src sl h) (fun ws kp h1 => Wp (gLoop own kp tg tt te sl (fun ws h => .ok (.tup ws) h) stTup ws [] h1) K E) E) : Wp (eTupG own src tg tt te sl h) K E := wp_bind p
/-! whole numbers in a row -/
def iota (lo : Int) (n : Nat) : List Int := (List.range n).map fun i => lo + (i : Nat)
theorem rItems_one (lo : Int) (n : Nat) : rItems lo 1 n = (iota lo n).map W.int := by
  unfold rItems iota
  rw [List.map_map]
  exact List.map_congr_left fun i _ => by simp
theorem mem_iota {lo x : Int} {n : Nat} : x ∈ iota lo n ↔ lo ≤ x ∧ x < lo + n := by
  unfold iota
  rw [List.mem_map]
  constructor
  · rintro ⟨i, hi, rfl⟩
    have := List.mem_range.mp hi
    omega
  · rintro ⟨a, b⟩
    exact ⟨(x - lo).toNat, List.mem_range.mpr (by omega), by omega⟩
@[simp] theorem iota_length (lo : Int) (n : Nat) : (iota lo n).length = n := by simp [iota]
theorem iota_succ (lo : Int) (n : Nat) : iota lo (n + 1) = iota lo n ++ [lo + n] := by simp [iota, List.range_succ]
theorem iota_cons (lo : Int) (n : Nat) : iota lo (n + 1) = lo :: iota (lo + 1) n := by
  simp only [iota, List.range_succ_eq_map, List.map_cons, List.map_map]
  congr 1
  · simp
  · exact List.map_congr_left fun i _ => by simp only [Function.comp_def]; omega
theorem iota_append (lo : Int) : ∀ (a b : Nat) (n : Nat), n = a + b → iota lo n = iota lo a ++ iota (lo + a) b
  | a, 0, n, e => by subst e; simp [iota]
  | a, b + 1, n, e => by
    obtain ⟨m, rfl⟩ : ∃ m, n = m + 1 := ⟨n - 1, by omega⟩
    rw [iota_succ, iota_append lo a b m (by omega), iota_succ, List.append_assoc]
    congr 3
    omega
@[simp] theorem iota_zero (lo : Int) : iota lo 0 = [] := rfl
theorem rgOk_of {i j c : Int} (c0 : c ≠ 0) (i1 : -1000000 ≤ i) (i2 : i ≤ 1000000) (j1 : -1000000 ≤ j) (j2 : j ≤ 1000000) (c1 : -1000000 ≤ c) (c2 : c ≤ 1000000) : rgOk i j c = true := by
  have hs : 0 ≤ Builtin.Range.rangeSize i j c ∧ Builtin.Range.rangeSize i j c ≤ 3000000 := by
    unfold Builtin.Range.rangeSize
    by_cases cp : c > 0
    · rw [if_pos cp]
      split
      · have h1 : 0 ≤ (j - i - 1) / c := Int.ediv_nonneg (by omega) (by omega)
        have h2 : (j - i - 1) / c ≤ j - i - 1 := Int.ediv_le_self _ (by omega)
        omega
      · omega
    · rw [if_neg cp]
      split
      · have h1 : 0 ≤ (i - j - 1) / (-c) := Int.ediv_nonneg (by omega) (by omega)
        have h2 : (i - j - 1) / (-c) ≤ i - j - 1 := Int.ediv_le_self _ (by omega)
        omega
      · omega
  have f : ∀ x : Int, -10000000 ≤ x → x ≤ 10000000 → Builtin.Range.rangeFitsLong x = true := fun x h1 h2 => by
    unfold Builtin.Range.rangeFitsLong
    simp only [Bool.and_eq_true, decide_eq_true_eq]
    omega
  have sm : Builtin.Range.small i j c = true := by
    unfold Builtin.Range.small
    rw [f i (by omega) (by omega), f j (by omega) (by omega), f c (by omega) (by omega), f _ (by omega) (by omega)]
    by_cases cp : c > 0
    · rw [if_pos cp, f _ (by omega) (by omega)]; simp
    · rw [if_neg cp, f _ (by omega) (by omega)]; simp
  unfold rgOk
  rw [sm]
  simp only [Bool.and_eq_true, decide_eq_true_eq]
  exact ⟨⟨⟨c0, by omega⟩, trivial⟩, hs.1⟩
/-! == of what is frozen -/
def okW : Nat → W → Bool
  | 0, _ => false
  | n + 1, w => match w with
    | .non => true
    | .bl _ => true
    | .int _ => true
    | .str x => PyData.strOk x
    | .tup ws => ws.all (okW n)
    | .kt ws => ws.all (okW n)
    | .lst ws => ws.all (okW n)
    | _ => false
theorem okW_pd : ∀ (n : Nat) (w : W), okW n w = true → ∃ d, pd h n w = some d ∧ PyData.canLay0 d = true ∧ PyData.depth d ≤ n
  | 0, _, e => by cases e
  | n + 1, w, e => by
    have all : ∀ ws : List W, ws.all (okW n) = true → ∃ ds, pdl (pd h n) ws = some ds ∧ PyData.canLayAll0 ds = true ∧ PyData.depthAll ds ≤ n := by
      intro ws
      induction ws with
      | nil => intro _; exact ⟨[], rfl, rfl, Nat.zero_le _⟩
      | cons w ws ih =>
        intro e
        rw [List.all_cons, Bool.and_eq_true] at e
        obtain ⟨ds, a1, a2, a3⟩ := ih e.2
        obtain ⟨d, b1, b2, b3⟩ := okW_pd n w e.1
        refine ⟨d :: ds, by unfold pdl; rw [b1, a1], ?_, ?_⟩
        · unfold PyData.canLayAll0; rw [b2, a2]; rfl
        · unfold PyData.depthAll; omega
    unfold okW at e
    unfold pd
    cases w with
    | non => exact ⟨_, rfl, rfl, Nat.zero_le _⟩
    | bl _ => exact ⟨_, rfl, rfl, Nat.zero_le _⟩
    | int _ => exact ⟨_, rfl, rfl, Nat.zero_le _⟩
    | str x => exact ⟨_, rfl, by simpa [PyData.canLay0] using e, Nat.zero_le _⟩
    | tup ws => obtain ⟨ds, a1, a2, a3⟩ := all ws e; exact ⟨.tuple ds, by dsimp only; rw [a1]; rfl, by unfold PyData.canLay0; exact a2, by unfold PyData.depth; omega⟩
    | kt ws => obtain ⟨ds, a1, a2, a3⟩ := all ws e; exact ⟨.tuple ds, by dsimp only; rw [a1]; rfl, by unfold PyData.canLay0; exact a2, by unfold PyData.depth; omega⟩
    | lst ws => obtain ⟨ds, a1, a2, a3⟩ := all ws e; exact ⟨.list ds, by dsimp only [lview]; rw [a1]; rfl, by unfold PyData.canLay0; exact a2, by unfold PyData.depth; omega⟩
    | _ => cases e
theorem pd_shaped {w : W} {d : PyData} (e : okW 9 w = true) (p : pd h 9 w = some d) : SeqAt.shaped d = true := by
  obtain ⟨d', e1, e2, e3⟩ := okW_pd (h := h) 9 w e
  rw [p] at e1
  cases e1
  unfold SeqAt.shaped
  rw [e2, decide_eq_true (by omega)]
  rfl
theorem weq_pd {x y : W} {d d' : PyData} (nx : dview h x = none) (ni : ∀ a b, ¬ (x = .int a ∧ y = .int b)) (ns : ∀ a b, ¬ (x = .str a ∧ y = .str b)) (nb : ∀ a b, ¬ (x = .bl a ∧ y = .bl b)) (ex : pd h 9 x = some d) (ey : pd h 9 y = some d') (sx : SeqAt.shaped d = true) (sy : SeqAt.shaped d' = true) : weq h x y = some (PyData.eqv d d') := by
  unfold weq
  split
  · exact absurd ⟨rfl, rfl⟩ (ni _ _)
  · exact absurd ⟨rfl, rfl⟩ (ns _ _)
  · exact absurd ⟨rfl, rfl⟩ (nb _ _)
  · rw [nx]
    dsimp only
    rw [ex, ey]
    dsimp only
    rw [if_pos ⟨sx, sy⟩]
def isCont : W → Bool
  | .tup _ => true | .kt _ => true | .lst _ => true | _ => false
theorem weq_refl {x y : W} (ex : okW 9 x = true) (ey : okW 9 y = true) (c : isCont x = true) (e : pd h 9 x = pd h 9 y) : weq h x y = some true := by
  obtain ⟨d, e1, e2, e3⟩ := okW_pd (h := h) 9 x ex
  have e4 := e.symm.trans e1
  have sx := pd_shaped ex e1
  rw [weq_pd (d := d) (d' := d) (by cases x <;> first | rfl | cases c) (fun a b z => by rw [z.1] at c; cases c) (fun a b z => by rw [z.1] at c; cases c) (fun a b z => by rw [z.1] at c; cases c) e1 e4 sx sx, SeqAt.eqv_refl d e2]
theorem okW_ints (n : Nat) (l : List Int) : (l.map W.int).all (okW (n + 1)) = true := by
  rw [List.all_map, List.all_eq_true]; intro _ _; rfl
theorem weq_lst {ws : List W} (e : ws.all (okW 8) = true) : weq h (.lst ws) (.lst ws) = some true := weq_refl e e rfl rfl
theorem weq_tup {ws : List W} (e : ws.all (okW 8) = true) : weq h (.tup ws) (.tup ws) = some true := weq_refl e e rfl rfl
theorem weq_kttup {ws : List W} (e : ws.all (okW 8) = true) : weq h (.kt ws) (.tup ws) = some true := weq_refl e e rfl rfl
theorem weq_tupkt {ws : List W} (e : ws.all (okW 8) = true) : weq h (.tup ws) (.kt ws) = some true := weq_refl e e rfl rfl
end
end Pk
end

/-! PlM -/
section
set_option Elab.async false
set_option linter.all false
set_option maxRecDepth 100000
set_option maxHeartbeats 4000000
/-! list(zip(a, b)) over two tuples -/
namespace ZL
open PySem PySem.Spec PyProof.Rows
open PySem.Sem (wp)
abbrev ZipIt (h : Heap) (z TI TO : Addr) (a : Addr) (f : Bool) : Prop :=
  h.get? z = some { cls := .type "zip", dict := none, data := .fields #[rawInt a, .bool f, .bool false, .ref TI, .ref TO], slots := #[] }
section
variable {prog : Program} {w : World} {A : Around} {E : Value → Shared → Prop} {s : Shared}
theorem out_item {z TI TO i1 i2 l1 l2 a : Addr} {f : Bool} {oa : Obj} {k1 k2 : Nat} {xs ys : Array Value} {x y : Value} {Q : Value → Shared → Prop} (D : ZipApart z TI TO i1 i2 l1 l2)
    (hz : ZipIt s.heap z TI TO a f) (ha : s.heap.get? a = some oa) (hTI : IsPair s.heap TI (.ref i1) (.ref i2))
    (h1 : s.heap.IsTupleIter i1 l1 k1) (h2 : s.heap.IsTupleIter i2 l2 k2) (hl1 : s.heap.IsTuple l1 xs) (hl2 : s.heap.IsTuple l2 ys) (hx : xs[k1]? = some x) (hy : ys[k2]? = some y)
    (hQ : ∀ h', ZipIt h' z TI TO a true → h'.IsTupleIter i1 l1 (k1 + 1) → h'.IsTupleIter i2 l2 (k2 + 1) → IsPair h' s.heap.objs.size x y → h'.objs.size = s.heap.objs.size + 1 →
      (∀ c o, c ≠ z → c ≠ i1 → c ≠ i2 → s.heap.get? c = some o → h'.get? c = some o) → Q (.ref s.heap.objs.size) { s with heap := h' }) :
    wpAny (model prog w) A (Builtin.«zip.__next__» ⟨[.ref z], []⟩) (fun fin s' => ∃ v, fin = .done (.ret v) ∧ Q v s') E s := by
  obtain ⟨hp, g, d, tk, os⟩ := s
  show wpAny _ _ (field (.ref z) 2 >>= _) _ _ _
  refine wpAny_bind (wpAny_field hz rfl (x := .bool false) rfl ?_)
  show wpAny _ _ (field (.ref z) 3 >>= _) _ _ _
  refine wpAny_bind (wpAny_field hz rfl (x := .ref TI) rfl ?_)
  refine wpAny_bind (wpAny_seqItems hTI rfl ?_)
  show wpAny _ _ (Builtin.SmallTypes.ownedTupleIsFree (.ref z) >>= _) _ _ _
  refine wpAny_bind ?_
  unfold Builtin.SmallTypes.ownedTupleIsFree
  refine wpAny_bind (wpAny_field hz rfl (x := rawInt a) rfl ?_)
  show wpAny _ _ (loadIfAlive ((a : Int).toNat) >>= _) _ _ _
  rw [Int.toNat_natCast]
  refine wpAny_bind (PySem.W.kdx_alive ha ?_)
  simp only [Option.isNone_some, Bool.false_eq_true, if_false]
  refine wpAny_bind (wpAny_field hz rfl (x := .bool f) rfl ?_)
  have rest : ∀ h₀ : Heap, ZipIt h₀ z TI TO a true → Heap.SameBut z hp h₀ → wpAny (model prog w) A (Builtin.SmallTypes.nextOf (.ref i1)) (fun x1 s1 => wpAny (model prog w) A (Builtin.SmallTypes.nextOf (.ref i2)) (fun x2 s2 => wpAny (model prog w) A (newTuple [x1, x2] >>= fun r => ret r) (fun fin s' => ∃ v, fin = .done (.ret v) ∧ Q v s') E s2) E s1) E ⟨h₀, g, d, tk, os⟩ := by
    intro h₀ hz₀ hs₀
    have k0 : ∀ c o, c ≠ z → hp.get? c = some o → h₀.get? c = some o := fun c o n e => hs₀.extBut _ _ n e
    refine RZ.nextOf_tuple_item (s := ⟨h₀, g, d, tk, os⟩) (h1.at fun o e => k0 _ o D.i1z e) (let ⟨o, e, r⟩ := hl1; ⟨o, k0 _ o D.l1z e, r⟩) hx fun h₁ h1₁ hs₁ => ?_
    have k1' : ∀ c o, c ≠ z → c ≠ i1 → hp.get? c = some o → h₁.get? c = some o := fun c o n n1 e => hs₁.extBut _ _ n1 (k0 c o n e)
    refine RZ.nextOf_tuple_item (s := ⟨h₁, g, d, tk, os⟩) (h2.at fun o e => k1' _ o D.i2z D.i12.symm e) (let ⟨o, e, r⟩ := hl2; ⟨o, k1' _ o D.l2z D.l2i1 e, r⟩) hy fun h₂ h2₂ hs₂ => ?_
    have k2' : ∀ c o, c ≠ z → c ≠ i1 → c ≠ i2 → hp.get? c = some o → h₂.get? c = some o := fun c o n n1 n2 e => hs₂.extBut _ _ n2 (k1' c o n n1 e)
    refine wpAny_bind (wpAny_newTuple ?_)
    refine wpAny_pure ⟨_, rfl, ?_⟩
    have z0 : h₀.objs.size = hp.objs.size := hs₀.1
    have z1 : h₁.objs.size = h₀.objs.size := hs₁.1
    have z2 : h₂.objs.size = h₁.objs.size := hs₂.1
    have hsz : h₂.objs.size = hp.objs.size := by rw [z2, z1, z0]
    have hz₂ : ZipIt h₂ z TI TO a true := hs₂.extBut _ _ D.i2z.symm (hs₁.extBut _ _ D.i1z.symm hz₀)
    have h1₂ : h₂.IsTupleIter i1 l1 (k1 + 1) := h1₁.at fun o e => hs₂.extBut _ _ D.i12 e
    show Q (.ref h₂.objs.size) ⟨h₂.push { cls := .type "tuple", data := .seq #[x, y] }, g, d, tk, os⟩
    rw [hsz]
    refine hQ _ (Heap.get?_push_of_some _ hz₂) (h1₂.at fun o e => Heap.get?_push_of_some _ e) (h2₂.at fun o e => Heap.get?_push_of_some _ e) ?_ (by rw [Heap.size_push, hsz]) fun c o n n1 n2 e => Heap.get?_push_of_some _ (k2' c o n n1 n2 e)
    show IsPair _ hp.objs.size x y
    rw [← hsz]
    exact Heap.get?_push_size _ rfl
  cases f with
  | true =>
    rw [if_neg (show ¬ ((Value.bool true != Value.bool true) = true) from Bool.false_ne_true)]
    refine wpAny_pure ?_
    simp only [Bool.false_eq_true, if_false]
    simp only [← Array.forIn_toList, List.forIn_cons, List.forIn_nil]
    refine wpAny_bind ?_
    refine wpAny_bind ?_
    refine wpAny_bind (wpAny_holding ?_)
    show wpAny _ _ (Builtin.SmallTypes.nextOf (.ref i1) >>= _) _ _ _
    refine wpAny_bind (wpAny_mono (rest hp hz (Heap.SameBut.refl _ _)) (fun x1 s1 q => wpAny_pure (wpAny_pure ?_)) fun _ _ q => q)
    refine wpAny_bind ?_
    refine wpAny_bind (wpAny_holding ?_)
    show wpAny _ _ (Builtin.SmallTypes.nextOf (.ref i2) >>= _) _ _ _
    refine wpAny_bind (wpAny_mono q (fun x2 s2 q => wpAny_pure (wpAny_pure (wpAny_pure ?_))) fun _ _ q => q)
    exact q
  | false =>
    rw [if_pos (show (Value.bool false != Value.bool true) = true from rfl)]
    refine wpAny_bind (wpAny_setField_rec hz (by simp) fun h₃ he₃ hs₃ => ?_)
    replace hs₃ : Heap.SameBut z hp h₃ := hs₃
    replace he₃ : ZipIt h₃ z TI TO a true := he₃
    refine wpAny_pure ?_
    simp only [Bool.false_eq_true, if_false]
    simp only [← Array.forIn_toList, List.forIn_cons, List.forIn_nil]
    refine wpAny_bind ?_
    refine wpAny_bind ?_
    refine wpAny_bind (wpAny_holding ?_)
    show wpAny _ _ (Builtin.SmallTypes.nextOf (.ref i1) >>= _) _ _ ⟨h₃, g, d, tk, os⟩
    refine wpAny_bind (wpAny_mono (rest h₃ he₃ hs₃) (fun x1 s1 q => wpAny_pure (wpAny_pure ?_)) fun _ _ q => q)
    refine wpAny_bind ?_
    refine wpAny_bind (wpAny_holding ?_)
    show wpAny _ _ (Builtin.SmallTypes.nextOf (.ref i2) >>= _) _ _ _
    refine wpAny_bind (wpAny_mono q (fun x2 s2 q => wpAny_pure (wpAny_pure (wpAny_pure ?_))) fun _ _ q => q)
    exact q
theorem out_end {z TI TO i1 i2 l1 l2 a : Addr} {f : Bool} {oa : Obj} {k1 k2 : Nat} {xs ys : Array Value} {Q : Fin → Shared → Prop} (hh : A.handled = none) (D : ZipApart z TI TO i1 i2 l1 l2)
    (hz : ZipIt s.heap z TI TO a f) (ha : s.heap.get? a = some oa) (hTI : IsPair s.heap TI (.ref i1) (.ref i2))
    (h1 : s.heap.IsTupleIter i1 l1 k1) (h2 : s.heap.IsTupleIter i2 l2 k2) (hl1 : s.heap.IsTuple l1 xs) (hl2 : s.heap.IsTuple l2 ys) (hend : xs[k1]? = none ∨ ys[k2]? = none)
    (hE : ∀ h' e, (∀ c o, c ≠ z → c ≠ i1 → c ≠ i2 → s.heap.get? c = some o → h'.get? c = some o) → (∃ o, h'.get? e = some o ∧ o.cls = .type "StopIteration") → E (.ref e) { s with heap := h' }) :
    wpAny (model prog w) A (Builtin.«zip.__next__» ⟨[.ref z], []⟩) Q E s := by
  obtain ⟨hp, g, d, tk, os⟩ := s
  show wpAny _ _ (field (.ref z) 2 >>= _) _ _ _
  refine wpAny_bind (wpAny_field hz rfl (x := .bool false) rfl ?_)
  show wpAny _ _ (field (.ref z) 3 >>= _) _ _ _
  refine wpAny_bind (wpAny_field hz rfl (x := .ref TI) rfl ?_)
  refine wpAny_bind (wpAny_seqItems hTI rfl ?_)
  show wpAny _ _ (Builtin.SmallTypes.ownedTupleIsFree (.ref z) >>= _) _ _ _
  refine wpAny_bind ?_
  unfold Builtin.SmallTypes.ownedTupleIsFree
  refine wpAny_bind (wpAny_field hz rfl (x := rawInt a) rfl ?_)
  show wpAny _ _ (loadIfAlive ((a : Int).toNat) >>= _) _ _ _
  rw [Int.toNat_natCast]
  refine wpAny_bind (PySem.W.kdx_alive ha ?_)
  simp only [Option.isNone_some, Bool.false_eq_true, if_false]
  refine wpAny_bind (wpAny_field hz rfl (x := .bool f) rfl ?_)
  have rest : ∀ h₀ : Heap, ZipIt h₀ z TI TO a true → Heap.SameBut z hp h₀ → ∀ Q' : Value → Shared → Prop, wpAny (model prog w) A (Builtin.SmallTypes.nextOf (.ref i1)) (fun x1 s1 => wpAny (model prog w) A (Builtin.SmallTypes.nextOf (.ref i2)) Q' E s1) E ⟨h₀, g, d, tk, os⟩ := by
    intro h₀ hz₀ hs₀ Q'
    have k0 : ∀ c o, c ≠ z → hp.get? c = some o → h₀.get? c = some o := fun c o n e => hs₀.extBut _ _ n e
    cases hx : xs[k1]? with
    | none =>
      refine RZ.nextOf_tuple_end (s := ⟨h₀, g, d, tk, os⟩) hh (h1.at fun o e => k0 _ o D.i1z e) (let ⟨o, e, r⟩ := hl1; ⟨o, k0 _ o D.l1z e, r⟩) hx fun h₁ e hs₁ he => ?_
      exact hE h₁ e (fun c o n n1 n2 e => hs₁ _ _ n1 (k0 c o n e)) he
    | some x =>
      have hy : ys[k2]? = none := by rcases hend with h | h; rw [hx] at h; cases h; exact h
      refine RZ.nextOf_tuple_item (s := ⟨h₀, g, d, tk, os⟩) (h1.at fun o e => k0 _ o D.i1z e) (let ⟨o, e, r⟩ := hl1; ⟨o, k0 _ o D.l1z e, r⟩) hx fun h₁ h1₁ hs₁ => ?_
      have k1' : ∀ c o, c ≠ z → c ≠ i1 → hp.get? c = some o → h₁.get? c = some o := fun c o n n1 e => hs₁.extBut _ _ n1 (k0 c o n e)
      refine RZ.nextOf_tuple_end (s := ⟨h₁, g, d, tk, os⟩) hh (h2.at fun o e => k1' _ o D.i2z D.i12.symm e) (let ⟨o, e, r⟩ := hl2; ⟨o, k1' _ o D.l2z D.l2i1 e, r⟩) hy fun h₂ e hs₂ he => ?_
      exact hE h₂ e (fun c o n n1 n2 e => hs₂ _ _ n2 (k1' c o n n1 e)) he
  cases f with
  | true =>
    rw [if_neg (show ¬ ((Value.bool true != Value.bool true) = true) from Bool.false_ne_true)]
    refine wpAny_pure ?_
    simp only [Bool.false_eq_true, if_false]
    simp only [← Array.forIn_toList, List.forIn_cons, List.forIn_nil]
    refine wpAny_bind ?_
    refine wpAny_bind ?_
    refine wpAny_bind (wpAny_holding ?_)
    show wpAny _ _ (Builtin.SmallTypes.nextOf (.ref i1) >>= _) _ _ _
    refine wpAny_bind (wpAny_mono (rest hp hz (Heap.SameBut.refl _ _) fun _ _ => False) (fun x1 s1 q => wpAny_pure (wpAny_pure ?_)) fun _ _ q => q)
    refine wpAny_bind ?_
    refine wpAny_bind (wpAny_holding ?_)
    show wpAny _ _ (Builtin.SmallTypes.nextOf (.ref i2) >>= _) _ _ _
    exact wpAny_bind (wpAny_mono q (fun _ _ f => f.elim) fun _ _ q => q)
  | false =>
    rw [if_pos (show (Value.bool false != Value.bool true) = true from rfl)]
    refine wpAny_bind (wpAny_setField_rec hz (by simp) fun h₃ he₃ hs₃ => ?_)
    replace hs₃ : Heap.SameBut z hp h₃ := hs₃
    replace he₃ : ZipIt h₃ z TI TO a true := he₃
    refine wpAny_pure ?_
    simp only [Bool.false_eq_true, if_false]
    simp only [← Array.forIn_toList, List.forIn_cons, List.forIn_nil]
    refine wpAny_bind ?_
    refine wpAny_bind ?_
    refine wpAny_bind (wpAny_holding ?_)
    show wpAny _ _ (Builtin.SmallTypes.nextOf (.ref i1) >>= _) _ _ ⟨h₃, g, d, tk, os⟩
    refine wpAny_bind (wpAny_mono (rest h₃ he₃ hs₃ fun _ _ => False) (fun x1 s1 q => wpAny_pure (wpAny_pure ?_)) fun _ _ q => q)
    refine wpAny_bind ?_
    refine wpAny_bind (wpAny_holding ?_)
    show wpAny _ _ (Builtin.SmallTypes.nextOf (.ref i2) >>= _) _ _ _
    exact wpAny_bind (wpAny_mono q (fun _ _ f => f.elim) fun _ _ q => q)
/-- a zip that list(..) walks, with what lies behind it -/
structure ZSt (h : Heap) (z TI TO i1 i2 l1 l2 S : Addr) (xs ys : Array Value) (i : Nat) : Prop where
  pTI : IsPair h TI (.ref i1) (.ref i2)
  pi1 : h.IsTupleIter i1 l1 i
  pi2 : h.IsTupleIter i2 l2 i
  pl1 : h.IsTuple l1 xs
  pl2 : h.IsTuple l2 ys
  pst : (IsZip h z TI TO .none ∧ ∃ a b, IsPair h TO a b) ∨ ∃ a f oa, ZipIt h z TI TO a f ∧ h.get? a = some oa ∧ a ≠ z ∧ a ≠ S ∧ a ≠ i1 ∧ a ≠ i2 ∧ a ≠ TO
theorem ZSt.keep {h h' : Heap} {z TI TO i1 i2 l1 l2 S : Addr} {xs ys : Array Value} {i : Nat} (x : ZSt h z TI TO i1 i2 l1 l2 S xs ys i) (hk : ∀ b o, b ≠ S → h.get? b = some o → h'.get? b = some o)
    (nS : z ≠ S ∧ TI ≠ S ∧ TO ≠ S ∧ i1 ≠ S ∧ i2 ≠ S ∧ l1 ≠ S ∧ l2 ≠ S) : ZSt h' z TI TO i1 i2 l1 l2 S xs ys i := by
  obtain ⟨a, b, c, d, e, f⟩ := x
  obtain ⟨n1, n2, n3, n4, n5, n6, n7⟩ := nS
  refine ⟨hk _ _ n2 a, b.at fun o e => hk _ o n4 e, c.at fun o e => hk _ o n5 e, let ⟨o, e, r⟩ := d; ⟨o, hk _ o n6 e, r⟩, let ⟨o, q, r⟩ := e; ⟨o, hk _ o n7 q, r⟩, ?_⟩
  rcases f with ⟨f1, u, v, f2⟩ | ⟨u, f, oa, f1, f2, f3, f4, f5⟩
  · exact .inl ⟨hk _ _ n1 f1, u, v, hk _ _ n3 f2⟩
  · exact .inr ⟨u, f, oa, hk _ _ n1 f1, hk _ _ f4 f2, f3, f4, f5⟩
theorem z_item {z TI TO i1 i2 l1 l2 S : Addr} {xs ys : Array Value} {i : Nat} {x y : Value} {Q : Option Value → Shared → Prop} (D : ZipApart z TI TO i1 i2 l1 l2) (st : ZSt s.heap z TI TO i1 i2 l1 l2 S xs ys i)
    (hS : S < s.heap.objs.size) (lz : z < s.heap.objs.size ∧ TI < s.heap.objs.size ∧ TO < s.heap.objs.size ∧ i1 < s.heap.objs.size ∧ i2 < s.heap.objs.size) (hx : xs[i]? = some x) (hy : ys[i]? = some y)
    (hQ : ∀ h', ZSt h' z TI TO i1 i2 l1 l2 S xs ys (i + 1) → IsPair h' s.heap.objs.size x y → h'.objs.size = s.heap.objs.size + 1 → (∀ c o, c ≠ z → c ≠ TO → c ≠ i1 → c ≠ i2 → s.heap.get? c = some o → h'.get? c = some o) → Q (some (.ref s.heap.objs.size)) { s with heap := h' }) :
    wpAny (model prog w) A (pyNext (.ref z)) Q E s := by
  obtain ⟨q1, q2, q3, q4, q5, q6⟩ := st
  obtain ⟨z1, z2, z3, z4, z5⟩ := lz
  have tl : ∀ {l : Addr} {vs : Array Value} {h' : Heap}, l ≠ z → l ≠ TO → l ≠ i1 → l ≠ i2 → (∀ c o, c ≠ z → c ≠ TO → c ≠ i1 → c ≠ i2 → s.heap.get? c = some o → h'.get? c = some o) → s.heap.IsTuple l vs → h'.IsTuple l vs := fun n1 n2 n3 n4 k ⟨o, e, r⟩ => ⟨o, k _ o n1 n2 n3 n4 e, r⟩
  rcases q6 with ⟨f1, u, v, f2⟩ | ⟨u, f, oa, f1, f2, f3, f4, f5, f6, f7⟩
  · refine RZ.pyNext_zipT_item D f1 q1 f2 q2 q3 q4 q5 hx hy fun h' a1 a2 a3 a4 a5 a6 a7 => ?_
    exact hQ h' ⟨a7 _ _ D.TIz D.TITO D.TIi1 D.TIi2 q1, a3, a4, tl D.l1z D.l1TO D.l1i1 D.l1i2 a7 q4, tl D.l2z D.l2TO D.l2i1 D.l2i2 a7 q5, .inr ⟨_, false, _, a1, a5, Nat.ne_of_gt z1, Nat.ne_of_gt hS, Nat.ne_of_gt z4, Nat.ne_of_gt z5, Nat.ne_of_gt z3⟩⟩ a5 a6 a7
  · have hT : s.TypeIs (.ref z) "zip" := ⟨_, f1, rfl⟩
    unfold pyNext
    exact wpAny_bind (wpAny_attempt (wpAny_callSpecial?_slot (name := Str.ofString "__next__") hT F.slot_zip_next
      (wpAny_call_entry F.slot_zip_next hT F.entry_zip_next
        (out_item D f1 f2 q1 q2 q3 q4 q5 hx hy fun h' a1 a2 a3 a4 a5 a6 => wpAny_pure (by
          have a7 : ∀ c o, c ≠ z → c ≠ TO → c ≠ i1 → c ≠ i2 → s.heap.get? c = some o → h'.get? c = some o := fun c o n1 _ n3 n4 e => a6 c o n1 n3 n4 e
          exact hQ h' ⟨a7 _ _ D.TIz D.TITO D.TIi1 D.TIi2 q1, a2, a3, tl D.l1z D.l1TO D.l1i1 D.l1i2 a7 q4, tl D.l2z D.l2TO D.l2i1 D.l2i2 a7 q5, .inr ⟨_, true, oa, a1, a6 _ _ f3 f5 f6 f2, f3, f4, f5, f6, f7⟩⟩ a4 a5 a7)) (F.args_zip_next_1 _))))
theorem z_done {z TI TO i1 i2 l1 l2 S : Addr} {xs ys : Array Value} {i : Nat} {Q : Option Value → Shared → Prop} (hh : A.handled = none) (D : ZipApart z TI TO i1 i2 l1 l2) (st : ZSt s.heap z TI TO i1 i2 l1 l2 S xs ys i)
    (hend : xs[i]? = none ∨ ys[i]? = none)
    (hQ : ∀ h', (∀ c o, c ≠ z → c ≠ TO → c ≠ i1 → c ≠ i2 → s.heap.get? c = some o → h'.get? c = some o) → Q none { s with heap := h' }) :
    wpAny (model prog w) A (pyNext (.ref z)) Q E s := by
  obtain ⟨q1, q2, q3, q4, q5, q6⟩ := st
  rcases q6 with ⟨f1, u, v, f2⟩ | ⟨u, f, oa, f1, f2, f3, f4, f5, f6⟩
  · exact RZ.pyNext_zipT_end hh D f1 q1 f2 q2 q3 q4 q5 hend hQ
  · have hT : s.TypeIs (.ref z) "zip" := ⟨_, f1, rfl⟩
    unfold pyNext
    refine wpAny_bind (wpAny_attempt (wpAny_callSpecial?_slot (name := Str.ofString "__next__") hT F.slot_zip_next
      (wpAny_call_entry F.slot_zip_next hT F.entry_zip_next (out_end hh D f1 f2 q1 q2 q3 q4 q5 hend fun h' e hk he => ?_) (F.args_zip_next_1 _))))
    obtain ⟨o, ho, hc⟩ := he
    refine wpAny_bind (wpAny_isInstance (T := "StopIteration") (b := true) ⟨o, ho, hc⟩ isSubtype_stop ?_)
    exact wpAny_pure (hQ _ fun c o n1 _ n3 n4 e => hk c o n1 n3 n4 e)
/-- the pairs made -/
structure ZG (xs ys : Array Value) (lo : Addr) (h : Heap) (as : List Addr) : Prop where
  rise : as.Pairwise (· < ·)
  above : ∀ a ∈ as, lo < a
  pairs : ∀ (j : Nat) (a : Addr), as[j]? = some a → ∃ x y, xs[j]? = some x ∧ ys[j]? = some y ∧ IsPair h a x y
theorem ZG.there {xs ys : Array Value} {lo : Addr} {h : Heap} {as : List Addr} (g : ZG xs ys lo h as) {a : Addr} (ha : a ∈ as) : a < h.objs.size := by
  obtain ⟨j, hj⟩ := List.mem_iff_getElem?.mp ha
  obtain ⟨_, _, _, _, e⟩ := g.pairs j a hj
  exact Heap.lt_size e
end
section
variable {prog : Program} {w : World} {A : Around} {s : Shared} {R : Result → Shared → Prop}
theorem z_loop {z TI TO i1 i2 l1 l2 S : Addr} {xs ys : Array Value} {n : Nat} (hh : A.handled = none) (D : ZipApart z TI TO i1 i2 l1 l2) (lS : z < S ∧ TI < S ∧ TO < S ∧ i1 < S ∧ i2 < S ∧ l1 < S ∧ l2 < S) (hn1 : n ≤ xs.size) (hn2 : n ≤ ys.size) (he : n = xs.size ∨ n = ys.size) (hn : n ≤ sizeLine) (res : Value) {h₁ : Heap}
    (hR : ∀ h' tk acc c as, (∀ b o, b ≠ S → b ≠ z → b ≠ TO → b ≠ i1 → b ≠ i2 → h₁.get? b = some o → h'.get? b = some o) → h'.get? S = some { cls := .type "list", dict := none, data := .seq acc c, slots := #[] } → as.length = n → ZG xs ys S h' as →
      acc.toList = as.map Value.ref → R (.ok (.ret res)) { s with heap := h', toks := tk }) :
    ∀ (k i : Nat) (h : Heap) (tk c : Nat) (acc : Array Value) (as : List Addr), n - i = k → i ≤ n → ZSt h z TI TO i1 i2 l1 l2 S xs ys i → (∀ b o, b ≠ S → b ≠ z → b ≠ TO → b ≠ i1 → b ≠ i2 → h₁.get? b = some o → h.get? b = some o) →
      h.get? S = some { cls := .type "list", dict := none, data := .seq acc c, slots := #[] } → acc.toList = as.map Value.ref → as.length = i → ZG xs ys S h as →
      codeAny (model prog w) A (.builtin "list.extend.loop" ⟨[.ref S, .ref z, res], []⟩) R { s with heap := h, toks := tk } := by
  obtain ⟨m1, m2, m3, m4, m5, m6, m7⟩ := lS
  intro k
  induction k with
  | zero =>
    intro i h tk c acc as hk hi hst hkeep hS hacc hal hG
    have hin : i = n := by omega
    have hend : xs[i]? = none ∨ ys[i]? = none := by
      rcases he with q | q
      · exact .inl (by simp; omega)
      · exact .inr (by simp; omega)
    refine codeAny_builtin PySem.F.entry_extend_loop ?_
    rw [Around.under_plainId PySem.F.plain_extend_loop _]
    show wpAny _ A.in1 (pyNext (.ref z) >>= _) _ _ _
    refine wpAny_bind (z_done (s := { s with heap := h, toks := tk }) (A := A.in1) hh D hst hend fun h' he => ?_)
    refine wpAny_pure (hR h' tk acc c as (fun b o h1 h2 h3 h4 h5 e => he b o h2 h3 h4 h5 (hkeep b o h1 h2 h3 h4 h5 e)) (he S _ (Nat.ne_of_gt m1) (Nat.ne_of_gt m3) (Nat.ne_of_gt m4) (Nat.ne_of_gt m5) hS) (by omega) ⟨hG.rise, hG.above, fun j a hj => ?_⟩ hacc)
    obtain ⟨x, y, e1, e2, e3⟩ := hG.pairs j a hj
    have ha := hG.above a (List.mem_of_getElem? hj)
    exact ⟨x, y, e1, e2, he a _ (Nat.ne_of_gt (Nat.lt_trans m1 ha)) (Nat.ne_of_gt (Nat.lt_trans m3 ha)) (Nat.ne_of_gt (Nat.lt_trans m4 ha)) (Nat.ne_of_gt (Nat.lt_trans m5 ha)) e3⟩
  | succ k ih =>
    intro i h tk c acc as hk hi hst hkeep hS hacc hal hG
    have hlt : i < n := by omega
    obtain ⟨x, hx⟩ : ∃ p, xs[i]? = some p := ⟨xs[i], by simp⟩
    obtain ⟨y, hy⟩ : ∃ p, ys[i]? = some p := ⟨ys[i], by simp⟩
    have hsz : acc.size = i := by rw [← Array.length_toList, hacc, List.length_map, hal]
    have hSl : S < h.objs.size := Heap.lt_size hS
    refine codeAny_builtin PySem.F.entry_extend_loop ?_
    rw [Around.under_plainId PySem.F.plain_extend_loop _]
    show wpAny _ A.in1 (pyNext (.ref z) >>= _) _ _ _
    refine wpAny_bind (z_item (s := { s with heap := h, toks := tk }) (S := S) D hst hSl ⟨Nat.lt_trans m1 hSl, Nat.lt_trans m2 hSl, Nat.lt_trans m3 hSl, Nat.lt_trans m4 hSl, Nat.lt_trans m5 hSl⟩ hx hy fun h' hst' ht hz hkp => ?_)
    dsimp only at ht hz hkp ⊢
    have hS' := hkp S _ (Nat.ne_of_gt m1) (Nat.ne_of_gt m3) (Nat.ne_of_gt m4) (Nat.ne_of_gt m5) hS
    have up : ∀ b o, b ≠ S → h'.get? b = some o → (h'.update S (Obj.mapSeq (·.push (Value.ref h.objs.size)))).get? b = some o := fun b o hb e => (Heap.get?_update_other _ _ (Ne.symm hb)).trans e
    show wpAny _ A.in1 (updateSeq S (·.push (Value.ref h.objs.size)) >>= _) _ _ _
    refine wpAny_bind ?_
    refine wpAny_updateSeq hS' rfl (wpAny_pure ⟨plainId_quiet PySem.F.plain_extend_loop _, ih (i + 1) _ tk _ (acc.push (Value.ref h.objs.size)) (as ++ [h.objs.size]) (by omega) hlt (hst'.keep up ⟨Nat.ne_of_lt m1, Nat.ne_of_lt m2, Nat.ne_of_lt m3, Nat.ne_of_lt m4, Nat.ne_of_lt m5, Nat.ne_of_lt m6, Nat.ne_of_lt m7⟩)
      (fun b o h1 h2 h3 h4 h5 e => up b o h1 (hkp b o h2 h3 h4 h5 (hkeep b o h1 h2 h3 h4 h5 e))) (Heap.get?_update_self _ hS' rfl) (by rw [Array.toList_push, hacc, List.map_append]; rfl) (by rw [List.length_append, hal]; rfl) ⟨?_, ?_, ?_⟩⟩) (by rw [hsz]; omega) (by show (acc.push (Value.ref h.objs.size)).size ≤ sizeLine + 1; rw [Array.size_push, hsz]; omega)
    · refine List.pairwise_append.mpr ⟨hG.rise, List.pairwise_singleton _ _, fun a ha b hb => ?_⟩
      rw [List.mem_singleton.mp hb]
      exact hG.there ha
    · intro a ha
      rcases List.mem_append.mp ha with ha | ha
      · exact hG.above a ha
      · rw [List.mem_singleton.mp ha]; exact hSl
    · intro j b hj
      rcases Nat.lt_trichotomy j as.length with h1 | h1 | h1
      · rw [List.getElem?_append_left h1] at hj
        obtain ⟨x', y', e1, e2, e3⟩ := hG.pairs j b hj
        have hb := hG.above b (List.mem_of_getElem? hj)
        exact ⟨x', y', e1, e2, up b _ (Nat.ne_of_gt hb) (hkp b _ (Nat.ne_of_gt (Nat.lt_trans m1 hb)) (Nat.ne_of_gt (Nat.lt_trans m3 hb)) (Nat.ne_of_gt (Nat.lt_trans m4 hb)) (Nat.ne_of_gt (Nat.lt_trans m5 hb)) e3)⟩
      · subst h1
        have hb : h.objs.size = b := by simpa using hj
        subst hb
        exact ⟨x, y, by rw [hal]; exact hx, by rw [hal]; exact hy, up _ _ (Nat.ne_of_gt hSl) ht⟩
      · have hnone : (as ++ [h.objs.size])[j]? = none := List.getElem?_eq_none (by rw [List.length_append, List.length_singleton]; omega)
        rw [hnone] at hj; cases hj
end
theorem zip_no_len : typeLookup (.type "zip") "__len__" = pure none := by rw [typeLookup_type, builtinLookup_eq_fast]; kernel_rfl
theorem zip_no_hint : typeLookup (.type "zip") "__length_hint__" = pure none := by rw [typeLookup_type, builtinLookup_eq_fast]; kernel_rfl
section
variable {prog : Program} {w : World} {A : Around} {E : Value → Shared → Prop} {s : Shared}
theorem z_extend {R : Result → Shared → Prop} {z TI TO i1 i2 l1 l2 S : Addr} {xs ys : Array Value} {n : Nat} (hh : A.handled = none) (D : ZipApart z TI TO i1 i2 l1 l2) (lS : z < S ∧ TI < S ∧ TO < S ∧ i1 < S ∧ i2 < S ∧ l1 < S ∧ l2 < S) (hn1 : n ≤ xs.size) (hn2 : n ≤ ys.size) (he : n = xs.size ∨ n = ys.size) (hn : n ≤ sizeLine) (res : Value) (c₀ : Nat)
    (st : ZSt s.heap z TI TO i1 i2 l1 l2 S xs ys 0) (hzz : ∃ f0, IsZip s.heap z TI TO f0) (hS : s.heap.get? S = some { cls := .type "list", data := .seq #[] c₀ })
    (hR : ∀ h' tk acc c as, (∀ b o, b ≠ S → b ≠ z → b ≠ TO → b ≠ i1 → b ≠ i2 → s.heap.get? b = some o → h'.get? b = some o) → h'.get? S = some { cls := .type "list", dict := none, data := .seq acc c, slots := #[] } → as.length = n → ZG xs ys S h' as →
      acc.toList = as.map Value.ref → R (.ok (.ret res)) { s with heap := h', toks := tk }) :
    wpAny (model prog w) A.in1 (Builtin.List.listExtendWith (.ref S) (.ref z) res)
      (fun fin s' => match fin with | .done f => R (.ok f) s' | .again c' => c'.quiet = true ∧ codeAny (model prog w) A c' R s') (fun e s' => R (.error e) s') s := by
  have lS' := lS
  obtain ⟨m1, m2, m3, m4, m5, m6, m7⟩ := lS'
  have nS : z ≠ S ∧ TI ≠ S ∧ TO ≠ S ∧ i1 ≠ S ∧ i2 ≠ S ∧ l1 ≠ S ∧ l2 ≠ S := ⟨Nat.ne_of_lt m1, Nat.ne_of_lt m2, Nat.ne_of_lt m3, Nat.ne_of_lt m4, Nat.ne_of_lt m5, Nat.ne_of_lt m6, Nat.ne_of_lt m7⟩
  obtain ⟨f0, hzz⟩ := hzz
  have key : ∀ (h : Heap) (c₁ tk : Nat), (∀ b o, b ≠ S → s.heap.get? b = some o → h.get? b = some o) →
      h.get? S = some { cls := .type "list", data := .seq #[] c₁ } → codeAny (model prog w) A (.builtin "list.extend.loop" ⟨[.ref S, .ref z, res], []⟩) R { s with heap := h, toks := tk } := by
    intro h c₁ tk hk hS₁
    refine z_loop (s := s) (h₁ := s.heap) (n := n) hh D lS hn1 hn2 he hn res hR n 0 h tk c₁ #[] [] (Nat.sub_zero _) (Nat.zero_le _) (st.keep hk nS) (fun b o hb _ _ _ _ e => hk b o hb e) hS₁ rfl rfl
      ⟨List.Pairwise.nil, (fun _ ha => nomatch ha), (fun j a hj => by simp at hj)⟩
  have hT : s.TypeIs (.ref z) "zip" := ⟨_, hzz, rfl⟩
  unfold Builtin.List.listExtendWith
  refine wpAny_bind (wpAny_typeOf (T := "zip") hT ?_)
  have h1 : Builtin.List.listSameRef (.ref S) (.ref z) = false := by simp [Builtin.List.listSameRef, Ne.symm nS.1]
  have h2 : (Value.type "zip" == Value.type "list") = false := by decide
  have h3 : (Value.type "zip" == Value.type "tuple") = false := by decide
  simp only [h1, h2, h3, Bool.or_false, Bool.false_eq_true, if_false]
  refine wpAny_bind (wpAny_pyIter_zip hzz ?_)
  refine wpAny_bind (wpAny_holding ?_)
  unfold Builtin.List.listLengthHint
  refine wpAny_bind (wpAny_specialOf hT zip_no_len ?_)
  show wpAny _ A.in1 (specialOf (Value.ref z) (Str.ofString "__length_hint__") >>= _) _ _ _
  refine wpAny_bind (wpAny_specialOf hT zip_no_hint ?_)
  refine wpAny_pure ?_
  show wpAny _ A.in1 (rule "list.extend.makes-room" >>= fun _ => Builtin.List.listTouch (.ref S) >>= fun _ =>
    again (.builtin "list.extend.loop" ⟨[.ref S, .ref z, res], []⟩)) _ _ _
  refine wpAny_bind (wpAny_rule ?_)
  refine wpAny_bind ?_
  show wpAny _ _ (updateSeq S (·.push .none) >>= fun _ => updateSeq S (·.pop)) _ _ _
  refine wpAny_bind (wpAny_updateSeq hS rfl ?_)
  have hS₂ := Heap.get?_update_self (Obj.mapSeq (·.push Value.none)) hS rfl
  refine wpAny_updateSeq (hz := by seq_fits) hS₂ rfl ?_
  have hS₃ := Heap.get?_update_self (Obj.mapSeq (·.pop)) hS₂ rfl
  refine wpAny_pure ⟨plainId_quiet PySem.F.plain_extend_loop _, key _ _ _ (fun b o hb e => ?_) hS₃⟩
  exact (Heap.get?_update_other _ _ (Ne.symm hb)).trans ((Heap.get?_update_other _ _ (Ne.symm hb)).trans e)
theorem z_init {R : Result → Shared → Prop} {z TI TO i1 i2 l1 l2 S : Addr} {xs ys : Array Value} {n : Nat} (hh : A.handled = none) (D : ZipApart z TI TO i1 i2 l1 l2) (lS : z < S ∧ TI < S ∧ TO < S ∧ i1 < S ∧ i2 < S ∧ l1 < S ∧ l2 < S) (hn1 : n ≤ xs.size) (hn2 : n ≤ ys.size) (he : n = xs.size ∨ n = ys.size) (hn : n ≤ sizeLine)
    (st : ZSt s.heap z TI TO i1 i2 l1 l2 S xs ys 0) (hzz : ∃ f0, IsZip s.heap z TI TO f0) (hS : s.heap.get? S = some { cls := .type "list", data := .seq #[] })
    (hR : ∀ h' tk acc c as, (∀ b o, b ≠ S → b ≠ z → b ≠ TO → b ≠ i1 → b ≠ i2 → s.heap.get? b = some o → h'.get? b = some o) → h'.get? S = some { cls := .type "list", dict := none, data := .seq acc c, slots := #[] } → as.length = n → ZG xs ys S h' as →
      acc.toList = as.map Value.ref → R (.ok (.ret .none)) { s with heap := h', toks := tk }) :
    wpAny (model prog w) A.in1 (Builtin.«list.__init__» ⟨[.ref S, .ref z], []⟩)
      (fun fin s' => match fin with | .done f => R (.ok f) s' | .again c' => c'.quiet = true ∧ codeAny (model prog w) A c' R s') (fun e s' => R (.error e) s') s := by
  show wpAny _ _ (do let old ← Builtin.List.listItems (.ref S); Builtin.List.listUpdate (.ref S) (fun _ => #[]); letGo old.toList.reverse; Builtin.List.listExtendWith (.ref S) (.ref z) .none) _ _ s
  refine wpAny_bind ?_
  unfold Builtin.List.listItems
  refine wpAny_bind (wpAny_seqItems hS rfl (wpAny_pure ?_))
  show wpAny _ _ (updateSeq S (fun _ => #[]) >>= fun _ => letGo (#[] : Array Value).toList.reverse >>= fun _ => Builtin.List.listExtendWith (.ref S) (.ref z) .none) _ _ s
  refine wpAny_bind (wpAny_updateSeq hS rfl ?_)
  have hS₂ := Heap.get?_update_self (Obj.mapSeq (fun _ => (#[] : Array Value))) hS rfl
  have oth : ∀ b o, b ≠ S → s.heap.get? b = some o → (s.heap.update S (Obj.mapSeq (fun _ => (#[] : Array Value)))).get? b = some o :=
    fun b o hb e => (Heap.get?_update_other _ _ (Ne.symm hb)).trans e
  refine wpAny_bind (wpAny_letGo ?_)
  have lS' := lS
  obtain ⟨m1, m2, m3, m4, m5, m6, m7⟩ := lS'
  obtain ⟨f0, hzz⟩ := hzz
  refine z_extend (n := n) hh D lS hn1 hn2 he hn .none _ (st.keep oth ⟨Nat.ne_of_lt m1, Nat.ne_of_lt m2, Nat.ne_of_lt m3, Nat.ne_of_lt m4, Nat.ne_of_lt m5, Nat.ne_of_lt m6, Nat.ne_of_lt m7⟩) ⟨f0, oth _ _ (Nat.ne_of_lt m1) hzz⟩ hS₂ (fun h' tk acc c as hk hS' hl hG hacc => ?_)
  exact hR h' tk acc c as (fun b o hb n1 n2 n3 n4 e => hk b o hb n1 n2 n3 n4 (oth b o hb e)) hS' hl hG hacc
theorem z_call {Q : Value → Shared → Prop} {z TI TO i1 i2 l1 l2 : Addr} {xs ys : Array Value} {n : Nat} (hh : A.handled = none) (D : ZipApart z TI TO i1 i2 l1 l2) (lS : z < s.heap.objs.size ∧ TI < s.heap.objs.size ∧ TO < s.heap.objs.size ∧ i1 < s.heap.objs.size ∧ i2 < s.heap.objs.size ∧ l1 < s.heap.objs.size ∧ l2 < s.heap.objs.size) (hn1 : n ≤ xs.size) (hn2 : n ≤ ys.size) (he : n = xs.size ∨ n = ys.size) (hn : n ≤ sizeLine)
    (hz : IsZip s.heap z TI TO .none) (pTI : IsPair s.heap TI (.ref i1) (.ref i2)) (pTO : IsPair s.heap TO .none .none) (p1 : s.heap.IsTupleIter i1 l1 0) (p2 : s.heap.IsTupleIter i2 l2 0) (q1 : s.heap.IsTuple l1 xs) (q2 : s.heap.IsTuple l2 ys)
    (hQ : ∀ h' tk acc c as, (∀ b o, b ≠ z → b ≠ TO → b ≠ i1 → b ≠ i2 → s.heap.get? b = some o → h'.get? b = some o) → h'.get? s.heap.objs.size = some { cls := .type "list", dict := none, data := .seq acc c, slots := #[] } → as.length = n → ZG xs ys s.heap.objs.size h' as →
      acc.toList = as.map Value.ref → Q (.ref s.heap.objs.size) { s with heap := h', toks := tk }) :
    wpAny (model prog w) A (call (.type "list") [.ref z]) Q E s := by
  refine callType_codes (Q₁ := fun obj s₁ => obj = .ref s.heap.objs.size ∧ s₁ = { s with heap := s.heap.push { cls := .type "list", data := .seq #[] } }) PySem.F.called_list (PySem.F.typeCall_list_1 _) PySem.F.entry_list_init
    (code_list_new _ ⟨rfl, rfl⟩) fun obj s₁ h₁ => ?_
  obtain ⟨rfl, rfl⟩ := h₁
  have hS : (s.heap.push { cls := .type "list", data := .seq #[] }).get? s.heap.objs.size = some { cls := .type "list", data := .seq #[] } := Heap.get?_push_size _ rfl
  have up : ∀ b o, s.heap.get? b = some o → (s.heap.push { cls := .type "list", data := .seq #[] }).get? b = some o := fun b o e => Heap.get?_push_of_some _ e
  refine ⟨⟨_, hS, rfl⟩, PySem.F.args_list_init_2 _ _, z_init (n := n) (A := A.in1) hh D lS hn1 hn2 he hn ⟨up _ _ pTI, p1.at fun o e => up _ o e, p2.at fun o e => up _ o e, q1.push _, q2.push _, .inl ⟨up _ _ hz, _, _, up _ _ pTO⟩⟩ ⟨_, up _ _ hz⟩ hS (fun h' tk acc c as hk hS' hl hG hacc => ?_)⟩
  exact ⟨rfl, hQ h' tk acc c as (fun b o n1 n2 n3 n4 e => hk b o (Nat.ne_of_lt (Heap.lt_size e)) n1 n2 n3 n4 (up b o e)) hS' hl hG hacc⟩
end
end ZL

namespace Pk
open PySem PySem.Spec PyProof.Rows L2
def putZ : Hp → List Addr → List (V × V) → Hp
  | H, a :: as, p :: ps => putZ (upd H a (.tup [p.1, p.2])) as ps
  | H, _, _ => H
theorem putZ_off {b : Addr} : ∀ (as : List Addr) (ps : List (V × V)) (H : Hp), b ∉ as → putZ H as ps b = H b
  | [], _, _, _ => rfl
  | _ :: _, [], _, _ => rfl
  | a :: as, p :: ps, H, h => by
    show putZ (upd H a (.tup [p.1, p.2])) as ps b = H b
    rw [putZ_off as ps _ (fun z => h (List.mem_cons_of_mem _ z)), upd_ne (fun z => h (by rw [z]; exact List.mem_cons_self))]
theorem putZ_at : ∀ (as : List Addr) (ps : List (V × V)) (H : Hp), as.length = ps.length → as.Nodup → Paired (fun (t : Addr) (p : V × V) => putZ H as ps t = some (.tup [p.1, p.2])) as ps
  | [], [], _, _, _ => .nil
  | [], _ :: _, _, h, _ => by cases h
  | _ :: _, [], _, h, _ => by cases h
  | a :: as, p :: ps, H, h, hn => by
    have hn' := List.nodup_cons.mp hn
    have ih := putZ_at as ps (upd H a (.tup [p.1, p.2])) (Nat.succ.inj h) hn'.2
    refine .cons ?_ ih
    show putZ (upd H a (.tup [p.1, p.2])) as ps a = some (.tup [p.1, p.2])
    rw [putZ_off as ps _ hn'.1, upd_same]
section
variable {X : Cx}
theorem pairs_laid {pins : List (Addr × Obj)} {σ : L2.St} {H : Hp} {s : Shared} {h' : Heap} {tk : Nat} {ps : List (V × V)} {acc : Array Value} {c : Nat} {as : List Addr} {S : Addr} (I : Inv X pins σ H s) (hz : as.length ≤ sizeLine) (hl : as.length = ps.length) (lo : s.heap.objs.size ≤ S) (ab : ∀ a ∈ as, S < a) (nd : as.Nodup)
    (hk : ∀ b o, s.heap.get? b = some o → h'.get? b = some o) (hS : h'.get? S = some { cls := .type "list", dict := none, data := .seq acc c, slots := #[] }) (hacc : acc.toList = as.map Value.ref)
    (hp : ∀ (j : Nat) (a : Addr) (p : V × V), as[j]? = some a → ps[j]? = some p → ∃ x y, RelV p.1 x ∧ RelV p.2 y ∧ IsPair h' a x y) :
    ∃ H' : Hp, (∀ b o, H b = some o → H' b = some o) ∧ H S = none ∧ (∀ t ∈ as, H t = none) ∧ S ∉ as ∧ H' S = some (.lst (as.map V.ref)) ∧ Paired (fun (t : Addr) (q : V × V) => H' t = some (.tup [q.1, q.2])) as ps ∧ Inv X pins σ H' { s with heap := h', toks := tk } := by
  have hSn : S ∉ as := fun z => Nat.lt_irrefl _ (ab _ z)
  have new : ∀ t ∈ as, H t = none := fun t ht => I.hok.fresh (Nat.le_trans lo (Nat.le_of_lt (ab t ht)))
  have newS : H S = none := I.hok.fresh lo
  have atP := putZ_at as ps (upd H S (.lst (as.map V.ref))) hl nd
  have off : ∀ b, b ∉ as → b ≠ S → putZ (upd H S (.lst (as.map V.ref))) as ps b = H b := fun b h1 h2 => by rw [putZ_off as ps _ h1, upd_ne h2]
  have low : ∀ b o, s.heap.get? b = some o → b ∉ as ∧ b ≠ S := fun b o e => ⟨fun z => absurd (Heap.lt_size e) (Nat.not_lt.mpr (Nat.le_trans lo (Nat.le_of_lt (ab b z)))), Nat.ne_of_lt (Nat.lt_of_lt_of_le (Heap.lt_size e) lo)⟩
  have kp : ∀ b u, H b = some u → (putZ (upd H S (.lst (as.map V.ref))) as ps) b = some u := fun b u e => by
    rw [off b (fun z => by rw [new b z] at e; cases e) (fun z => by rw [z, newS] at e; cases e)]
    exact e
  have eS : putZ (upd H S (.lst (as.map V.ref))) as ps S = some (.lst (as.map V.ref)) := by rw [putZ_off as ps _ hSn, upd_same]
  refine ⟨putZ (upd H S (.lst (as.map V.ref))) as ps, kp, newS, new, hSn, eS, atP, ?_⟩
  refine I.call' (ch := []) rfl ⟨fun b o q _ _ _ => hk b o q, fun b o q _ _ _ => ⟨o.slots, hk b o q⟩, fun b o q n _ => ?_, fun b o q _ => ⟨o, hk b o q⟩, fun b xs q => kp b _ q, fun b o u q => kp b _ q, fun b ps q => ⟨#[], by rw [kp b _ q]; simp⟩⟩ (fun b u q => ?_) I.bare fun b z => by simp at z
  · obtain ⟨z1, z2⟩ := low b o q
    rw [off b z1 z2]
    exact n
  · by_cases hb : b ∈ as
    · obtain ⟨j, pk, e1, e2, e3⟩ := LiI.paired_ix atP hb
      rw [e3] at q
      cases q
      obtain ⟨x, y, f1, f2, f3⟩ := hp j b pk e1 e2
      exact ⟨by show 2 ≤ sizeLine; decide, [x, y], .cons f1 (.cons f2 .nil), ⟨_, f3, rfl, _, rfl⟩⟩
    · by_cases hb2 : b = S
      · rw [hb2] at q ⊢
        rw [eS] at q
        cases q
        refine ⟨by rw [List.length_map]; omega, acc.toList, c, by rw [hacc]; exact LiI.vals_refs as, ?_⟩
        rw [Array.toArray_toList]
        exact hS
      · rw [off b hb hb2] at q
        exact (I.hok b u q).stay (fun d v _ y => hk d v y) (fun d y => kp d _ y) fun d xs y => kp d _ y
end
section
variable {Γ : Γ} {Wx : WX} {X : Cx} {g : G} {h : HS} {H : Hp} {σ : L2.St} {e1 e2 : Expr} {fr : Ax} {pos p cpos : Pos}
theorem tupsP_frz {K : PySem.W.Frag} (hK : K = Γ.K) : ∀ {as : List Addr} {us vs : List V} {a b : List W} {g : G}, RH Γ g h H → Paired (fun (t : Addr) (q : V × V) => H t = some (.tup [q.1, q.2])) as (us.zip vs) → RWs K g a us → RWs K g b vs →
    ∃ g2, g.le g2 ∧ RH Γ g2 h H ∧ RWs K g2 ((a.zip b).map fun p => W.tup [p.1, p.2]) (as.map V.ref)
  | as, [], vs, a, b, g, x, pd, ra, rb => by
    have e : as = [] := by cases pd; rfl
    subst e
    cases a with
    | nil => exact ⟨g, .refl g, x, .nil⟩
    | cons _ _ => unfold RWs at ra; obtain ⟨_, _, z, _⟩ := ra; cases z
  | as, u :: us, [], a, b, g, x, pd, ra, rb => by
    have e : as = [] := by cases pd; rfl
    subst e
    cases b with
    | nil => rw [List.zip_nil_right]; exact ⟨g, .refl g, x, .nil⟩
    | cons _ _ => unfold RWs at rb; obtain ⟨_, _, z, _⟩ := rb; cases z
  | as, u :: us, v :: vs, a, b, g, x, pd, ra, rb => by
    cases pd with
    | cons pa pr =>
      cases a with
      | nil => unfold RWs at ra; cases ra
      | cons wa a =>
        cases b with
        | nil => unfold RWs at rb; cases rb
        | cons wb b =>
          unfold RWs at ra rb
          obtain ⟨v1, vr1, z1, r1, rs1⟩ := ra
          obtain ⟨v2, vr2, z2, r2, rs2⟩ := rb
          cases z1
          cases z2
          obtain ⟨g1, l1, y1, f1⟩ := x.extT pa
          obtain ⟨g2, l2, y2, q2⟩ := tupsP_frz hK y1 pr (RWs.mono l1 _ _ rs1) (RWs.mono l1 _ _ rs2)
          refine ⟨g2, l1.trans l2, y2, .cons ?_ q2⟩
          unfold RW
          exact ⟨_, [u, v], rfl, l2.F _ _ f1, .cons (RW.mono (l1.trans l2) _ _ r1) (.cons (RW.mono (l1.trans l2) _ _ r2) .nil)⟩
theorem zipL_q {bx : Bool} {S : Addr} {as : List Addr} {us vs : List V} {a b : List W} {H1 H' : Hp} {Q : VK} (k1 : ∀ b o, H1 b = some o → H' b = some o) (k2 : H1 S = none) (k4 : S ∉ as) (k5 : H' S = some (.lst (as.map V.ref))) (k6 : Paired (fun (t : Addr) (q : V × V) => H' t = some (.tup [q.1, q.2])) as (us.zip vs))
    (hH1 : RH Γ g h H1) (ra : RWs Γ.K g a us) (rb : RWs Γ.K g b vs) (q1 : Rz Γ Wx (RW Γ.K) g (mkL bx ((a.zip b).map fun p => .tup [p.1, p.2]) h) σ Q) : Q (.ref S) H' := by
  let H0 : Hp := fun b => if b = S then none else H' b
  have eH : H' = upd H0 S (.lst (as.map V.ref)) := by
    funext b
    by_cases hb : b = S
    · rw [hb, upd_same, k5]
    · rw [upd_ne hb]
      show H' b = if b = S then none else H' b
      rw [if_neg hb]
  have e0 : H0 S = none := if_pos rfl
  have y0 : RH Γ g h H0 := hH1.more fun b o e => by
    show (if b = S then none else H' b) = some o
    rw [if_neg (fun z => by rw [z, k2] at e; cases e)]
    exact k1 _ _ e
  have pd : Paired (fun (t : Addr) (q : V × V) => H0 t = some (.tup [q.1, q.2])) as (us.zip vs) := by
    refine paired_mem k6 fun t q ht hq => ?_
    show (if t = S then none else H' t) = _
    rw [if_neg (fun z => k4 (by rw [← z]; exact ht))]
    exact hq
  obtain ⟨g2, l2, y2, r2⟩ := tupsP_frz rfl y0 pd ra rb
  rw [eH]
  exact mkL_ok y2 e0 r2 (Rz.le l2 q1)
theorem e_zipL (bx : Bool) (hc : X.calm = true) (hK : X.K = Γ.K) (hg : Gl X "list") (hm : X.mg "list" = none) (hg2 : Gl X "zip") (hm2 : X.mg "zip" = none) {p2 : Pos} (ha : PA X [e1, e2] (RDA Γ Wx fr)) (hv : bootBuiltins "list" = some (.type "list") := by decide +kernel)
    (hs : starEach [e1, e2] X.env = (false, eval e1 X.env) :: starEach [e2] X.env := by rfl) (hpl : (backTo cpos (starEach [e2] X.env)).any (·.1) = false := by rfl)
    (hs2 : starEach [.Call (.Name "zip" p2) [e1, e2] [] cpos] X.env = (false, eval (.Call (.Name "zip" p2) [e1, e2] [] cpos) X.env) :: starEach [] X.env := by rfl) :
    PE X (.Call (.Name "list" p) [.Call (.Name "zip" p2) [e1, e2] [] cpos] [] pos) (RDE Γ Wx (eZipL bx fr)) := by
  refine ⟨fun pins s σ H Q I ⟨g, sl, h, hH, hS, q⟩ => ?_⟩
  refine wpAny_Call_Name_kw (ld_blt I hg hm hv ?_)
  refine PyProof.Rows.callWith_type1 ?_ hs2 rfl
  rw [hs2]
  show wpAny _ _ (spliced ((false, eval (.Call (.Name "zip" p2) [e1, e2] [] cpos) X.env) :: backTo pos (starEach [] X.env))) _ _ s
  refine Calls.spliced_cons ?_
  refine PyProof.Rows.Call_ (ld_blt I hg2 hm2 PyProof.Rows.boot_zip (PyProof.Rows.callWith_type1 (thn (ha.run cpos pins s σ H _ I (RDA.step hH hS q)) fun us s1 ⟨vs, H1, I1, r1, g1, h1, w1, l1, hH1, rw1, q1⟩ => ?_) hs hpl))
  split at q1
  · rename_i x y
    split at q1
    · rename_i wa wb ea eb
      obtain ⟨v1, v2, rfl, r2, r3⟩ := rws2 rw1
      obtain ⟨a, xs, rfl, sa, ra⟩ := tview_ok hH1 r2 ea
      obtain ⟨b, ys, rfl, sb, rb⟩ := tview_ok hH1 r3 eb
      cases r1 with
      | cons r rr =>
        cases rr with
        | cons r' rr =>
          cases rr
          cases r
          cases r'
          obtain ⟨its, rv, p1, z1⟩ := I1.tuple (hK ▸ sa)
          obtain ⟨its2, rv2, p2', z2⟩ := I1.tuple (hK ▸ sb)
          obtain ⟨o1, ho1, _⟩ := id p1
          obtain ⟨o2, ho2, _⟩ := id p2'
          have hla := Heap.lt_size ho1
          have hlb := Heap.lt_size ho2
          refine RZ.call_zipT (show s1.heap.IsTuple a its.toArray from p1) (show s1.heap.IsTuple b its2.toArray from p2') fun h' hz hTI hTO hi1 hi2 hsz hk => ?_
          refine Calls.spliced_nil ?_
          have lx := rv.length
          have ly := rv2.length
          have kk : ∀ {l : Addr} {vs : Array Value}, s1.heap.IsTuple l vs → h'.IsTuple l vs := fun ⟨o, e, r⟩ => ⟨o, hk _ o e, r⟩
          refine ZL.z_call (s := { s1 with heap := h' }) (n := min its.length its2.length) (I1.ok.hd hc) (PySem.W.ktu_apart s1.heap.objs.size a b hla hlb)
            ⟨by show _ < h'.objs.size; rw [hsz]; exact Nat.lt_succ_self _, by show _ < h'.objs.size; rw [hsz]; exact Nat.add_lt_add_left (by decide) _, by show _ < h'.objs.size; rw [hsz]; exact Nat.add_lt_add_left (by decide) _, by show _ < h'.objs.size; rw [hsz]; exact Nat.lt_add_of_pos_right (by decide), by show _ < h'.objs.size; rw [hsz]; exact Nat.add_lt_add_left (by decide) _, by show _ < h'.objs.size; rw [hsz]; exact Nat.lt_of_lt_of_le hla (Nat.le_add_right _ _), by show _ < h'.objs.size; rw [hsz]; exact Nat.lt_of_lt_of_le hlb (Nat.le_add_right _ _)⟩
            (by simp only [List.size_toArray]; exact Nat.min_le_left _ _) (by simp only [List.size_toArray]; exact Nat.min_le_right _ _) (by simp only [List.size_toArray]; omega) (by omega) hz hTI hTO hi1 hi2 (kk p1) (kk p2') fun h2 tk acc c as hk2 hS2 hl hG hacc => ?_
          have hk3 : ∀ b o, s1.heap.get? b = some o → h2.get? b = some o := fun b o e => by
            have lt := Heap.lt_size e
            refine hk2 b o ?_ ?_ ?_ ?_ (hk b o e)
            · exact Nat.ne_of_lt (Nat.lt_of_lt_of_le lt (Nat.le_add_right _ _))
            · exact Nat.ne_of_lt (Nat.lt_of_lt_of_le lt (Nat.le_add_right _ _))
            · exact Nat.ne_of_lt lt
            · exact Nat.ne_of_lt (Nat.lt_of_lt_of_le lt (Nat.le_add_right _ _))
          have hle : s1.heap.objs.size ≤ h'.objs.size := by rw [hsz]; exact Nat.le_add_right _ _
          obtain ⟨H', k1, k2, k3, k4, k5, k6, J⟩ := pairs_laid (tk := tk) (ps := xs.zip ys) I1 (by rw [hl]; omega) (by rw [hl, List.length_zip]; omega) hle hG.above (List.Pairwise.imp (fun {a b} (h : a < b) => Nat.ne_of_lt h) hG.rise) hk3 hS2 hacc (fun j t q e1 e2 => by
            obtain ⟨x, y, f1, f2, f3⟩ := hG.pairs j t e1
            rw [List.getElem?_zip_eq_some] at e2
            obtain ⟨u, hu, ru⟩ := rv.get e2.1
            obtain ⟨u2, hu2, ru2⟩ := rv2.get e2.2
            have e3 : u = x := by rw [List.getElem?_toArray] at f1; rw [f1] at hu; exact (Option.some.inj hu).symm
            have e4 : u2 = y := by rw [List.getElem?_toArray] at f2; rw [f2] at hu2; exact (Option.some.inj hu2).symm
            subst e3 e4
            exact ⟨u, u2, ru, ru2, f3⟩)
          exact ⟨.ref _, H', J, rfl, zipL_q k1 k2 k4 k5 k6 hH1 ra rb q1⟩
    · exact q1.elim
  · exact q1.elim
end
end Pk
end

/-! Ph -/
section
set_option Elab.async false
set_option linter.all false
set_option maxRecDepth 100000
set_option maxHeartbeats 4000000
/-! the head and the end, for every law -/
namespace Pk
open PySem PySem.Spec L2
def h0 : HS := ⟨fun _ => none, 0⟩
theorem law_start {Γ : Pk.Γ} {m : List W → HS → R W} {H : Hp} {a : Addr} {ns : List Int} (ht : ∀ p ∈ Γ.tabs, H p.1 = some (.tbl #[])) (hS : SqL Γ.K H a (ns.map V.int)) (e : ∃ h', m [.scr ns] h0 = .ok (.bl true) h') :
    spM Γ 1 m [.ref a] H (fun v _ => v = .bl true) (fun _ _ _ => False) := by
  obtain ⟨h', e⟩ := e
  have tabs : LamX.Tabs Γ.tabs H := fun p hp => ⟨#[], ht p hp, trivial, fun pos cv z => by cases z⟩
  have key : ∃ F : Hp, Below F H ∧ (∀ b o, F b = some o → NB o) ∧ SqL Γ.K F a (ns.map V.int) := by
    rcases hS with (hS | ⟨o, hS⟩) | hS
    · refine ⟨fun b => if b = a then H a else none, fun b u q => .inl ?_, fun b o q => ?_, .inl (.inl ?_)⟩
      · dsimp only at q
        split at q
        · rename_i z; rw [z]; exact q
        · cases q
      · dsimp only at q
        split at q
        · rw [hS] at q; cases q; trivial
        · cases q
      · show (if a = a then H a else none) = _
        rw [if_pos rfl]; exact hS
    · refine ⟨fun b => if b = a then H a else none, fun b u q => .inl ?_, fun b o q => ?_, .inl (.inr ⟨o, ?_⟩)⟩
      · dsimp only at q
        split at q
        · rename_i z; rw [z]; exact q
        · cases q
      · dsimp only at q
        split at q
        · rw [hS] at q; cases q; trivial
        · cases q
      · show (if a = a then H a else none) = _
        rw [if_pos rfl]; exact hS
    · exact ⟨fun _ => none, fun _ _ q => (by cases q), fun _ _ q => (by cases q), .inr hS⟩
  obtain ⟨F, bF, nF, sF⟩ := key
  refine ⟨rfl, ⟨0, fun _ => 0, F, fun _ => none, fun _ => none⟩, h0, [.scr ns], ⟨bF, rfl, fun m n hm => absurd hm (Nat.not_lt_zero _), fun n hn => absurd hn (Nat.not_lt_zero _), fun n c q => (by cases q), tabs, nF, fun _ _ q => (by cases q), fun _ _ q => (by cases q), fun _ _ _ q => (by cases q)⟩, .cons ?_ .nil, ?_⟩
  · unfold RW
    exact ⟨a, rfl, sF⟩
  · rw [e]
    intro g' v H' _ _ r
    exact rbl r
theorem code_of {K : PySem.W.Frag} {x q : Str} {ps : Arguments} {b : List Stmt} {sc : Scope} {dvs : List V} {kws : List (Str × V)} {p : Str × Option Str} {fd : FuncData} (F : FunD K x q ps b sc dvs kws (He.fAd K p) fd) : fd.code = .ref (He.codeOf K p) := by
  obtain ⟨oc, od, dV, kV, doc, pm, an, cdv, ct, osl, e, lk, hcd, _, _⟩ := F.ex
  obtain ⟨c, ec⟩ := He.codeIn_ref hcd
  have e2 : fd.code = .ref c := by rw [e, ← ec]
  rw [e2, He.codeOf_eq lk e2]
/-- a tuple among the module's own -/
def tupAtB (K : PySem.W.Frag) (a : Addr) (vs : List V) : Bool := match K.lookup a with
  | some ⟨.type c, _, .seq its _, _⟩ => decide (c = "tuple") && (decide (its.size ≤ sizeLine) && He.relAll vs its.toList)
  | _ => false
theorem tupAtB_ok {K : PySem.W.Frag} {a : Addr} {vs : List V} (h : tupAtB K a vs = true) (H : Hp) : SqT K H a vs := by
  unfold tupAtB at h
  cases q : K.lookup a with
  | none => rw [q] at h; cases h
  | some o =>
    obtain ⟨oc, od, dt, osl⟩ := o
    rw [q] at h
    cases oc with
    | type c =>
      cases dt with
      | seq its n =>
        obtain ⟨h1, h2⟩ := He.ba (show (decide (c = "tuple") && (decide (its.size ≤ sizeLine) && He.relAll vs its.toList)) = true from h)
        obtain ⟨h3, h4⟩ := He.ba h2
        exact .inr ⟨_, its, n, q, congrArg Value.type (of_decide_eq_true h1), rfl, of_decide_eq_true h3, He.relAll_ok h4⟩
      | _ => cases h
    | _ => cases dt <;> cases h
/-- the tables lie apart -/
def apartB (l : List Addr) : Bool := decide l.Nodup
theorem uni_of {l : List (Addr × Str)} (h : (l.map (·.1)).Nodup) {P : Addr} {q : Str} (hm : (P, q) ∈ l) : ∀ p ∈ l, p.1 = P → p.2 = q := by
  intro p hp e
  obtain ⟨i, hi, ei⟩ := List.getElem_of_mem hp
  obtain ⟨j, hj, ej⟩ := List.getElem_of_mem hm
  have e2 : (l.map (·.1))[i]? = (l.map (·.1))[j]? := by
    rw [List.getElem?_map, List.getElem?_map, List.getElem?_eq_getElem hi, List.getElem?_eq_getElem hj, ei, ej]
    exact congrArg some e
  have e3 := (List.getElem?_inj (by rw [List.length_map]; exact hi) h).mp e2
  subst e3
  rw [ei] at ej
  rw [ej]
end Pk
end

/-! Ka00 -/
section
set_option Elab.async false
set_option linter.all false
set_option maxRecDepth 100000
set_option maxHeartbeats 4000000
namespace K01
open PySem PySem.Spec L2 Pk
def top (i : Nat) : Stmt := PySem.Challenge.pw_planstack_k01_days_that_are_worked.main.body.getD i (.Pass ⟨0, 0, 0, 0⟩)
abbrev s_week_day : Stmt := top 5
abbrev s_Calendar___init__ : Stmt := inClass (top 6) 0
abbrev s_Calendar_set_day : Stmt := inClass (top 6) 1
abbrev s_Calendar_clear_day : Stmt := inClass (top 6) 2
abbrev s_Calendar_on : Stmt := inClass (top 6) 3
abbrev s_Calendar_next_worked : Stmt := inClass (top 6) 4
abbrev s_Calendar_worked_ahead : Stmt := inClass (top 6) 5
abbrev s_Calendar_after : Stmt := inClass (top 6) 6
abbrev s_Calendar_between : Stmt := inClass (top 6) 7
abbrev s_Calendar_hours_between : Stmt := inClass (top 6) 8
abbrev s_Calendar_done_on : Stmt := inClass (top 6) 9
abbrev s_Calendar_row : Stmt := inClass (top 6) 10
abbrev s_both : Stmt := top 7
abbrev s_every : Stmt := top 8
abbrev s_nth_in : Stmt := top 9
abbrev s_day_text : Stmt := top 10
abbrev s_read_day : Stmt := top 11
abbrev s__law_dice : Stmt := top 13
abbrev s__law_roll : Stmt := top 14
abbrev s__law_rounds : Stmt := top 15
abbrev s__law_told : Stmt := top 16
abbrev s__law_hours : Stmt := top 17
abbrev s__law_worked : Stmt := top 18
abbrev s__law_done : Stmt := top 19
abbrev s__law_plain : Stmt := top 20
abbrev s_law : Stmt := top 21
def dw_Calendar___init__ : List W := [.kt [(.int 8), (.int 8), (.int 8), (.int 8), (.int 8), (.int 0), (.int 0)]]
structure Fx (Γ : Pk.Γ) (P : Program) (w : World) (mg : Str → Option Value) (base : Heap) where
  a_week_day : Addr
  d_week_day : FuncData
  F_week_day : FunD Γ.K "week_day" "week_day" (defArgs s_week_day) (defBody s_week_day) (defScope s_week_day) [] [] a_week_day d_week_day
  G_week_day : mg "week_day" = some (.ref a_week_day)
  a_Calendar___init__ : Addr
  d_Calendar___init__ : FuncData
  v_Calendar___init__ : List V
  e_Calendar___init__ : List Value
  F_Calendar___init__ : FunD Γ.K "__init__" "Calendar.__init__" (defArgs s_Calendar___init__) (defBody s_Calendar___init__) (defScope s_Calendar___init__) v_Calendar___init__ [] a_Calendar___init__ d_Calendar___init__
  Z_Calendar___init__ : Binds Γ.K d_Calendar___init__ ["self", "hours"] []
  D_Calendar___init__ : DfT Γ.K d_Calendar___init__ ["self", "hours"] v_Calendar___init__ dw_Calendar___init__ e_Calendar___init__
  M_Calendar : Mk Γ.K (Γ.cls 2) a_Calendar___init__
  a_Calendar_set_day : Addr
  d_Calendar_set_day : FuncData
  F_Calendar_set_day : FunD Γ.K "set_day" "Calendar.set_day" (defArgs s_Calendar_set_day) (defBody s_Calendar_set_day) (defScope s_Calendar_set_day) [] [] a_Calendar_set_day d_Calendar_set_day
  m_Calendar_set_day : Meth Γ.K (Γ.cls 2) "set_day" a_Calendar_set_day
  a_Calendar_clear_day : Addr
  d_Calendar_clear_day : FuncData
  F_Calendar_clear_day : FunD Γ.K "clear_day" "Calendar.clear_day" (defArgs s_Calendar_clear_day) (defBody s_Calendar_clear_day) (defScope s_Calendar_clear_day) [] [] a_Calendar_clear_day d_Calendar_clear_day
  m_Calendar_clear_day : Meth Γ.K (Γ.cls 2) "clear_day" a_Calendar_clear_day
  a_Calendar_on : Addr
  d_Calendar_on : FuncData
  F_Calendar_on : FunD Γ.K "on" "Calendar.on" (defArgs s_Calendar_on) (defBody s_Calendar_on) (defScope s_Calendar_on) [] [] a_Calendar_on d_Calendar_on
  m_Calendar_on : Meth Γ.K (Γ.cls 2) "on" a_Calendar_on
  a_Calendar_next_worked : Addr
  d_Calendar_next_worked : FuncData
  F_Calendar_next_worked : FunD Γ.K "next_worked" "Calendar.next_worked" (defArgs s_Calendar_next_worked) (defBody s_Calendar_next_worked) (defScope s_Calendar_next_worked) [] [] a_Calendar_next_worked d_Calendar_next_worked
  m_Calendar_next_worked : Meth Γ.K (Γ.cls 2) "next_worked" a_Calendar_next_worked
  a_Calendar_worked_ahead : Addr
  d_Calendar_worked_ahead : FuncData
  F_Calendar_worked_ahead : FunD Γ.K "worked_ahead" "Calendar.worked_ahead" (defArgs s_Calendar_worked_ahead) (defBody s_Calendar_worked_ahead) (defScope s_Calendar_worked_ahead) [] [] a_Calendar_worked_ahead d_Calendar_worked_ahead
  m_Calendar_worked_ahead : Meth Γ.K (Γ.cls 2) "worked_ahead" a_Calendar_worked_ahead
  a_Calendar_after : Addr
  d_Calendar_after : FuncData
  F_Calendar_after : FunD Γ.K "after" "Calendar.after" (defArgs s_Calendar_after) (defBody s_Calendar_after) (defScope s_Calendar_after) [] [] a_Calendar_after d_Calendar_after
  m_Calendar_after : Meth Γ.K (Γ.cls 2) "after" a_Calendar_after
  a_Calendar_between : Addr
  d_Calendar_between : FuncData
  F_Calendar_between : FunD Γ.K "between" "Calendar.between" (defArgs s_Calendar_between) (defBody s_Calendar_between) (defScope s_Calendar_between) [] [] a_Calendar_between d_Calendar_between
  m_Calendar_between : Meth Γ.K (Γ.cls 2) "between" a_Calendar_between
  a_Calendar_hours_between : Addr
  d_Calendar_hours_between : FuncData
  F_Calendar_hours_between : FunD Γ.K "hours_between" "Calendar.hours_between" (defArgs s_Calendar_hours_between) (defBody s_Calendar_hours_between) (defScope s_Calendar_hours_between) [] [] a_Calendar_hours_between d_Calendar_hours_between
  m_Calendar_hours_between : Meth Γ.K (Γ.cls 2) "hours_between" a_Calendar_hours_between
  a_Calendar_done_on : Addr
  d_Calendar_done_on : FuncData
  F_Calendar_done_on : FunD Γ.K "done_on" "Calendar.done_on" (defArgs s_Calendar_done_on) (defBody s_Calendar_done_on) (defScope s_Calendar_done_on) [] [] a_Calendar_done_on d_Calendar_done_on
  m_Calendar_done_on : Meth Γ.K (Γ.cls 2) "done_on" a_Calendar_done_on
  a_Calendar_row : Addr
  d_Calendar_row : FuncData
  F_Calendar_row : FunD Γ.K "row" "Calendar.row" (defArgs s_Calendar_row) (defBody s_Calendar_row) (defScope s_Calendar_row) [] [] a_Calendar_row d_Calendar_row
  m_Calendar_row : Meth Γ.K (Γ.cls 2) "row" a_Calendar_row
  a_both : Addr
  d_both : FuncData
  F_both : FunD Γ.K "both" "both" (defArgs s_both) (defBody s_both) (defScope s_both) [] [] a_both d_both
  G_both : mg "both" = some (.ref a_both)
  a_every : Addr
  d_every : FuncData
  F_every : FunD Γ.K "every" "every" (defArgs s_every) (defBody s_every) (defScope s_every) [] [] a_every d_every
  G_every : mg "every" = some (.ref a_every)
  a_nth_in : Addr
  d_nth_in : FuncData
  F_nth_in : FunD Γ.K "nth_in" "nth_in" (defArgs s_nth_in) (defBody s_nth_in) (defScope s_nth_in) [] [] a_nth_in d_nth_in
  G_nth_in : mg "nth_in" = some (.ref a_nth_in)
  a_day_text : Addr
  d_day_text : FuncData
  F_day_text : FunD Γ.K "day_text" "day_text" (defArgs s_day_text) (defBody s_day_text) (defScope s_day_text) [] [] a_day_text d_day_text
  G_day_text : mg "day_text" = some (.ref a_day_text)
  a_read_day : Addr
  d_read_day : FuncData
  F_read_day : FunD Γ.K "read_day" "read_day" (defArgs s_read_day) (defBody s_read_day) (defScope s_read_day) [] [] a_read_day d_read_day
  G_read_day : mg "read_day" = some (.ref a_read_day)
  a__law_dice : Addr
  d__law_dice : FuncData
  F__law_dice : FunD Γ.K "_law_dice" "_law_dice" (defArgs s__law_dice) (defBody s__law_dice) (defScope s__law_dice) [] [] a__law_dice d__law_dice
  G__law_dice : mg "_law_dice" = some (.ref a__law_dice)
  a__law_roll : Addr
  d__law_roll : FuncData
  F__law_roll : FunD Γ.K "_law_roll" "_law_roll" (defArgs s__law_roll) (defBody s__law_roll) (defScope s__law_roll) [] [] a__law_roll d__law_roll
  G__law_roll : mg "_law_roll" = some (.ref a__law_roll)
  a__law_rounds : Addr
  d__law_rounds : FuncData
  F__law_rounds : FunD Γ.K "_law_rounds" "_law_rounds" (defArgs s__law_rounds) (defBody s__law_rounds) (defScope s__law_rounds) [] [] a__law_rounds d__law_rounds
  G__law_rounds : mg "_law_rounds" = some (.ref a__law_rounds)
  a__law_told : Addr
  d__law_told : FuncData
  F__law_told : FunD Γ.K "_law_told" "_law_told" (defArgs s__law_told) (defBody s__law_told) (defScope s__law_told) [] [] a__law_told d__law_told
  G__law_told : mg "_law_told" = some (.ref a__law_told)
  a__law_hours : Addr
  d__law_hours : FuncData
  F__law_hours : FunD Γ.K "_law_hours" "_law_hours" (defArgs s__law_hours) (defBody s__law_hours) (defScope s__law_hours) [] [] a__law_hours d__law_hours
  G__law_hours : mg "_law_hours" = some (.ref a__law_hours)
  a__law_worked : Addr
  d__law_worked : FuncData
  F__law_worked : FunD Γ.K "_law_worked" "_law_worked" (defArgs s__law_worked) (defBody s__law_worked) (defScope s__law_worked) [] [] a__law_worked d__law_worked
  G__law_worked : mg "_law_worked" = some (.ref a__law_worked)
  a__law_done : Addr
  d__law_done : FuncData
  F__law_done : FunD Γ.K "_law_done" "_law_done" (defArgs s__law_done) (defBody s__law_done) (defScope s__law_done) [] [] a__law_done d__law_done
  G__law_done : mg "_law_done" = some (.ref a__law_done)
  a__law_plain : Addr
  d__law_plain : FuncData
  F__law_plain : FunD Γ.K "_law_plain" "_law_plain" (defArgs s__law_plain) (defBody s__law_plain) (defScope s__law_plain) [] [] a__law_plain d__law_plain
  G__law_plain : mg "_law_plain" = some (.ref a__law_plain)
  a_law : Addr
  d_law : FuncData
  F_law : FunD Γ.K "law" "law" (defArgs s_law) (defBody s_law) (defScope s_law) [] [] a_law d_law
  G_law : mg "law" = some (.ref a_law)
  C_Calendar : Cls Γ.K (Γ.cls 2)
  G_Calendar : mg "Calendar" = some (.ref (Γ.cls 2))
  c_Calendar___init__ : Addr
  p_Calendar___init__ : Addr
  g_Calendar___init__ : TabT Γ mg base "Calendar.__init__" "<genexpr>" d_Calendar___init__ c_Calendar___init__ p_Calendar___init__
  c_Calendar_hours_between : Addr
  p_Calendar_hours_between : Addr
  g_Calendar_hours_between : TabT Γ mg base "Calendar.hours_between" "<genexpr>" d_Calendar_hours_between c_Calendar_hours_between p_Calendar_hours_between
  c_Calendar_row : Addr
  p_Calendar_row : Addr
  g_Calendar_row : TabT Γ mg base "Calendar.row" "<genexpr>" d_Calendar_row c_Calendar_row p_Calendar_row
  c_both : Addr
  p_both : Addr
  g_both : TabT Γ mg base "both" "<genexpr>" d_both c_both p_both
  c_read_day : Addr
  p_read_day : Addr
  g_read_day : TabT Γ mg base "read_day" "<genexpr>" d_read_day c_read_day p_read_day
  c__law_plain : Addr
  p__law_plain : Addr
  t__law_plain : TabT Γ mg base "_law_plain" "<lambda>" d__law_plain c__law_plain p__law_plain
  c_law : Addr
  p_law : Addr
  t_law : TabT Γ mg base "law" "<lambda>" d_law c_law p_law
  i_LAST : ∃ t, mg "LAST" = some (.int 20000 t)
  x_DayError : ExcT Γ mg "DayError" 1
  z_abs : mg "abs" = none
  z_any : mg "any" = none
  z_dict : mg "dict" = none
  z_enumerate : mg "enumerate" = none
  z_int : mg "int" = none
  z_len : mg "len" = none
  z_list : mg "list" = none
  z_range : mg "range" = none
  z_str : mg "str" = none
  z_sum : mg "sum" = none
  z_tuple : mg "tuple" = none
  z_zip : mg "zip" = none
  fl_hours : ∀ c ∈ [2], Cls Γ.K (Γ.cls c) ∧ NoAttr Γ.K (Γ.cls c) "hours"
  fl_single : ∀ c ∈ [2], Cls Γ.K (Γ.cls c) ∧ NoAttr Γ.K (Γ.cls c) "single"
  told : ToldT Γ.K mg "_law_told" "DayError" (Γ.cls 1)
  tx : ∀ c ∈ [1], PySem.W.exmOne Γ.K (.ref (Γ.cls c)) (.ref (Γ.cls 1)) = some true
theorem sc_week_day : FnScope ["day"] ["day"] (defScope s_week_day) := ⟨rfl, rfl, rfl, by decide +kernel, rfl, by decide +kernel, by decide +kernel⟩
def b_week_day : Sx := (sSeq (sIf (tNotx (tVal (eChain wLe wLe (eC (.int 0)) (eVar 0) (eC (.int 20000))))) (sRaise 1) sNil) (sRet (eBin wMod (eVar 0) (eC (.int 7)))))
def f_week_day : List W → HS → R W := bodyM 1 b_week_day
theorem sc_Calendar___init__ : FnScope ["self", "hours", "hour"] ["self", "hours"] (defScope s_Calendar___init__) := ⟨rfl, rfl, rfl, by decide +kernel, rfl, by decide +kernel, by decide +kernel⟩
def b_Calendar___init__ : Sx := (sSeq (sIf (tOrx (tVal (eBin wNe (eCallB m_len (aCons (eVar 1) aNil)) (eC (.int 7)))) (tOrx (tVal (eAny [2] (iSeq (eVar 1)) (gN 2) tYesx (eNot (eChain wLe wLe (eC (.int 0)) (eVar 2) (eC (.int 24)))))) (tVal (eBin wEq (eCallB m_sum (aCons (eVar 1) aNil)) (eC (.int 0)))))) (sRaise 1) sNil) (sSeq (sFldx [2] "hours" (eCallB m_tuple (aCons (eVar 1) aNil)) (eVar 0)) (sFldx [2] "single" (eDnew true) (eVar 0))))
def f_Calendar___init__ : List W → HS → R W := bodyM 3 b_Calendar___init__
theorem sc_Calendar_set_day : FnScope ["self", "day", "hours"] ["self", "day", "hours"] (defScope s_Calendar_set_day) := ⟨rfl, rfl, rfl, by decide +kernel, rfl, by decide +kernel, by decide +kernel⟩
def b_Calendar_set_day : Sx := (sSeq (sExpr (eCall 1 f_week_day [] (aCons (eVar 1) aNil))) (sSeq (sIf (tNotx (tVal (eChain wLe wLe (eC (.int 0)) (eVar 2) (eC (.int 24))))) (sRaise 1) sNil) (sSub (eVar 2) (eUn (wFld [2] "single") (eVar 0)) (eVar 1))))
def f_Calendar_set_day : List W → HS → R W := bodyM 3 b_Calendar_set_day
theorem sc_Calendar_clear_day : FnScope ["self", "day"] ["self", "day"] (defScope s_Calendar_clear_day) := ⟨rfl, rfl, rfl, by decide +kernel, rfl, by decide +kernel, by decide +kernel⟩
def b_Calendar_clear_day : Sx := (sSeq (sIf (tVal (eBin wNotIn (eVar 1) (eUn (wFld [2] "single") (eVar 0)))) (sRaise 1) sNil) (sDel (eUn (wFld [2] "single") (eVar 0)) (eVar 1)))
def f_Calendar_clear_day : List W → HS → R W := bodyM 2 b_Calendar_clear_day
theorem sc_Calendar_on : FnScope ["self", "day"] ["self", "day"] (defScope s_Calendar_on) := ⟨rfl, rfl, rfl, by decide +kernel, rfl, by decide +kernel, by decide +kernel⟩
def b_Calendar_on : Sx := (sRet (eGet2 (eUn (wFld [2] "single") (eVar 0)) (eVar 1) (eBin wIx (eUn (wFld [2] "hours") (eVar 0)) (eCall 1 f_week_day [] (aCons (eVar 1) aNil)))))
def f_Calendar_on : List W → HS → R W := bodyM 2 b_Calendar_on
theorem sc_Calendar_next_worked : FnScope ["self", "day"] ["self", "day"] (defScope s_Calendar_next_worked) := ⟨rfl, rfl, rfl, by decide +kernel, rfl, by decide +kernel, by decide +kernel⟩
def b_Calendar_next_worked : Sx := (sSeq (sWhile (tVal (eBin wEq (eMeth 2 "on" 2 f_Calendar_on [] (eVar 0) (aCons (eVar 1) aNil)) (eC (.int 0)))) (sAug 1 kAdd (eC (.int 1)))) (sRet (eVar 1)))
def f_Calendar_next_worked : List W → HS → R W := bodyM 2 b_Calendar_next_worked
theorem sc_Calendar_worked_ahead : FnScope ["self", "day", "other"] ["self", "day"] (defScope s_Calendar_worked_ahead) := ⟨rfl, rfl, rfl, by decide +kernel, rfl, by decide +kernel, by decide +kernel⟩
def b_Calendar_worked_ahead : Sx := (sSeq (sExpr (eCall 1 f_week_day [] (aCons (eVar 1) aNil))) (sSeq (sFor (iR3 (aCons (eBin wSub (eVar 1) (eC (.int 1))) (aCons (eBin wSub (eC (.int 0)) (eC (.int 1))) (aCons (eBin wSub (eC (.int 0)) (eC (.int 1))) aNil)))) (gN 2) (sIf (tVal (eBin wGt (eMeth 2 "on" 2 f_Calendar_on [] (eVar 0) (aCons (eVar 2) aNil)) (eC (.int 0)))) (sRet (eVar 2)) sNil)) (sRet (eC .non))))
def f_Calendar_worked_ahead : List W → HS → R W := bodyM 3 b_Calendar_worked_ahead
theorem sc_Calendar_after : FnScope ["self", "day", "many", "here", "turn"] ["self", "day", "many"] (defScope s_Calendar_after) := ⟨rfl, rfl, rfl, by decide +kernel, rfl, by decide +kernel, by decide +kernel⟩
def b_Calendar_after : Sx := (sSeq (sIf (tVal (eBin wLt (eVar 2) (eC (.int 0)))) (sRaise 1) sNil) (sSeq (sAsg (eMeth 2 "next_worked" 2 f_Calendar_next_worked [] (eVar 0) (aCons (eVar 1) aNil)) (gN 3)) (sSeq (sFor (iR1 (aCons (eVar 2) aNil)) (gN 4) (sAsg (eMeth 2 "next_worked" 2 f_Calendar_next_worked [] (eVar 0) (aCons (eBin (wAdd false) (eVar 3) (eC (.int 1))) aNil)) (gN 3))) (sRet (eVar 3)))))
def f_Calendar_after : List W → HS → R W := bodyM 5 b_Calendar_after
theorem sc_Calendar_between : FnScope ["self", "first", "end", "day"] ["self", "first", "end"] (defScope s_Calendar_between) := ⟨rfl, rfl, rfl, by decide +kernel, rfl, by decide +kernel, by decide +kernel⟩
def b_Calendar_between : Sx := (sSeq (sIf (tVal (eBin wLt (eVar 2) (eVar 1))) (sRaise 1) sNil) (sSeq (sExpr (eCall 1 f_week_day [] (aCons (eVar 1) aNil))) (sRet (eCallB m_len (aCons (eLc false [3] (iR2 (aCons (eVar 1) (aCons (eVar 2) aNil))) (gN 3) (tVal (eBin wGt (eMeth 2 "on" 2 f_Calendar_on [] (eVar 0) (aCons (eVar 3) aNil)) (eC (.int 0)))) (eC (.int 1))) aNil)))))
def f_Calendar_between : List W → HS → R W := bodyM 4 b_Calendar_between
theorem sc_Calendar_hours_between : FnScope ["self", "first", "end", "day"] ["self", "first", "end"] (defScope s_Calendar_hours_between) := ⟨rfl, rfl, rfl, by decide +kernel, rfl, by decide +kernel, by decide +kernel⟩
def b_Calendar_hours_between : Sx := (sSeq (sExpr (eMeth 2 "between" 3 f_Calendar_between [] (eVar 0) (aCons (eVar 1) (aCons (eVar 2) aNil)))) (sRet (eSumG [3] (iR2 (aCons (eVar 1) (aCons (eVar 2) aNil))) (gN 3) tYesx (eMeth 2 "on" 2 f_Calendar_on [] (eVar 0) (aCons (eVar 3) aNil)))))
def f_Calendar_hours_between : List W → HS → R W := bodyM 4 b_Calendar_hours_between
theorem sc_Calendar_done_on : FnScope ["self", "day", "hours", "here"] ["self", "day", "hours"] (defScope s_Calendar_done_on) := ⟨rfl, rfl, rfl, by decide +kernel, rfl, by decide +kernel, by decide +kernel⟩
def b_Calendar_done_on : Sx := (sSeq (sIf (tVal (eBin wLt (eVar 2) (eC (.int 0)))) (sRaise 1) sNil) (sSeq (sAsg (eMeth 2 "next_worked" 2 f_Calendar_next_worked [] (eVar 0) (aCons (eVar 1) aNil)) (gN 3)) (sSeq (sWhile (tVal (eBin wGt (eVar 2) (eMeth 2 "on" 2 f_Calendar_on [] (eVar 0) (aCons (eVar 3) aNil)))) (sSeq (sAug 2 kSub (eMeth 2 "on" 2 f_Calendar_on [] (eVar 0) (aCons (eVar 3) aNil))) (sAsg (eMeth 2 "next_worked" 2 f_Calendar_next_worked [] (eVar 0) (aCons (eBin (wAdd false) (eVar 3) (eC (.int 1))) aNil)) (gN 3)))) (sRet (eTup (aCons (eVar 3) (aCons (eBin wSub (eMeth 2 "on" 2 f_Calendar_on [] (eVar 0) (aCons (eVar 3) aNil)) (eVar 2)) aNil)))))))
def f_Calendar_done_on : List W → HS → R W := bodyM 4 b_Calendar_done_on
theorem sc_Calendar_row : FnScope ["self", "first", "many", "day"] ["self", "first", "many"] (defScope s_Calendar_row) := ⟨rfl, rfl, rfl, by decide +kernel, rfl, by decide +kernel, by decide +kernel⟩
def b_Calendar_row : Sx := (sSeq (sExpr (eCall 1 f_week_day [] (aCons (eVar 1) aNil))) (sSeq (sIf (tVal (eBin wLt (eVar 2) (eC (.int 0)))) (sRaise 1) sNil) (sRet (eTupG [3] (iR2 (aCons (eVar 1) (aCons (eBin (wAdd false) (eVar 1) (eVar 2)) aNil))) (gN 3) tYesx (eMeth 2 "on" 2 f_Calendar_on [] (eVar 0) (aCons (eVar 3) aNil))))))
def f_Calendar_row : List W → HS → R W := bodyM 4 b_Calendar_row
theorem sc_both : FnScope ["one", "other", "first", "many", "rows", "place", "a", "b"] ["one", "other", "first", "many"] (defScope s_both) := ⟨rfl, rfl, rfl, by decide +kernel, rfl, by decide +kernel, by decide +kernel⟩
def b_both : Sx := (sSeq (sAsg (eZipL false (aCons (eMeth 2 "row" 3 f_Calendar_row [] (eVar 0) (aCons (eVar 2) (aCons (eVar 3) aNil))) (aCons (eMeth 2 "row" 3 f_Calendar_row [] (eVar 1) (aCons (eVar 2) (aCons (eVar 3) aNil))) aNil))) (gN 4)) (sRet (eTupG [5, 6, 7] (iEnum (aCons (eVar 4) aNil)) (gTupx (gConsx (gN 5) (gConsx (gTupx (gConsx (gN 6) (gConsx (gN 7) gNilx))) gNilx))) (tAndx (tVal (eBin wGt (eVar 6) (eC (.int 0)))) (tVal (eBin wGt (eVar 7) (eC (.int 0))))) (eBin (wAdd false) (eVar 2) (eVar 5)))))
def f_both : List W → HS → R W := bodyM 8 b_both
theorem sc_every : FnScope ["first", "each", "end"] ["first", "each", "end"] (defScope s_every) := ⟨rfl, rfl, rfl, by decide +kernel, rfl, by decide +kernel, by decide +kernel⟩
def b_every : Sx := (sSeq (sExpr (eCall 1 f_week_day [] (aCons (eVar 0) aNil))) (sSeq (sIf (tOrx (tVal (eBin wLt (eVar 1) (eC (.int 1)))) (tVal (eBin wGt (eBin wDiv (eBin wSub (eBin (wAdd false) (eBin wSub (eVar 2) (eVar 0)) (eVar 1)) (eC (.int 1))) (eVar 1)) (eC (.int 500))))) (sRaise 1) sNil) (sRet (eTupR (aCons (eVar 0) (aCons (eVar 2) (aCons (eVar 1) aNil)))))))
def f_every : List W → HS → R W := bodyM 3 b_every
theorem sc_nth_in : FnScope ["first", "week", "number"] ["first", "week", "number"] (defScope s_nth_in) := ⟨rfl, rfl, rfl, by decide +kernel, rfl, by decide +kernel, by decide +kernel⟩
def b_nth_in : Sx := (sSeq (sIf (tOrx (tNotx (tVal (eChain wLe wLe (eC (.int 0)) (eVar 1) (eC (.int 6))))) (tVal (eBin wLt (eVar 2) (eC (.int 1))))) (sRaise 1) sNil) (sRet (eBin (wAdd false) (eBin (wAdd false) (eVar 0) (eBin wMod (eBin wSub (eVar 1) (eCall 1 f_week_day [] (aCons (eVar 0) aNil))) (eC (.int 7)))) (eBin (wMul false) (eC (.int 7)) (eBin wSub (eVar 2) (eC (.int 1)))))))
def f_nth_in : List W → HS → R W := bodyM 3 b_nth_in
theorem sc_day_text : FnScope ["day"] ["day"] (defScope s_day_text) := ⟨rfl, rfl, rfl, by decide +kernel, rfl, by decide +kernel, by decide +kernel⟩
def b_day_text : Sx := (sRet (eBin (wAdd false) (eJs [(eC (.str "w")), (eFmt (eBin (wAdd false) (eBin wDiv (eVar 0) (eC (.int 7))) (eC (.int 1)))), (eC (.str " "))] Str.empty) (eBin wIx (eTup (aCons (eC (.str "mo")) (aCons (eC (.str "tu")) (aCons (eC (.str "we")) (aCons (eC (.str "th")) (aCons (eC (.str "fr")) (aCons (eC (.str "sa")) (aCons (eC (.str "su")) aNil)))))))) (eCall 1 f_week_day [] (aCons (eVar 0) aNil)))))
def f_day_text : List W → HS → R W := bodyM 1 b_day_text
theorem sc_read_day : FnScope ["text", "names", "week", "found", "head", "mark", "tail", "sign"] ["text"] (defScope s_read_day) := ⟨rfl, rfl, rfl, by decide +kernel, rfl, by decide +kernel, by decide +kernel⟩
def b_read_day : Sx := (sSeq (sAsg (eTx (aCons (eC (.str "mo")) (aCons (eC (.str "tu")) (aCons (eC (.str "we")) (aCons (eC (.str "th")) (aCons (eC (.str "fr")) (aCons (eC (.str "sa")) (aCons (eC (.str "su")) aNil)))))))) (gN 1)) (sSeq (sAsg (eS1 m_partition (eVar 0) (eC (.str " "))) (gTupx (gConsx (gN 4) (gConsx (gN 5) (gConsx (gN 6) gNilx))))) (sSeq (sAsg (eCut false (eVar 4) (pSome (eC (.int 1))) pNo) (gN 2)) (sSeq (sIf (tOrx (tNotx (tVal (eS1 m_startswith (eVar 4) (eC (.str "w"))))) (tOrx (tVal (eBin wNotInX (eVar 6) (eVar 1))) (tNotx (tVal (eChain wLe wLe (eC (.int 1)) (eCallB m_len (aCons (eVar 2) aNil)) (eC (.int 4))))))) (sRaise 1) sNil) (sSeq (sIf (tOrx (tVal (eAny [7] (iTxt (eVar 2)) (gN 7) tYesx (eBin wNotIn (eVar 7) (eC (.str "0123456789"))))) (tVal (eBin wEq (eBin wIx (eVar 2) (eC (.int 0))) (eC (.str "0"))))) (sRaise 1) sNil) (sSeq (sAsg (eBin (wAdd false) (eBin (wMul false) (eC (.int 7)) (eBin wSub (eCallB m_int (aCons (eVar 2) aNil)) (eC (.int 1)))) (eTxIx (eVar 1) (eVar 6))) (gN 3)) (sSeq (sExpr (eCall 1 f_week_day [] (aCons (eVar 3) aNil))) (sRet (eVar 3)))))))))
def f_read_day : List W → HS → R W := bodyM 8 b_read_day
theorem sc__law_dice : FnScope ["cell"] ["cell"] (defScope s__law_dice) := ⟨rfl, rfl, rfl, by decide +kernel, rfl, by decide +kernel, by decide +kernel⟩
def b__law_dice : Sx := (sSeq (sIf (tVal (eChain wLt wLt (eBin wSub (eC (.int 0)) (eC (.int 10))) (eVar 0) (eC (.int 10)))) (sRet (eLst true (aCons (eCallB m_abs (aCons (eVar 0) aNil)) (aCons (eC (.int 0)) (aCons (eC (.int 2)) aNil))))) sNil) (sRet (eLst true (aCons (eVar 0) (aCons (eBin (wAdd false) (eC (.int 1)) (eBin wMod (eCallB m_int (aCons (eVar 0) aNil)) (eC (.int 1009)))) (aCons (eCallB m_int (aCons (eBin wGe (eVar 0) (eBin wPow (eC (.int 10)) (eC (.int 18)))) aNil)) aNil))))))
def f__law_dice : List W → HS → R W := bodyM 1 b__law_dice
theorem sc__law_roll : FnScope ["dice", "many", "found"] ["dice", "many"] (defScope s__law_roll) := ⟨rfl, rfl, rfl, by decide +kernel, rfl, by decide +kernel, by decide +kernel⟩
def b__law_roll (r : List W → HS → R W) : Sx := (sSeq (sIf (tOrx (tVal (eBin wEq (eBin wIx (eVar 0) (eC (.int 2))) (eC (.int 2)))) (tAndx (tVal (eBin wEq (eBin wIx (eVar 0) (eC (.int 2))) (eC (.int 1)))) (tVal (eBin wGt (eBin wIx (eVar 0) (eC (.int 0))) (eC (.int 0)))))) (sSeq (sAsg (eBin wMod (eCallB m_int (aCons (eBin wIx (eVar 0) (eC (.int 0))) aNil)) (eVar 1)) (gN 2)) (sSeq (sSub (eBin wDiv (eBin wIx (eVar 0) (eC (.int 0))) (eVar 1)) (eVar 0) (eC (.int 0))) (sRet (eVar 2)))) sNil) (sSeq (sSub (eC (.int 0)) (eVar 0) (eC (.int 2))) (sSeq (sIf (tVal (eBin wGt (eVar 1) (eC (.int 100000000)))) (sRet (eBin wMod (eCallB m_int (aCons (eBin (wAdd false) (eBin (wMul false) (eCall 2 r [] (aCons (eVar 0) (aCons (eBin (wAdd false) (eBin wDiv (eVar 1) (eC (.int 100000000))) (eC (.int 1))) aNil))) (eC (.int 100000000))) (eCall 2 r [] (aCons (eVar 0) (aCons (eC (.int 100000000)) aNil)))) aNil)) (eVar 1))) sNil) (sSeq (sSub (eBin wMod (eCallB m_int (aCons (eBin (wAdd false) (eBin (wAdd false) (eBin (wMul false) (eBin wIx (eVar 0) (eC (.int 0))) (eC (.int 48271))) (eBin (wMul false) (eBin wIx (eVar 0) (eC (.int 1))) (eC (.int 69621)))) (eC (.int 11))) aNil)) (eC (.int 2147483647))) (eVar 0) (eC (.int 0))) (sSeq (sSub (eBin (wAdd false) (eBin wIx (eVar 0) (eC (.int 1))) (eC (.int 1))) (eVar 0) (eC (.int 1))) (sRet (eBin wMod (eCallB m_int (aCons (eBin wDiv (eBin wIx (eVar 0) (eC (.int 0))) (eC (.int 7))) aNil)) (eVar 1))))))))
def n__law_roll : Nat → List W → HS → R W
  | 0 => fun _ _ => .no
  | k + 1 => bodyM 3 (b__law_roll (n__law_roll k))
theorem sc__law_rounds : FnScope ["script", "most", "cells", "cell"] ["script", "most"] (defScope s__law_rounds) := ⟨rfl, rfl, rfl, by decide +kernel, rfl, by decide +kernel, by decide +kernel⟩
def b__law_rounds : Sx := (sSeq (sAsg (eCut false (eVar 0) pNo (pSome (eVar 1))) (gN 2)) (sSeq (sIf (tVal (eBin wEq (eVar 2) (eLst false aNil))) (sAsg (eLst false (aCons (eC (.int 0)) aNil)) (gN 2)) sNil) (sRet (eLc false [3] (iSeq (eVar 2)) (gN 3) tYesx (eCall 1 f__law_dice [] (aCons (eVar 3) aNil))))))
def f__law_rounds : List W → HS → R W := bodyM 4 b__law_rounds
theorem sc__law_hours : FnScope ["own", "day"] ["own", "day"] (defScope s__law_hours) := ⟨rfl, rfl, rfl, by decide +kernel, rfl, by decide +kernel, by decide +kernel⟩
def b__law_hours : Sx := (sRet (eGet2 (eBin wIx (eVar 0) (eC (.str "single"))) (eVar 1) (eBin wIx (eBin wIx (eVar 0) (eC (.str "hours"))) (eBin wSub (eVar 1) (eBin (wMul false) (eBin wDiv (eVar 1) (eC (.int 7))) (eC (.int 7)))))))
def f__law_hours : List W → HS → R W := bodyM 2 b__law_hours
theorem sc__law_worked : FnScope ["own", "first", "many", "found", "day"] ["own", "first", "many"] (defScope s__law_worked) := ⟨rfl, rfl, rfl, by decide +kernel, rfl, by decide +kernel, by decide +kernel⟩
def b__law_worked : Sx := (sSeq (sPar 3 4 (aCons (eLst false aNil) (aCons (eVar 1) aNil))) (sSeq (sWhile (tVal (eBin wLt (eCallB m_len (aCons (eVar 3) aNil)) (eVar 2))) (sPar 3 4 (aCons (eBin (wAdd false) (eVar 3) (eBin (wMul false) (eLst false (aCons (eVar 4) aNil)) (eCallB m_int (aCons (eBin wGt (eCall 2 f__law_hours [] (aCons (eVar 0) (aCons (eVar 4) aNil))) (eC (.int 0))) aNil)))) (aCons (eBin (wAdd false) (eVar 4) (eC (.int 1))) aNil)))) (sRet (eVar 3))))
def f__law_worked : List W → HS → R W := bodyM 5 b__law_worked
theorem sc__law_done : FnScope ["own", "day", "hours", "here"] ["own", "day", "hours"] (defScope s__law_done) := ⟨rfl, rfl, rfl, by decide +kernel, rfl, by decide +kernel, by decide +kernel⟩
def b__law_done : Sx := (sSeq (sFor (iSeq (eCall 3 f__law_worked [] (aCons (eVar 0) (aCons (eVar 1) (aCons (eC (.int 400)) aNil))))) (gN 3) (sSeq (sIf (tVal (eBin wLe (eVar 2) (eCall 2 f__law_hours [] (aCons (eVar 0) (aCons (eVar 3) aNil))))) (sRet (eTup (aCons (eVar 3) (aCons (eBin wSub (eCall 2 f__law_hours [] (aCons (eVar 0) (aCons (eVar 3) aNil))) (eVar 2)) aNil)))) sNil) (sAsg (eBin wSub (eVar 2) (eCall 2 f__law_hours [] (aCons (eVar 0) (aCons (eVar 3) aNil)))) (gN 2)))) (sRet (eC .non)))
def f__law_done : List W → HS → R W := bodyM 4 b__law_done
theorem sc__law_plain : FnScope ["calendar", "bad", "f"] [] (defScope s__law_plain) := ⟨rfl, rfl, rfl, by decide +kernel, rfl, by decide +kernel, by decide +kernel⟩
def b__law_plain : Sx := (sSeq (sAsg (eMake 2 2 f_Calendar___init__ dw_Calendar___init__ aNil) (gN 0)) (sSeq (sExpr (eMeth 2 "set_day" 3 f_Calendar_set_day [] (eVar 0) (aCons (eC (.int 2)) (aCons (eC (.int 0)) aNil)))) (sSeq (sExpr (eMeth 2 "set_day" 3 f_Calendar_set_day [] (eVar 0) (aCons (eC (.int 5)) (aCons (eC (.int 4)) aNil)))) (sSeq (sBad 1) (sSeq (sIf (tOrx (tVal (eBin wNe (eBads false [1] [(eCall 1 f_week_day [] (aCons (eUn wNeg (eC (.int 1))) aNil)), (eCall 1 f_week_day [] (aCons (eC (.int 20001)) aNil)), (eMake 2 2 f_Calendar___init__ [] (aCons (eBin (wMul false) (eTup (aCons (eC (.int 8)) aNil)) (eC (.int 6))) aNil)), (eMake 2 2 f_Calendar___init__ [] (aCons (eTup (aCons (eC (.int 25)) (aCons (eC (.int 0)) (aCons (eC (.int 0)) (aCons (eC (.int 0)) (aCons (eC (.int 0)) (aCons (eC (.int 0)) (aCons (eC (.int 0)) aNil)))))))) aNil)), (eMake 2 2 f_Calendar___init__ [] (aCons (eTup (aCons (eUn wNeg (eC (.int 1))) (aCons (eC (.int 8)) (aCons (eC (.int 0)) (aCons (eC (.int 0)) (aCons (eC (.int 0)) (aCons (eC (.int 0)) (aCons (eC (.int 0)) aNil)))))))) aNil)), (eMake 2 2 f_Calendar___init__ [] (aCons (eBin (wMul false) (eTup (aCons (eC (.int 0)) aNil)) (eC (.int 7))) aNil)), (eMeth 2 "set_day" 3 f_Calendar_set_day [] (eVar 0) (aCons (eUn wNeg (eC (.int 1))) (aCons (eC (.int 0)) aNil))), (eMeth 2 "set_day" 3 f_Calendar_set_day [] (eVar 0) (aCons (eC (.int 0)) (aCons (eC (.int 25)) aNil))), (eMeth 2 "set_day" 3 f_Calendar_set_day [] (eVar 0) (aCons (eC (.int 0)) (aCons (eUn wNeg (eC (.int 1))) aNil))), (eMeth 2 "clear_day" 2 f_Calendar_clear_day [] (eVar 0) (aCons (eC (.int 9)) aNil)), (eMeth 2 "on" 2 f_Calendar_on [] (eVar 0) (aCons (eUn wNeg (eC (.int 1))) aNil)), (eMeth 2 "next_worked" 2 f_Calendar_next_worked [] (eVar 0) (aCons (eC (.int 20001)) aNil)), (eMeth 2 "worked_ahead" 2 f_Calendar_worked_ahead [] (eVar 0) (aCons (eUn wNeg (eC (.int 1))) aNil)), (eMeth 2 "after" 3 f_Calendar_after [] (eVar 0) (aCons (eC (.int 0)) (aCons (eUn wNeg (eC (.int 1))) aNil))), (eMeth 2 "after" 3 f_Calendar_after [] (eVar 0) (aCons (eC (.int 20000)) (aCons (eC (.int 9)) aNil))), (eMeth 2 "between" 3 f_Calendar_between [] (eVar 0) (aCons (eC (.int 2)) (aCons (eC (.int 1)) aNil))), (eMeth 2 "between" 3 f_Calendar_between [] (eVar 0) (aCons (eUn wNeg (eC (.int 1))) (aCons (eC (.int 1)) aNil))), (eMeth 2 "hours_between" 3 f_Calendar_hours_between [] (eVar 0) (aCons (eC (.int 2)) (aCons (eC (.int 1)) aNil))), (eMeth 2 "done_on" 3 f_Calendar_done_on [] (eVar 0) (aCons (eC (.int 0)) (aCons (eUn wNeg (eC (.int 1))) aNil))), (eMeth 2 "row" 3 f_Calendar_row [] (eVar 0) (aCons (eC (.int 0)) (aCons (eUn wNeg (eC (.int 1))) aNil))), (eCall 3 f_every [] (aCons (eC (.int 0)) (aCons (eC (.int 0)) (aCons (eC (.int 5)) aNil)))), (eCall 3 f_every [] (aCons (eC (.int 0)) (aCons (eC (.int 1)) (aCons (eC (.int 600)) aNil)))), (eCall 3 f_every [] (aCons (eUn wNeg (eC (.int 1))) (aCons (eC (.int 1)) (aCons (eC (.int 5)) aNil)))), (eCall 3 f_nth_in [] (aCons (eC (.int 0)) (aCons (eC (.int 7)) (aCons (eC (.int 1)) aNil)))), (eCall 3 f_nth_in [] (aCons (eC (.int 0)) (aCons (eUn wNeg (eC (.int 1))) (aCons (eC (.int 1)) aNil)))), (eCall 3 f_nth_in [] (aCons (eC (.int 0)) (aCons (eC (.int 0)) (aCons (eC (.int 0)) aNil)))), (eCall 1 f_day_text [] (aCons (eUn wNeg (eC (.int 1))) aNil)), (eCall 1 f_read_day [] (aCons (eC (.str "")) aNil)), (eCall 1 f_read_day [] (aCons (eC (.str "w0 mo")) aNil)), (eCall 1 f_read_day [] (aCons (eC (.str "w01 mo")) aNil)), (eCall 1 f_read_day [] (aCons (eC (.str "w1 xx")) aNil)), (eCall 1 f_read_day [] (aCons (eC (.str "1 mo")) aNil)), (eCall 1 f_read_day [] (aCons (eC (.str "wx mo")) aNil)), (eCall 1 f_read_day [] (aCons (eC (.str "w9999 mo")) aNil)), (eCall 1 f_read_day [] (aCons (eC (.str "w1  mo")) aNil))]) (eLst false aNil))) (tOrx (tVal (eBin wNe (eC (.int 20000)) (eC (.int 20000)))) (tVal (eBin wNe (eMeth 2 "next_worked" 2 f_Calendar_next_worked [] (eVar 0) (aCons (eC (.int 2)) aNil)) (eC (.int 3)))))) (sRet (eC (.bl false))) sNil) (sSeq (sIf (tOrx (tVal (eBin wNe (eMeth 2 "worked_ahead" 2 f_Calendar_worked_ahead [] (eVar 0) (aCons (eC (.int 7)) aNil)) (eC (.int 5)))) (tOrx (tVal (eBin wNe (eMeth 2 "after" 3 f_Calendar_after [] (eVar 0) (aCons (eC (.int 1)) (aCons (eC (.int 4)) aNil))) (eC (.int 7)))) (tVal (eBin wNe (eMeth 2 "between" 3 f_Calendar_between [] (eVar 0) (aCons (eC (.int 0)) (aCons (eC (.int 8)) aNil))) (eC (.int 6)))))) (sRet (eC (.bl false))) sNil) (sSeq (sIf (tVal (eBin wNe (eMeth 2 "hours_between" 3 f_Calendar_hours_between [] (eVar 0) (aCons (eC (.int 0)) (aCons (eC (.int 8)) aNil))) (eC (.int 44)))) (sRet (eC (.bl false))) sNil) (sSeq (sIf (tNotx (tAndx (tVal (eBin wEq (eMeth 2 "done_on" 3 f_Calendar_done_on [] (eVar 0) (aCons (eC (.int 0)) (aCons (eC (.int 20)) aNil))) (eTup (aCons (eC (.int 3)) (aCons (eC (.int 4)) aNil))))) (tVal (eBin wEq (eMeth 2 "done_on" 3 f_Calendar_done_on [] (eVar 0) (aCons (eC (.int 0)) (aCons (eC (.int 0)) aNil))) (eTup (aCons (eC (.int 0)) (aCons (eC (.int 8)) aNil))))))) (sRet (eC (.bl false))) sNil) (sSeq (sIf (tNotx (tAndx (tVal (eBin wEq (eMeth 2 "row" 3 f_Calendar_row [] (eVar 0) (aCons (eC (.int 0)) (aCons (eC (.int 7)) aNil))) (eTup (aCons (eC (.int 8)) (aCons (eC (.int 8)) (aCons (eC (.int 0)) (aCons (eC (.int 8)) (aCons (eC (.int 8)) (aCons (eC (.int 4)) (aCons (eC (.int 0)) aNil)))))))))) (tVal (eBin wEq (eCall 4 f_both [] (aCons (eVar 0) (aCons (eMake 2 2 f_Calendar___init__ dw_Calendar___init__ aNil) (aCons (eC (.int 0)) (aCons (eC (.int 7)) aNil))))) (eTup (aCons (eC (.int 0)) (aCons (eC (.int 1)) (aCons (eC (.int 3)) (aCons (eC (.int 4)) aNil))))))))) (sRet (eC (.bl false))) sNil) (sSeq (sIf (tNotx (tAndx (tVal (eBin wEq (eCall 3 f_every [] (aCons (eC (.int 1)) (aCons (eC (.int 3)) (aCons (eC (.int 9)) aNil)))) (eTup (aCons (eC (.int 1)) (aCons (eC (.int 4)) (aCons (eC (.int 7)) aNil)))))) (tAndx (tVal (eBin wEq (eCall 3 f_nth_in [] (aCons (eC (.int 3)) (aCons (eC (.int 0)) (aCons (eC (.int 2)) aNil)))) (eC (.int 14)))) (tVal (eBin wEq (eCall 1 f_day_text [] (aCons (eC (.int 8)) aNil)) (eC (.str "w2 tu"))))))) (sRet (eC (.bl false))) sNil) (sRet (eAnd (eBin wEq (eCall 1 f_read_day [] (aCons (eC (.str "w2 tu")) aNil)) (eC (.int 8))) (eAnd (eBin wIs (eMeth 2 "worked_ahead" 2 f_Calendar_worked_ahead [] (eVar 0) (aCons (eC (.int 0)) aNil)) (eC .non)) (eBin wEq (eCall 3 f_every [] (aCons (eC (.int 5)) (aCons (eC (.int 1)) (aCons (eC (.int 5)) aNil)))) (eTup aNil)))))))))))))))
def f__law_plain : List W → HS → R W := bodyM 3 b__law_plain
theorem sc_law : FnScope ["script", "names", "dice", "hours", "step", "ahead", "rows", "work", "far", "text", "calendar", "own", "day", "many", "end", "each", "week", "number", "much", "good", "one", "k"] ["script"] (defScope s_law) := ⟨rfl, rfl, rfl, by decide +kernel, rfl, by decide +kernel, by decide +kernel⟩
def b_law : Sx := (sSeq (sAsg (eLst false (aCons (eC (.str "mo")) (aCons (eC (.str "tu")) (aCons (eC (.str "we")) (aCons (eC (.str "th")) (aCons (eC (.str "fr")) (aCons (eC (.str "sa")) (aCons (eC (.str "su")) aNil)))))))) (gN 1)) (sSeq (sFor (iSeq (eCall 2 f__law_rounds [] (aCons (eVar 0) (aCons (eC (.int 1)) aNil)))) (gN 2) (sSeq (sAsg (eBin (wAdd false) (eLc false [21] (iR1 (aCons (eC (.int 6)) aNil)) (gN 21) tYesx (eBin wIx (eLst false (aCons (eC (.int 8)) (aCons (eC (.int 8)) (aCons (eC (.int 4)) (aCons (eC (.int 0)) aNil))))) (eCall 2 (n__law_roll 4) [] (aCons (eVar 2) (aCons (eC (.int 4)) aNil))))) (eLst false (aCons (eBin (wAdd false) (eC (.int 1)) (eCall 2 (n__law_roll 4) [] (aCons (eVar 2) (aCons (eC (.int 8)) aNil)))) aNil))) (gN 3)) (sSeq (sAsg (eTup (aCons (eMake 2 2 f_Calendar___init__ [] (aCons (eVar 3) aNil)) (aCons (eDisp true [((eC (.str "hours")), (eVar 3)), ((eC (.str "single")), (eDnew false))]) aNil))) (gTupx (gConsx (gN 10) (gConsx (gN 11) gNilx)))) (sSeq (sFor (iR1 (aCons (eCall 2 (n__law_roll 4) [] (aCons (eVar 2) (aCons (eC (.int 13)) aNil))) aNil)) (gN 4) (sSeq (sAsg (eTup (aCons (eBin wSub (eCall 2 (n__law_roll 4) [] (aCons (eVar 2) (aCons (eC (.int 40)) aNil))) (eBin (wMul false) (eCallB m_int (aCons (eBin wEq (eCall 2 (n__law_roll 4) [] (aCons (eVar 2) (aCons (eC (.int 12)) aNil))) (eC (.int 0))) aNil)) (eC (.int 40)))) (aCons (eCall 2 (n__law_roll 4) [] (aCons (eVar 2) (aCons (eC (.int 27)) aNil))) aNil))) (gTupx (gConsx (gN 12) (gConsx (gN 18) gNilx)))) (sIf (tVal (eBin wGt (eCall 2 (n__law_roll 4) [] (aCons (eVar 2) (aCons (eC (.int 4)) aNil))) (eC (.int 0)))) (sSeq (sAsg (eAnd (eBin wGe (eVar 12) (eC (.int 0))) (eBin wLt (eVar 18) (eC (.int 25)))) (gN 19)) (sSeq (sSub (eCallB (m_dict false) (aCons (eBin (wAdd false) (eItemsL false (eBin wIx (eVar 11) (eC (.str "single")))) (eBin (wMul false) (eLst false (aCons (eTup (aCons (eVar 12) (aCons (eVar 18) aNil))) aNil)) (eCallB m_int (aCons (eVar 19) aNil)))) aNil)) (eVar 11) (eC (.str "single"))) (sIf (tVal (eBin wNe (eBin wNe (eTold [1] "DayError" (eMeth 2 "set_day" 3 f_Calendar_set_day [] (eVar 10) (aCons (eVar 12) (aCons (eVar 18) aNil)))) (eC (.str "DayError"))) (eVar 19))) (sRet (eC (.bl false))) sNil))) (sSeq (sAsg (eBin wIn (eVar 12) (eBin wIx (eVar 11) (eC (.str "single")))) (gN 19)) (sSeq (sSub (eCallB (m_dict false) (aCons (eLc false [20] (iKeys (eBin wIx (eVar 11) (eC (.str "single")))) (gN 20) (tVal (eBin wNe (eVar 20) (eVar 12))) (eTup (aCons (eVar 20) (aCons (eBin wIx (eBin wIx (eVar 11) (eC (.str "single"))) (eVar 20)) aNil)))) aNil)) (eVar 11) (eC (.str "single"))) (sIf (tVal (eBin wNe (eBin wNe (eTold [1] "DayError" (eMeth 2 "clear_day" 2 f_Calendar_clear_day [] (eVar 10) (aCons (eVar 12) aNil))) (eC (.str "DayError"))) (eVar 19))) (sRet (eC (.bl false))) sNil)))))) (sSeq (sIf (tVal (eBin wNe (eLc false [12] (iR1 (aCons (eC (.int 50)) aNil)) (gN 12) tYesx (eMeth 2 "on" 2 f_Calendar_on [] (eVar 10) (aCons (eVar 12) aNil))) (eLc false [12] (iR1 (aCons (eC (.int 50)) aNil)) (gN 12) tYesx (eCall 2 f__law_hours [] (aCons (eVar 11) (aCons (eVar 12) aNil)))))) (sRet (eC (.bl false))) sNil) (sSeq (sIf (tOrx (tVal (eBin wNe (eUn (wFld [2] "single") (eVar 10)) (eBin wIx (eVar 11) (eC (.str "single"))))) (tVal (eBin wNe (eUn (wFld [2] "hours") (eVar 10)) (eCallB m_tuple (aCons (eVar 3) aNil))))) (sRet (eC (.bl false))) sNil) (sSeq (sAsg (eTup (aCons (eCall 2 (n__law_roll 4) [] (aCons (eVar 2) (aCons (eC (.int 40)) aNil))) (aCons (eCall 2 (n__law_roll 4) [] (aCons (eVar 2) (aCons (eC (.int 20)) aNil))) (aCons (eCall 2 (n__law_roll 4) [] (aCons (eVar 2) (aCons (eC (.int 50)) aNil))) aNil)))) (gTupx (gConsx (gN 12) (gConsx (gN 13) (gConsx (gN 14) gNilx))))) (sSeq (sAsg (eLc false [20] (iR1 (aCons (eVar 12) aNil)) (gN 20) (tVal (eBin wGt (eCall 2 f__law_hours [] (aCons (eVar 11) (aCons (eVar 20) aNil))) (eC (.int 0)))) (eVar 20)) (gN 5)) (sSeq (sIf (tVal (eBin wNe (eMeth 2 "next_worked" 2 f_Calendar_next_worked [] (eVar 10) (aCons (eVar 12) aNil)) (eBin wIx (eCall 3 f__law_worked [] (aCons (eVar 11) (aCons (eVar 12) (aCons (eC (.int 1)) aNil)))) (eC (.int 0))))) (sRet (eC (.bl false))) sNil) (sSeq (sIf (tVal (eBin wNe (eMeth 2 "worked_ahead" 2 f_Calendar_worked_ahead [] (eVar 10) (aCons (eVar 12) aNil)) (eBin wIx (eBin (wAdd false) (eLst false (aCons (eC .non) aNil)) (eVar 5)) (eUn wNeg (eC (.int 1)))))) (sRet (eC (.bl false))) sNil) (sSeq (sIf (tVal (eBin wNe (eMeth 2 "after" 3 f_Calendar_after [] (eVar 10) (aCons (eVar 12) (aCons (eVar 13) aNil))) (eBin wIx (eCall 3 f__law_worked [] (aCons (eVar 11) (aCons (eVar 12) (aCons (eBin (wAdd false) (eVar 13) (eC (.int 1))) aNil)))) (eUn wNeg (eC (.int 1)))))) (sRet (eC (.bl false))) sNil) (sSeq (sAsg (eLc false [20] (iR2 (aCons (eVar 12) (aCons (eVar 14) aNil))) (gN 20) tYesx (eCall 2 f__law_hours [] (aCons (eVar 11) (aCons (eVar 20) aNil)))) (gN 6)) (sSeq (sIf (tVal (eBin wNe (eTold [1] "DayError" (eMeth 2 "between" 3 f_Calendar_between [] (eVar 10) (aCons (eVar 12) (aCons (eVar 14) aNil)))) (eIf (tVal (eBin wGe (eVar 14) (eVar 12))) (eCallB m_len (aCons (eLc false [18] (iSeq (eVar 6)) (gN 18) (tVal (eBin wGt (eVar 18) (eC (.int 0)))) (eVar 18)) aNil)) (eC (.str "DayError"))))) (sRet (eC (.bl false))) sNil) (sSeq (sIf (tVal (eBin wNe (eTold [1] "DayError" (eMeth 2 "hours_between" 3 f_Calendar_hours_between [] (eVar 10) (aCons (eVar 12) (aCons (eVar 14) aNil)))) (eIf (tVal (eBin wGe (eVar 14) (eVar 12))) (eCallB m_sum (aCons (eVar 6) aNil)) (eC (.str "DayError"))))) (sRet (eC (.bl false))) sNil) (sSeq (sAsg (eCall 2 (n__law_roll 4) [] (aCons (eVar 2) (aCons (eC (.int 120)) aNil))) (gN 7)) (sSeq (sIf (tVal (eBin wNe (eMeth 2 "done_on" 3 f_Calendar_done_on [] (eVar 10) (aCons (eVar 12) (aCons (eVar 7) aNil))) (eCall 3 f__law_done [] (aCons (eVar 11) (aCons (eVar 12) (aCons (eVar 7) aNil)))))) (sRet (eC (.bl false))) sNil) (sSeq (sIf (tVal (eBin wNe (eCallB (m_list false) (aCons (eMeth 2 "row" 3 f_Calendar_row [] (eVar 10) (aCons (eVar 12) (aCons (eVar 13) aNil))) aNil)) (eLc false [20] (iR2 (aCons (eVar 12) (aCons (eBin (wAdd false) (eVar 12) (eVar 13)) aNil))) (gN 20) tYesx (eCall 2 f__law_hours [] (aCons (eVar 11) (aCons (eVar 20) aNil)))))) (sRet (eC (.bl false))) sNil) (sSeq (sIf (tVal (eBin wNe (eCallB (m_list false) (aCons (eCall 4 f_both [] (aCons (eVar 10) (aCons (eMake 2 2 f_Calendar___init__ dw_Calendar___init__ aNil) (aCons (eVar 12) (aCons (eVar 13) aNil))))) aNil)) (eLc false [20] (iR2 (aCons (eVar 12) (aCons (eBin (wAdd false) (eVar 12) (eVar 13)) aNil))) (gN 20) (tAndx (tVal (eBin wGt (eCall 2 f__law_hours [] (aCons (eVar 11) (aCons (eVar 20) aNil))) (eC (.int 0)))) (tVal (eBin wLt (eBin wSub (eVar 20) (eBin (wMul false) (eBin wDiv (eVar 20) (eC (.int 7))) (eC (.int 7)))) (eC (.int 5))))) (eVar 20)))) (sRet (eC (.bl false))) sNil) (sSeq (sAsg (eTup (aCons (eBin (wAdd false) (eC (.int 1)) (eCall 2 (n__law_roll 4) [] (aCons (eVar 2) (aCons (eC (.int 12)) aNil)))) (aCons (eCall 2 (n__law_roll 4) [] (aCons (eVar 2) (aCons (eC (.int 7)) aNil))) (aCons (eBin (wAdd false) (eC (.int 1)) (eCall 2 (n__law_roll 4) [] (aCons (eVar 2) (aCons (eC (.int 6)) aNil)))) aNil)))) (gTupx (gConsx (gN 15) (gConsx (gN 16) (gConsx (gN 17) gNilx))))) (sSeq (sIf (tVal (eBin wNe (eCallB (m_list false) (aCons (eCall 3 f_every [] (aCons (eVar 12) (aCons (eVar 15) (aCons (eVar 14) aNil)))) aNil)) (eLc false [20] (iR2 (aCons (eVar 12) (aCons (eVar 14) aNil))) (gN 20) (tVal (eBin wEq (eBin (wMul false) (eBin wDiv (eBin wSub (eVar 20) (eVar 12)) (eVar 15)) (eVar 15)) (eBin wSub (eVar 20) (eVar 12)))) (eVar 20)))) (sRet (eC (.bl false))) sNil) (sSeq (sIf (tVal (eBin wNe (eCall 3 f_nth_in [] (aCons (eVar 12) (aCons (eVar 16) (aCons (eVar 17) aNil)))) (eBin wIx (eLc false [20] (iR2 (aCons (eVar 12) (aCons (eBin (wAdd false) (eVar 12) (eC (.int 60))) aNil))) (gN 20) (tVal (eBin wEq (eBin wSub (eVar 20) (eBin (wMul false) (eBin wDiv (eVar 20) (eC (.int 7))) (eC (.int 7)))) (eVar 16))) (eVar 20)) (eBin wSub (eVar 17) (eC (.int 1)))))) (sRet (eC (.bl false))) sNil) (sSeq (sAsg (eCall 2 (n__law_roll 4) [] (aCons (eVar 2) (aCons (eC (.int 20001)) aNil))) (gN 8)) (sSeq (sAsg (eBin (wAdd false) (eBin (wAdd false) (eBin (wAdd false) (eC (.str "w")) (eCallB m_str (aCons (eBin (wAdd false) (eBin wDiv (eVar 8) (eC (.int 7))) (eC (.int 1))) aNil))) (eC (.str " "))) (eBin wIx (eVar 1) (eBin wSub (eVar 8) (eBin (wMul false) (eBin wDiv (eVar 8) (eC (.int 7))) (eC (.int 7)))))) (gN 9)) (sIf (tOrx (tVal (eBin wNe (eCall 1 f_day_text [] (aCons (eVar 8) aNil)) (eVar 9))) (tOrx (tVal (eBin wNe (eCall 1 f_read_day [] (aCons (eVar 9) aNil)) (eVar 8))) (tVal (eBin wNe (eCall 1 f_week_day [] (aCons (eVar 8) aNil)) (eBin wSub (eVar 8) (eBin (wMul false) (eBin wDiv (eVar 8) (eC (.int 7))) (eC (.int 7)))))))) (sRet (eC (.bl false))) sNil)))))))))))))))))))))))) (sRet (eCall 0 f__law_plain [] aNil))))
def f_law : List W → HS → R W := bodyM 22 b_law
end K01
end

/-! Ka01 -/
section
set_option Elab.async false
set_option linter.all false
set_option maxRecDepth 100000
set_option maxHeartbeats 4000000
namespace K01
open PySem PySem.Spec L2 Pk
section
variable {Γ : Pk.Γ} {P : Program} {w : World} {mg : Str → Option Value} {base : Heap}
theorem B_week_day (T : Fx Γ P w mg base) : Binds Γ.K T.d_week_day ["day"] [] := T.F_week_day.bindsN fun _ _ _ _ _ _ us hl => match us, hl with | [_], _ => rfl
theorem ok_week_day (T : Fx Γ P w mg base) : FnOk P w Γ.K mg base (L2.CX P w) 1 T.a_week_day T.d_week_day ["day"] (spM Γ 1 f_week_day) :=
  fnD_ok T.F_week_day sc_week_day rfl (fun cdv A outer s H E hr tk => (s_cons (s_if (t_not (t_chain o_le o_le e_int (e_var 0) (e_gint T.i_LAST))) (s_one (s_raiseX rfl rfl tk T.x_DayError)) s_nil) (s_one (s_ret (e_bin o_mod (e_var 0) e_int)))))
end
end K01
end

/-! Ka02 -/
section
set_option Elab.async false
set_option linter.all false
set_option maxRecDepth 100000
set_option maxHeartbeats 4000000
namespace K01
open PySem PySem.Spec L2 Pk
section
variable {Γ : Pk.Γ} {P : Program} {w : World} {mg : Str → Option Value} {base : Heap}

theorem ok_Calendar___init__ (T : Fx Γ P w mg base) : FnOk P w Γ.K mg base (L2.CX P w) 2 T.a_Calendar___init__ T.d_Calendar___init__ ["self", "hours"] (spM Γ 2 f_Calendar___init__) :=
  fnC_ok T.F_Calendar___init__ T.g_Calendar___init__.code sc_Calendar___init__ rfl (fun A outer s H E hr tk => (s_cons (s_if (PW.pt (t_orC (t_cmp (o_ne rfl (hu64 hr)) (e_callB (c_len rfl) (by rfl) T.z_len (by decide +kernel) (a_cons (e_var 1) a_nil)) e_int) (t_orC (t_val (e_any (own := [("hour", 2)]) (T.g_Calendar___init__.has (k := 0) hr (by omega) rfl rfl rfl rfl) sc_Calendar___init__.nd T.z_any (genB_by (by kernel_rfl)) (i_seq rfl (e_var 1)) (fun _ _ _ _ _ _ hr => (g_name (hl := hlt rfl) 2 sc_Calendar___init__.nd)) (fun _ _ _ _ _ _ hr => t_yes) (fun _ _ _ _ _ _ hr => (e_not (e_chain o_le o_le e_int (e_var 2) e_int))))) (t_or1 (t_cmp (o_eq rfl (hu64 hr)) (e_callB (c_sum rfl rfl) (by rfl) T.z_sum (by decide +kernel) (a_cons (e_var 1) a_nil)) e_int))))) (s_one (s_raiseX rfl rfl tk T.x_DayError)) s_nil) (s_cons (s_fld rfl [2] T.fl_hours (e_callTy (c_tuple rfl) (by rfl) T.z_tuple (by decide +kernel) (a_cons (e_var 1) a_nil)) (e_var 0)) (s_one (s_fld rfl [2] T.fl_single (e_dnew true) (e_var 0))))))
end
end K01
end

/-! Ka03 -/
section
set_option Elab.async false
set_option linter.all false
set_option maxRecDepth 100000
set_option maxHeartbeats 4000000
namespace K01
open PySem PySem.Spec L2 Pk
section
variable {Γ : Pk.Γ} {P : Program} {w : World} {mg : Str → Option Value} {base : Heap}
theorem B_Calendar_set_day (T : Fx Γ P w mg base) : Binds Γ.K T.d_Calendar_set_day ["self", "day", "hours"] [] := T.F_Calendar_set_day.bindsN fun _ _ _ _ _ _ us hl => match us, hl with | [_, _, _], _ => rfl
theorem ok_Calendar_set_day (T : Fx Γ P w mg base) : FnOk P w Γ.K mg base (L2.CX P w) 2 T.a_Calendar_set_day T.d_Calendar_set_day ["self", "day", "hours"] (spM Γ 3 f_Calendar_set_day) :=
  fnD_ok T.F_Calendar_set_day sc_Calendar_set_day rfl (fun cdv A outer s H E hr tk => (s_cons (s_expr (e_call (ok_week_day T) (hr.mono (by omega)) T.G_week_day T.F_week_day.kp (B_week_day T) .nil (fun _ => .nil) tk (a_cons (e_var 1) a_nil))) (s_cons (s_if (t_not (t_chain o_le o_le e_int (e_var 2) e_int)) (s_one (s_raiseX rfl rfl tk T.x_DayError)) s_nil) (s_one (s_sub (hu1 hr) (e_var 2) (e_fld rfl [2] T.fl_single (e_var 0)) (e_var 1))))))
end
end K01
end

/-! Ka04 -/
section
set_option Elab.async false
set_option linter.all false
set_option maxRecDepth 100000
set_option maxHeartbeats 4000000
namespace K01
open PySem PySem.Spec L2 Pk
section
variable {Γ : Pk.Γ} {P : Program} {w : World} {mg : Str → Option Value} {base : Heap}
theorem B_Calendar_clear_day (T : Fx Γ P w mg base) : Binds Γ.K T.d_Calendar_clear_day ["self", "day"] [] := T.F_Calendar_clear_day.bindsN fun _ _ _ _ _ _ us hl => match us, hl with | [_, _], _ => rfl
theorem ok_Calendar_clear_day (T : Fx Γ P w mg base) : FnOk P w Γ.K mg base (L2.CX P w) 1 T.a_Calendar_clear_day T.d_Calendar_clear_day ["self", "day"] (spM Γ 2 f_Calendar_clear_day) :=
  fnD_ok T.F_Calendar_clear_day sc_Calendar_clear_day rfl (fun cdv A outer s H E hr tk => (s_cons (s_if (t_cmp (o_notIn rfl (hu1 hr)) (e_var 1) (e_fld rfl [2] T.fl_single (e_var 0))) (s_one (s_raiseX rfl rfl tk T.x_DayError)) s_nil) (s_one (s_del (e_fld rfl [2] T.fl_single (e_var 0)) (e_var 1)))))
end
end K01
end

/-! Ka05 -/
section
set_option Elab.async false
set_option linter.all false
set_option maxRecDepth 100000
set_option maxHeartbeats 4000000
namespace K01
open PySem PySem.Spec L2 Pk
section
variable {Γ : Pk.Γ} {P : Program} {w : World} {mg : Str → Option Value} {base : Heap}
theorem B_Calendar_on (T : Fx Γ P w mg base) : Binds Γ.K T.d_Calendar_on ["self", "day"] [] := T.F_Calendar_on.bindsN fun _ _ _ _ _ _ us hl => match us, hl with | [_, _], _ => rfl
theorem ok_Calendar_on (T : Fx Γ P w mg base) : FnOk P w Γ.K mg base (L2.CX P w) 2 T.a_Calendar_on T.d_Calendar_on ["self", "day"] (spM Γ 2 f_Calendar_on) :=
  fnD_ok T.F_Calendar_on sc_Calendar_on rfl (fun cdv A outer s H E hr tk => (s_one (s_ret (e_get2 (hu1 hr) (e_fld rfl [2] T.fl_single (e_var 0)) (e_var 1) (e_ix rfl (hu1 hr) (e_fld rfl [2] T.fl_hours (e_var 0)) (e_call (ok_week_day T) (hr.mono (by omega)) T.G_week_day T.F_week_day.kp (B_week_day T) .nil (fun _ => .nil) tk (a_cons (e_var 1) a_nil))) ⟨rfl, rfl, rfl, rfl⟩))))
end
end K01
end

/-! Ka06 -/
section
set_option Elab.async false
set_option linter.all false
set_option maxRecDepth 100000
set_option maxHeartbeats 4000000
namespace K01
open PySem PySem.Spec L2 Pk
section
variable {Γ : Pk.Γ} {P : Program} {w : World} {mg : Str → Option Value} {base : Heap}
theorem B_Calendar_next_worked (T : Fx Γ P w mg base) : Binds Γ.K T.d_Calendar_next_worked ["self", "day"] [] := T.F_Calendar_next_worked.bindsN fun _ _ _ _ _ _ us hl => match us, hl with | [_, _], _ => rfl
theorem ok_Calendar_next_worked (T : Fx Γ P w mg base) : FnOk P w Γ.K mg base (L2.CX P w) 3 T.a_Calendar_next_worked T.d_Calendar_next_worked ["self", "day"] (spM Γ 2 f_Calendar_next_worked) :=
  fnD_ok T.F_Calendar_next_worked sc_Calendar_next_worked rfl (fun cdv A outer s H E hr tk => (s_cons (s_while (passes_of rfl) (t_cmp (o_eq rfl (hu64 hr)) (e_meth (ok_Calendar_on T) (hr.mono (by omega)) rfl T.C_Calendar T.m_Calendar_on (B_Calendar_on T) .nil (fun _ => .nil) tk (e_var 0) (a_cons (e_var 1) a_nil)) e_int) (s_one (s_aug (hl := hlt rfl) 1 sc_Calendar_next_worked.nd ip_add (fun _ _ _ => rfl) e_int))) (s_one (s_ret (e_var 1)))))
end
end K01
end

/-! Ka07 -/
section
set_option Elab.async false
set_option linter.all false
set_option maxRecDepth 100000
set_option maxHeartbeats 4000000
namespace K01
open PySem PySem.Spec L2 Pk
section
variable {Γ : Pk.Γ} {P : Program} {w : World} {mg : Str → Option Value} {base : Heap}
theorem B_Calendar_worked_ahead (T : Fx Γ P w mg base) : Binds Γ.K T.d_Calendar_worked_ahead ["self", "day"] [] := T.F_Calendar_worked_ahead.bindsN fun _ _ _ _ _ _ us hl => match us, hl with | [_, _], _ => rfl
theorem ok_Calendar_worked_ahead (T : Fx Γ P w mg base) : FnOk P w Γ.K mg base (L2.CX P w) 3 T.a_Calendar_worked_ahead T.d_Calendar_worked_ahead ["self", "day"] (spM Γ 2 f_Calendar_worked_ahead) :=
  fnD_ok T.F_Calendar_worked_ahead sc_Calendar_worked_ahead rfl (fun cdv A outer s H E hr tk => (s_cons (s_expr (e_call (ok_week_day T) (hr.mono (by omega)) T.G_week_day T.F_week_day.kp (B_week_day T) .nil (fun _ => .nil) tk (a_cons (e_var 1) a_nil))) (s_cons (s_for (passes_of rfl) rfl (i_r3 (by rfl) T.z_range (a_cons (e_bin o_sub (e_var 1) e_int) (a_cons (e_bin o_sub e_int e_int) (a_cons (e_bin o_sub e_int e_int) a_nil)))) (g_name (hl := hlt rfl) 2 sc_Calendar_worked_ahead.nd) (s_one (s_if (t_cmp o_gt (e_meth (ok_Calendar_on T) (hr.mono (by omega)) rfl T.C_Calendar T.m_Calendar_on (B_Calendar_on T) .nil (fun _ => .nil) tk (e_var 0) (a_cons (e_var 2) a_nil)) e_int) (s_one (s_ret (e_var 2))) s_nil))) (s_one (s_ret e_non)))))
end
end K01
end

/-! Ka08 -/
section
set_option Elab.async false
set_option linter.all false
set_option maxRecDepth 100000
set_option maxHeartbeats 4000000
namespace K01
open PySem PySem.Spec L2 Pk
section
variable {Γ : Pk.Γ} {P : Program} {w : World} {mg : Str → Option Value} {base : Heap}
theorem B_Calendar_after (T : Fx Γ P w mg base) : Binds Γ.K T.d_Calendar_after ["self", "day", "many"] [] := T.F_Calendar_after.bindsN fun _ _ _ _ _ _ us hl => match us, hl with | [_, _, _], _ => rfl
theorem ok_Calendar_after (T : Fx Γ P w mg base) : FnOk P w Γ.K mg base (L2.CX P w) 4 T.a_Calendar_after T.d_Calendar_after ["self", "day", "many"] (spM Γ 3 f_Calendar_after) :=
  fnD_ok T.F_Calendar_after sc_Calendar_after rfl (fun cdv A outer s H E hr tk => (s_cons (s_if (t_cmp o_lt (e_var 2) e_int) (s_one (s_raiseX rfl rfl tk T.x_DayError)) s_nil) (s_cons (s_set (hl := hlt rfl) 3 sc_Calendar_after.nd (e_meth (ok_Calendar_next_worked T) (hr.mono (by omega)) rfl T.C_Calendar T.m_Calendar_next_worked (B_Calendar_next_worked T) .nil (fun _ => .nil) tk (e_var 0) (a_cons (e_var 1) a_nil))) (s_cons (s_for (passes_of rfl) rfl (i_r1 (by rfl) T.z_range (a_cons (e_var 2) a_nil)) (g_name (hl := hlt rfl) 4 sc_Calendar_after.nd) (s_one (s_set (hl := hlt rfl) 3 sc_Calendar_after.nd (e_meth (ok_Calendar_next_worked T) (hr.mono (by omega)) rfl T.C_Calendar T.m_Calendar_next_worked (B_Calendar_next_worked T) .nil (fun _ => .nil) tk (e_var 0) (a_cons (e_bin (o_add false rfl) (e_var 3) e_int) a_nil))))) (s_one (s_ret (e_var 3)))))))
end
end K01
end

/-! Ka09 -/
section
set_option Elab.async false
set_option linter.all false
set_option maxRecDepth 100000
set_option maxHeartbeats 4000000
namespace K01
open PySem PySem.Spec L2 Pk
section
variable {Γ : Pk.Γ} {P : Program} {w : World} {mg : Str → Option Value} {base : Heap}
theorem B_Calendar_between (T : Fx Γ P w mg base) : Binds Γ.K T.d_Calendar_between ["self", "first", "end"] [] := T.F_Calendar_between.bindsN fun _ _ _ _ _ _ us hl => match us, hl with | [_, _, _], _ => rfl
theorem ok_Calendar_between (T : Fx Γ P w mg base) : FnOk P w Γ.K mg base (L2.CX P w) 3 T.a_Calendar_between T.d_Calendar_between ["self", "first", "end"] (spM Γ 3 f_Calendar_between) :=
  fnD_ok T.F_Calendar_between sc_Calendar_between rfl (fun cdv A outer s H E hr tk => (s_cons (s_if (t_cmp o_lt (e_var 2) (e_var 1)) (s_one (s_raiseX rfl rfl tk T.x_DayError)) s_nil) (s_cons (s_expr (e_call (ok_week_day T) (hr.mono (by omega)) T.G_week_day T.F_week_day.kp (B_week_day T) .nil (fun _ => .nil) tk (a_cons (e_var 1) a_nil))) (s_one (s_ret (e_callB (c_len rfl) (by rfl) T.z_len (by decide +kernel) (a_cons (e_lc (own := [("day", 3)]) false rfl sc_Calendar_between.nd (i_r2 (by rfl) T.z_range (a_cons (e_var 1) (a_cons (e_var 2) a_nil))) (blkOk_by (by kernel_rfl)) (fun _ _ _ _ _ => (g_name (hl := hlt rfl) 3 sc_Calendar_between.nd)) (fun _ _ _ _ _ => (t_ifs (t_cmp o_gt (e_meth (ok_Calendar_on T) (hr.mono (by omega)) rfl T.C_Calendar T.m_Calendar_on (B_Calendar_on T) .nil (fun _ => .nil) LamX.takes0 (e_var 0) (a_cons (e_var 3) a_nil)) e_int))) (fun _ _ _ _ _ => e_int)) a_nil)))))))
end
end K01
end

/-! Ka10 -/
section
set_option Elab.async false
set_option linter.all false
set_option maxRecDepth 100000
set_option maxHeartbeats 4000000
namespace K01
open PySem PySem.Spec L2 Pk
section
variable {Γ : Pk.Γ} {P : Program} {w : World} {mg : Str → Option Value} {base : Heap}
theorem B_Calendar_hours_between (T : Fx Γ P w mg base) : Binds Γ.K T.d_Calendar_hours_between ["self", "first", "end"] [] := T.F_Calendar_hours_between.bindsN fun _ _ _ _ _ _ us hl => match us, hl with | [_, _, _], _ => rfl
theorem ok_Calendar_hours_between (T : Fx Γ P w mg base) : FnOk P w Γ.K mg base (L2.CX P w) 5 T.a_Calendar_hours_between T.d_Calendar_hours_between ["self", "first", "end"] (spM Γ 3 f_Calendar_hours_between) :=
  fnC_ok T.F_Calendar_hours_between T.g_Calendar_hours_between.code sc_Calendar_hours_between rfl (fun A outer s H E hr tk => (s_cons (s_expr (e_meth (ok_Calendar_between T) (hr.mono (by omega)) rfl T.C_Calendar T.m_Calendar_between (B_Calendar_between T) .nil (fun _ => .nil) tk (e_var 0) (a_cons (e_var 1) (a_cons (e_var 2) a_nil)))) (s_one (s_ret (e_sumG (own := [("day", 3)]) (T.g_Calendar_hours_between.has (k := 3) hr (by omega) rfl rfl rfl rfl) sc_Calendar_hours_between.nd T.z_sum (genB_by (by kernel_rfl)) (i_r2 (by rfl) T.z_range (a_cons (e_var 1) (a_cons (e_var 2) a_nil))) (fun _ _ _ _ _ _ hr => (g_name (hl := hlt rfl) 3 sc_Calendar_hours_between.nd)) (fun _ _ _ _ _ _ hr => t_yes) (fun _ _ _ _ _ _ hr => (e_meth (ok_Calendar_on T) (hr.mono (by omega)) rfl T.C_Calendar T.m_Calendar_on (B_Calendar_on T) .nil (fun _ => .nil) LamX.takes0 (e_var 0) (a_cons (e_var 3) a_nil))))))))
end
end K01
end

/-! Ka11 -/
section
set_option Elab.async false
set_option linter.all false
set_option maxRecDepth 100000
set_option maxHeartbeats 4000000
namespace K01
open PySem PySem.Spec L2 Pk
section
variable {Γ : Pk.Γ} {P : Program} {w : World} {mg : Str → Option Value} {base : Heap}
theorem B_Calendar_done_on (T : Fx Γ P w mg base) : Binds Γ.K T.d_Calendar_done_on ["self", "day", "hours"] [] := T.F_Calendar_done_on.bindsN fun _ _ _ _ _ _ us hl => match us, hl with | [_, _, _], _ => rfl
theorem ok_Calendar_done_on (T : Fx Γ P w mg base) : FnOk P w Γ.K mg base (L2.CX P w) 4 T.a_Calendar_done_on T.d_Calendar_done_on ["self", "day", "hours"] (spM Γ 3 f_Calendar_done_on) :=
  fnD_ok T.F_Calendar_done_on sc_Calendar_done_on rfl (fun cdv A outer s H E hr tk => (s_cons (s_if (t_cmp o_lt (e_var 2) e_int) (s_one (s_raiseX rfl rfl tk T.x_DayError)) s_nil) (s_cons (s_set (hl := hlt rfl) 3 sc_Calendar_done_on.nd (e_meth (ok_Calendar_next_worked T) (hr.mono (by omega)) rfl T.C_Calendar T.m_Calendar_next_worked (B_Calendar_next_worked T) .nil (fun _ => .nil) tk (e_var 0) (a_cons (e_var 1) a_nil))) (s_cons (s_while (passes_of rfl) (t_cmp o_gt (e_var 2) (e_meth (ok_Calendar_on T) (hr.mono (by omega)) rfl T.C_Calendar T.m_Calendar_on (B_Calendar_on T) .nil (fun _ => .nil) tk (e_var 0) (a_cons (e_var 3) a_nil))) (s_cons (s_aug (hl := hlt rfl) 2 sc_Calendar_done_on.nd ip_sub (fun _ _ _ => rfl) (e_meth (ok_Calendar_on T) (hr.mono (by omega)) rfl T.C_Calendar T.m_Calendar_on (B_Calendar_on T) .nil (fun _ => .nil) tk (e_var 0) (a_cons (e_var 3) a_nil))) (s_one (s_set (hl := hlt rfl) 3 sc_Calendar_done_on.nd (e_meth (ok_Calendar_next_worked T) (hr.mono (by omega)) rfl T.C_Calendar T.m_Calendar_next_worked (B_Calendar_next_worked T) .nil (fun _ => .nil) tk (e_var 0) (a_cons (e_bin (o_add false rfl) (e_var 3) e_int) a_nil)))))) (s_one (s_ret (e_tup (a_cons (e_var 3) (a_cons (e_bin o_sub (e_meth (ok_Calendar_on T) (hr.mono (by omega)) rfl T.C_Calendar T.m_Calendar_on (B_Calendar_on T) .nil (fun _ => .nil) tk (e_var 0) (a_cons (e_var 3) a_nil)) (e_var 2)) a_nil)))))))))
end
end K01
end

/-! Ka12 -/
section
set_option Elab.async false
set_option linter.all false
set_option maxRecDepth 100000
set_option maxHeartbeats 4000000
namespace K01
open PySem PySem.Spec L2 Pk
section
variable {Γ : Pk.Γ} {P : Program} {w : World} {mg : Str → Option Value} {base : Heap}
theorem B_Calendar_row (T : Fx Γ P w mg base) : Binds Γ.K T.d_Calendar_row ["self", "first", "many"] [] := T.F_Calendar_row.bindsN fun _ _ _ _ _ _ us hl => match us, hl with | [_, _, _], _ => rfl
theorem ok_Calendar_row (T : Fx Γ P w mg base) : FnOk P w Γ.K mg base (L2.CX P w) 4 T.a_Calendar_row T.d_Calendar_row ["self", "first", "many"] (spM Γ 3 f_Calendar_row) :=
  fnC_ok T.F_Calendar_row T.g_Calendar_row.code sc_Calendar_row rfl (fun A outer s H E hr tk => (s_cons (s_expr (e_call (ok_week_day T) (hr.mono (by omega)) T.G_week_day T.F_week_day.kp (B_week_day T) .nil (fun _ => .nil) tk (a_cons (e_var 1) a_nil))) (s_cons (s_if (t_cmp o_lt (e_var 2) e_int) (s_one (s_raiseX rfl rfl tk T.x_DayError)) s_nil) (s_one (s_ret (e_tupG (own := [("day", 3)]) (T.g_Calendar_row.has (k := 2) hr (by omega) rfl rfl rfl rfl) sc_Calendar_row.nd T.z_tuple (genB_by (by kernel_rfl)) (i_r2 (by rfl) T.z_range (a_cons (e_var 1) (a_cons (e_bin (o_add false rfl) (e_var 1) (e_var 2)) a_nil))) (fun _ _ _ _ _ _ hr => (g_name (hl := hlt rfl) 3 sc_Calendar_row.nd)) (fun _ _ _ _ _ _ hr => t_yes) (fun _ _ _ _ _ _ hr => (e_meth (ok_Calendar_on T) (hr.mono (by omega)) rfl T.C_Calendar T.m_Calendar_on (B_Calendar_on T) .nil (fun _ => .nil) LamX.takes0 (e_var 0) (a_cons (e_var 3) a_nil)))))))))
end
end K01
end

/-! Ka13 -/
section
set_option Elab.async false
set_option linter.all false
set_option maxRecDepth 100000
set_option maxHeartbeats 4000000
namespace K01
open PySem PySem.Spec L2 Pk
section
variable {Γ : Pk.Γ} {P : Program} {w : World} {mg : Str → Option Value} {base : Heap}
theorem B_both (T : Fx Γ P w mg base) : Binds Γ.K T.d_both ["one", "other", "first", "many"] [] := T.F_both.bindsN fun _ _ _ _ _ _ us hl => match us, hl with | [_, _, _, _], _ => rfl
theorem ok_both (T : Fx Γ P w mg base) : FnOk P w Γ.K mg base (L2.CX P w) 6 T.a_both T.d_both ["one", "other", "first", "many"] (spM Γ 4 f_both) :=
  fnC_ok T.F_both T.g_both.code sc_both rfl (fun A outer s H E hr tk => (s_cons (s_set (hl := hlt rfl) 4 sc_both.nd (e_zipL false rfl rfl (by rfl) T.z_list (by rfl) T.z_zip (a_cons (e_meth (ok_Calendar_row T) (hr.mono (by omega)) rfl T.C_Calendar T.m_Calendar_row (B_Calendar_row T) .nil (fun _ => .nil) tk (e_var 0) (a_cons (e_var 2) (a_cons (e_var 3) a_nil))) (a_cons (e_meth (ok_Calendar_row T) (hr.mono (by omega)) rfl T.C_Calendar T.m_Calendar_row (B_Calendar_row T) .nil (fun _ => .nil) tk (e_var 1) (a_cons (e_var 2) (a_cons (e_var 3) a_nil))) a_nil)))) (s_one (s_ret (e_tupG (own := [("place", 5), ("a", 6), ("b", 7)]) (T.g_both.has (k := 4) hr (by omega) rfl rfl rfl rfl) sc_both.nd T.z_tuple (genB_by (by kernel_rfl)) (i_enum rfl (by rfl) T.z_enumerate (a_cons (e_var 4) a_nil)) (fun _ _ _ _ _ _ hr => (g_tup (n := 2) rfl rfl (gs_cons (g_name (hl := hlt rfl) 5 sc_both.nd) (gs_cons (g_tup (n := 2) rfl rfl (gs_cons (g_name (hl := hlt rfl) 6 sc_both.nd) (gs_cons (g_name (hl := hlt rfl) 7 sc_both.nd) gs_nil)) gl2) gs_nil)) gl2)) (fun _ _ _ _ _ _ hr => (t_ifs (PW.pt (t_andC (t_cmp o_gt (e_var 6) e_int) (t_and1 (t_cmp o_gt (e_var 7) e_int)))))) (fun _ _ _ _ _ _ hr => (e_bin (o_add false rfl) (e_var 2) (e_var 5))))))))
end
end K01
end

/-! Ka14 -/
section
set_option Elab.async false
set_option linter.all false
set_option maxRecDepth 100000
set_option maxHeartbeats 4000000
namespace K01
open PySem PySem.Spec L2 Pk
section
variable {Γ : Pk.Γ} {P : Program} {w : World} {mg : Str → Option Value} {base : Heap}
theorem B_every (T : Fx Γ P w mg base) : Binds Γ.K T.d_every ["first", "each", "end"] [] := T.F_every.bindsN fun _ _ _ _ _ _ us hl => match us, hl with | [_, _, _], _ => rfl
theorem ok_every (T : Fx Γ P w mg base) : FnOk P w Γ.K mg base (L2.CX P w) 2 T.a_every T.d_every ["first", "each", "end"] (spM Γ 3 f_every) :=
  fnD_ok T.F_every sc_every rfl (fun cdv A outer s H E hr tk => (s_cons (s_expr (e_call (ok_week_day T) (hr.mono (by omega)) T.G_week_day T.F_week_day.kp (B_week_day T) .nil (fun _ => .nil) tk (a_cons (e_var 0) a_nil))) (s_cons (s_if (PW.pt (t_orC (t_cmp o_lt (e_var 1) e_int) (t_or1 (t_cmp o_gt (e_bin o_div (e_bin o_sub (e_bin (o_add false rfl) (e_bin o_sub (e_var 2) (e_var 0)) (e_var 1)) e_int) (e_var 1)) e_int)))) (s_one (s_raiseX rfl rfl tk T.x_DayError)) s_nil) (s_one (s_ret (e_tupR3 rfl (by rfl) T.z_tuple (by rfl) T.z_range (a_cons (e_var 0) (a_cons (e_var 2) (a_cons (e_var 1) a_nil)))))))))
end
end K01
end

/-! Ka15 -/
section
set_option Elab.async false
set_option linter.all false
set_option maxRecDepth 100000
set_option maxHeartbeats 4000000
namespace K01
open PySem PySem.Spec L2 Pk
section
variable {Γ : Pk.Γ} {P : Program} {w : World} {mg : Str → Option Value} {base : Heap}
theorem B_nth_in (T : Fx Γ P w mg base) : Binds Γ.K T.d_nth_in ["first", "week", "number"] [] := T.F_nth_in.bindsN fun _ _ _ _ _ _ us hl => match us, hl with | [_, _, _], _ => rfl
theorem ok_nth_in (T : Fx Γ P w mg base) : FnOk P w Γ.K mg base (L2.CX P w) 2 T.a_nth_in T.d_nth_in ["first", "week", "number"] (spM Γ 3 f_nth_in) :=
  fnD_ok T.F_nth_in sc_nth_in rfl (fun cdv A outer s H E hr tk => (s_cons (s_if (PW.pt (t_orC (t_not (t_chain o_le o_le e_int (e_var 1) e_int)) (t_or1 (t_cmp o_lt (e_var 2) e_int)))) (s_one (s_raiseX rfl rfl tk T.x_DayError)) s_nil) (s_one (s_ret (e_bin (o_add false rfl) (e_bin (o_add false rfl) (e_var 0) (e_bin o_mod (e_bin o_sub (e_var 1) (e_call (ok_week_day T) (hr.mono (by omega)) T.G_week_day T.F_week_day.kp (B_week_day T) .nil (fun _ => .nil) tk (a_cons (e_var 0) a_nil))) e_int)) (e_bin (o_mul false rfl) e_int (e_bin o_sub (e_var 2) e_int)))))))
end
end K01
end

/-! Ka16 -/
section
set_option Elab.async false
set_option linter.all false
set_option maxRecDepth 100000
set_option maxHeartbeats 4000000
namespace K01
open PySem PySem.Spec L2 Pk
section
variable {Γ : Pk.Γ} {P : Program} {w : World} {mg : Str → Option Value} {base : Heap}
theorem B_day_text (T : Fx Γ P w mg base) : Binds Γ.K T.d_day_text ["day"] [] := T.F_day_text.bindsN fun _ _ _ _ _ _ us hl => match us, hl with | [_], _ => rfl
theorem ok_day_text (T : Fx Γ P w mg base) : FnOk P w Γ.K mg base (L2.CX P w) 2 T.a_day_text T.d_day_text ["day"] (spM Γ 1 f_day_text) :=
  fnD_ok T.F_day_text sc_day_text rfl (fun cdv A outer s H E hr tk => (s_one (s_ret (e_bin (o_add false rfl) (e_joined (.cons e_str (.cons (e_fmt (e_bin (o_add false rfl) (e_bin o_div (e_var 0) e_int) e_int)) (.cons e_str .nil)))) (e_ix rfl (hu1 hr) (e_tup (a_cons e_str (a_cons e_str (a_cons e_str (a_cons e_str (a_cons e_str (a_cons e_str (a_cons e_str a_nil)))))))) (e_call (ok_week_day T) (hr.mono (by omega)) T.G_week_day T.F_week_day.kp (B_week_day T) .nil (fun _ => .nil) tk (a_cons (e_var 0) a_nil)))))))
end
end K01
end

/-! Ka17 -/
section
set_option Elab.async false
set_option linter.all false
set_option maxRecDepth 100000
set_option maxHeartbeats 4000000
namespace K01
open PySem PySem.Spec L2 Pk
section
variable {Γ : Pk.Γ} {P : Program} {w : World} {mg : Str → Option Value} {base : Heap}
theorem B_read_day (T : Fx Γ P w mg base) : Binds Γ.K T.d_read_day ["text"] [] := T.F_read_day.bindsN fun _ _ _ _ _ _ us hl => match us, hl with | [_], _ => rfl
theorem ok_read_day (T : Fx Γ P w mg base) : FnOk P w Γ.K mg base (L2.CX P w) 3 T.a_read_day T.d_read_day ["text"] (spM Γ 1 f_read_day) :=
  fnC_ok T.F_read_day T.g_read_day.code sc_read_day rfl (fun A outer s H E hr tk => (s_cons (s_set (hl := hlt rfl) 1 sc_read_day.nd (e_tx (a_cons e_str (a_cons e_str (a_cons e_str (a_cons e_str (a_cons e_str (a_cons e_str (a_cons e_str a_nil))))))))) (s_cons (s_asg (e_s1 ms_partition PySem.F.slot_str_partition PySem.F.type_str_partition (e_var 0) e_str) (g_tup (n := 3) rfl rfl (gs_cons (g_name (hl := hlt rfl) 4 sc_read_day.nd) (gs_cons (g_name (hl := hlt rfl) 5 sc_read_day.nd) (gs_cons (g_name (hl := hlt rfl) 6 sc_read_day.nd) gs_nil))) gl3)) (s_cons (s_set (hl := hlt rfl) 2 sc_read_day.nd (e_cut false rfl (e_var 4) (p_some e_int) p_no)) (s_cons (s_if (PW.pt (t_orC (t_not (t_val (e_s1 ms_startswith PySem.F.slot_str_startswith PySem.F.type_str_startswith (e_var 4) e_str))) (t_orC (t_cmp o_notInX (e_var 6) (e_var 1)) (t_or1 (t_not (t_chain o_le o_le e_int (e_callB (c_len rfl) (by rfl) T.z_len (by decide +kernel) (a_cons (e_var 2) a_nil)) e_int)))))) (s_one (s_raiseX rfl rfl tk T.x_DayError)) s_nil) (s_cons (s_if (PW.pt (t_orC (t_val (e_any (own := [("sign", 7)]) (T.g_read_day.has (k := 1) hr (by omega) rfl rfl rfl rfl) sc_read_day.nd T.z_any (genB_by (by kernel_rfl)) (i_txt (e_var 2)) (fun _ _ _ _ _ _ hr => (g_name (hl := hlt rfl) 7 sc_read_day.nd)) (fun _ _ _ _ _ _ hr => t_yes) (fun _ _ _ _ _ _ hr => (e_cmp (o_notIn rfl (hu1 hr)) (e_var 7) e_str)))) (t_or1 (t_cmp (o_eq rfl (hu64 hr)) (e_ix rfl (hu1 hr) (e_var 2) e_int) e_str)))) (s_one (s_raiseX rfl rfl tk T.x_DayError)) s_nil) (s_cons (s_set (hl := hlt rfl) 3 sc_read_day.nd (e_bin (o_add false rfl) (e_bin (o_mul false rfl) e_int (e_bin o_sub (e_callTy (c_int) (by rfl) T.z_int (by decide +kernel) (a_cons (e_var 2) a_nil)) e_int)) (e_txIx rfl (e_var 1) (e_var 6) ⟨rfl, rfl, rfl, rfl⟩))) (s_cons (s_expr (e_call (ok_week_day T) (hr.mono (by omega)) T.G_week_day T.F_week_day.kp (B_week_day T) .nil (fun _ => .nil) tk (a_cons (e_var 3) a_nil))) (s_one (s_ret (e_var 3)))))))))))
end
end K01
end

/-! Ka19 -/
section
set_option Elab.async false
set_option linter.all false
set_option maxRecDepth 100000
set_option maxHeartbeats 4000000
namespace K01
open PySem PySem.Spec L2 Pk
section
variable {Γ : Pk.Γ} {P : Program} {w : World} {mg : Str → Option Value} {base : Heap}
theorem B__law_roll (T : Fx Γ P w mg base) : Binds Γ.K T.d__law_roll ["dice", "many"] [] := T.F__law_roll.bindsN fun _ _ _ _ _ _ us hl => match us, hl with | [_, _], _ => rfl
theorem ok__law_roll (T : Fx Γ P w mg base) : ∀ r, FnOk P w Γ.K mg base (L2.CX P w) (1 + r) T.a__law_roll T.d__law_roll ["dice", "many"] (spM Γ 2 (n__law_roll r))
  | 0 => fnZ (fun _ _ => rfl) rfl
  | r + 1 => by
    have ih := ok__law_roll T r
    exact fnD_ok T.F__law_roll sc__law_roll rfl (fun cdv A outer s H E hr tk => (s_cons (s_if (PW.pt (t_orC (t_cmp (o_eq rfl (hu64 hr)) (e_ix rfl (hu1 hr) (e_var 0) e_int) e_int) (t_or1 (PW.pt (t_andC (t_cmp (o_eq rfl (hu64 hr)) (e_ix rfl (hu1 hr) (e_var 0) e_int) e_int) (t_and1 (t_cmp o_gt (e_ix rfl (hu1 hr) (e_var 0) e_int) e_int))))))) (s_cons (s_set (hl := hlt rfl) 2 sc__law_roll.nd (e_bin o_mod (e_callTy (c_int) (by rfl) T.z_int (by decide +kernel) (a_cons (e_ix rfl (hu1 hr) (e_var 0) e_int) a_nil)) (e_var 1))) (s_cons (s_sub (hu1 hr) (e_bin o_div (e_ix rfl (hu1 hr) (e_var 0) e_int) (e_var 1)) (e_var 0) e_int) (s_one (s_ret (e_var 2))))) s_nil) (s_cons (s_sub (hu1 hr) e_int (e_var 0) e_int) (s_cons (s_if (t_cmp o_gt (e_var 1) e_int) (s_one (s_ret (e_bin o_mod (e_callTy (c_int) (by rfl) T.z_int (by decide +kernel) (a_cons (e_bin (o_add false rfl) (e_bin (o_mul false rfl) (e_call ih hr T.G__law_roll T.F__law_roll.kp (B__law_roll T) .nil (fun _ => .nil) tk (a_cons (e_var 0) (a_cons (e_bin (o_add false rfl) (e_bin o_div (e_var 1) e_int) e_int) a_nil))) e_int) (e_call ih hr T.G__law_roll T.F__law_roll.kp (B__law_roll T) .nil (fun _ => .nil) tk (a_cons (e_var 0) (a_cons e_int a_nil)))) a_nil)) (e_var 1)))) s_nil) (s_cons (s_sub (hu1 hr) (e_bin o_mod (e_callTy (c_int) (by rfl) T.z_int (by decide +kernel) (a_cons (e_bin (o_add false rfl) (e_bin (o_add false rfl) (e_bin (o_mul false rfl) (e_ix rfl (hu1 hr) (e_var 0) e_int) e_int) (e_bin (o_mul false rfl) (e_ix rfl (hu1 hr) (e_var 0) e_int) e_int)) e_int) a_nil)) e_int) (e_var 0) e_int) (s_cons (s_sub (hu1 hr) (e_bin (o_add false rfl) (e_ix rfl (hu1 hr) (e_var 0) e_int) e_int) (e_var 0) e_int) (s_one (s_ret (e_bin o_mod (e_callTy (c_int) (by rfl) T.z_int (by decide +kernel) (a_cons (e_bin o_div (e_ix rfl (hu1 hr) (e_var 0) e_int) e_int) a_nil)) (e_var 1))))))))))
end
end K01
end

/-! Ka18 -/
section
set_option Elab.async false
set_option linter.all false
set_option maxRecDepth 100000
set_option maxHeartbeats 4000000
namespace K01
open PySem PySem.Spec L2 Pk
section
variable {Γ : Pk.Γ} {P : Program} {w : World} {mg : Str → Option Value} {base : Heap}
theorem B__law_dice (T : Fx Γ P w mg base) : Binds Γ.K T.d__law_dice ["cell"] [] := T.F__law_dice.bindsN fun _ _ _ _ _ _ us hl => match us, hl with | [_], _ => rfl
theorem ok__law_dice (T : Fx Γ P w mg base) : FnOk P w Γ.K mg base (L2.CX P w) 1 T.a__law_dice T.d__law_dice ["cell"] (spM Γ 1 f__law_dice) :=
  fnD_ok T.F__law_dice sc__law_dice rfl (fun cdv A outer s H E hr tk => (s_cons (s_if (t_chain o_lt o_lt (e_bin o_sub e_int e_int) (e_var 0) e_int) (s_one (s_ret (e_lst true (a_cons (e_callB (c_abs) (by rfl) T.z_abs (by decide +kernel) (a_cons (e_var 0) a_nil)) (a_cons e_int (a_cons e_int a_nil)))))) s_nil) (s_one (s_ret (e_lst true (a_cons (e_var 0) (a_cons (e_bin (o_add false rfl) e_int (e_bin o_mod (e_callTy (c_int) (by rfl) T.z_int (by decide +kernel) (a_cons (e_var 0) a_nil)) e_int)) (a_cons (e_callTy (c_int) (by rfl) T.z_int (by decide +kernel) (a_cons (e_cmp o_ge (e_var 0) (e_bin o_pow e_int e_int)) a_nil)) a_nil))))))))
end
end K01
end

/-! Ka20 -/
section
set_option Elab.async false
set_option linter.all false
set_option maxRecDepth 100000
set_option maxHeartbeats 4000000
namespace K01
open PySem PySem.Spec L2 Pk
section
variable {Γ : Pk.Γ} {P : Program} {w : World} {mg : Str → Option Value} {base : Heap}
theorem B__law_rounds (T : Fx Γ P w mg base) : Binds Γ.K T.d__law_rounds ["script", "most"] [] := T.F__law_rounds.bindsN fun _ _ _ _ _ _ us hl => match us, hl with | [_, _], _ => rfl
theorem ok__law_rounds (T : Fx Γ P w mg base) : FnOk P w Γ.K mg base (L2.CX P w) 2 T.a__law_rounds T.d__law_rounds ["script", "most"] (spM Γ 2 f__law_rounds) :=
  fnD_ok T.F__law_rounds sc__law_rounds rfl (fun cdv A outer s H E hr tk => (s_cons (s_set (hl := hlt rfl) 2 sc__law_rounds.nd (e_cut false rfl (e_var 0) p_no (p_some (e_var 1)))) (s_cons (s_if (t_cmp (o_eq rfl (hu64 hr)) (e_var 2) (e_lst false a_nil)) (s_one (s_set (hl := hlt rfl) 2 sc__law_rounds.nd (e_lst false (a_cons e_int a_nil)))) s_nil) (s_one (s_ret (e_lc (own := [("cell", 3)]) false rfl sc__law_rounds.nd (i_seq rfl (e_var 2)) (blkOk_by (by kernel_rfl)) (fun _ _ _ _ _ => (g_name (hl := hlt rfl) 3 sc__law_rounds.nd)) (fun _ _ _ _ _ => t_yes) (fun _ _ _ _ _ => (e_call (ok__law_dice T) (hr.mono (by omega)) T.G__law_dice T.F__law_dice.kp (B__law_dice T) .nil (fun _ => .nil) LamX.takes0 (a_cons (e_var 3) a_nil)))))))))
end
end K01
end

/-! Ka21 -/
section
set_option Elab.async false
set_option linter.all false
set_option maxRecDepth 100000
set_option maxHeartbeats 4000000
namespace K01
open PySem PySem.Spec L2 Pk
section
variable {Γ : Pk.Γ} {P : Program} {w : World} {mg : Str → Option Value} {base : Heap}
theorem B__law_hours (T : Fx Γ P w mg base) : Binds Γ.K T.d__law_hours ["own", "day"] [] := T.F__law_hours.bindsN fun _ _ _ _ _ _ us hl => match us, hl with | [_, _], _ => rfl
theorem ok__law_hours (T : Fx Γ P w mg base) : FnOk P w Γ.K mg base (L2.CX P w) 1 T.a__law_hours T.d__law_hours ["own", "day"] (spM Γ 2 f__law_hours) :=
  fnD_ok T.F__law_hours sc__law_hours rfl (fun cdv A outer s H E hr tk => (s_one (s_ret (e_get2 (hu1 hr) (e_ix rfl (hu1 hr) (e_var 0) e_str) (e_var 1) (e_ix rfl (hu1 hr) (e_ix rfl (hu1 hr) (e_var 0) e_str) (e_bin o_sub (e_var 1) (e_bin (o_mul false rfl) (e_bin o_div (e_var 1) e_int) e_int))) ⟨rfl, rfl, rfl, rfl⟩))))
end
end K01
end

/-! Ka22 -/
section
set_option Elab.async false
set_option linter.all false
set_option maxRecDepth 100000
set_option maxHeartbeats 4000000
namespace K01
open PySem PySem.Spec L2 Pk
section
variable {Γ : Pk.Γ} {P : Program} {w : World} {mg : Str → Option Value} {base : Heap}
theorem B__law_worked (T : Fx Γ P w mg base) : Binds Γ.K T.d__law_worked ["own", "first", "many"] [] := T.F__law_worked.bindsN fun _ _ _ _ _ _ us hl => match us, hl with | [_, _, _], _ => rfl
theorem ok__law_worked (T : Fx Γ P w mg base) : FnOk P w Γ.K mg base (L2.CX P w) 2 T.a__law_worked T.d__law_worked ["own", "first", "many"] (spM Γ 3 f__law_worked) :=
  fnD_ok T.F__law_worked sc__law_worked rfl (fun cdv A outer s H E hr tk => (s_cons (s_par (hl := hlt2 rfl rfl) 3 4 rfl sc__law_worked.nd (a_cons (e_lst false a_nil) (a_cons (e_var 1) a_nil))) (s_cons (s_while (passes_of rfl) (t_cmp o_lt (e_callB (c_len rfl) (by rfl) T.z_len (by decide +kernel) (a_cons (e_var 3) a_nil)) (e_var 2)) (s_one (s_par (hl := hlt2 rfl rfl) 3 4 rfl sc__law_worked.nd (a_cons (e_bin (o_add false rfl) (e_var 3) (e_bin (o_mul false rfl) (e_lst false (a_cons (e_var 4) a_nil)) (e_callTy (c_int) (by rfl) T.z_int (by decide +kernel) (a_cons (e_cmp o_gt (e_call (ok__law_hours T) (hr.mono (by omega)) T.G__law_hours T.F__law_hours.kp (B__law_hours T) .nil (fun _ => .nil) tk (a_cons (e_var 0) (a_cons (e_var 4) a_nil))) e_int) a_nil)))) (a_cons (e_bin (o_add false rfl) (e_var 4) e_int) a_nil))))) (s_one (s_ret (e_var 3))))))
end
end K01
end

/-! Ka23 -/
section
set_option Elab.async false
set_option linter.all false
set_option maxRecDepth 100000
set_option maxHeartbeats 4000000
namespace K01
open PySem PySem.Spec L2 Pk
section
variable {Γ : Pk.Γ} {P : Program} {w : World} {mg : Str → Option Value} {base : Heap}
theorem B__law_done (T : Fx Γ P w mg base) : Binds Γ.K T.d__law_done ["own", "day", "hours"] [] := T.F__law_done.bindsN fun _ _ _ _ _ _ us hl => match us, hl with | [_, _, _], _ => rfl
theorem ok__law_done (T : Fx Γ P w mg base) : FnOk P w Γ.K mg base (L2.CX P w) 3 T.a__law_done T.d__law_done ["own", "day", "hours"] (spM Γ 3 f__law_done) :=
  fnD_ok T.F__law_done sc__law_done rfl (fun cdv A outer s H E hr tk => (s_cons (s_for (passes_of rfl) rfl (i_seq rfl (e_call (ok__law_worked T) (hr.mono (by omega)) T.G__law_worked T.F__law_worked.kp (B__law_worked T) .nil (fun _ => .nil) tk (a_cons (e_var 0) (a_cons (e_var 1) (a_cons e_int a_nil))))) (g_name (hl := hlt rfl) 3 sc__law_done.nd) (s_cons (s_if (t_cmp o_le (e_var 2) (e_call (ok__law_hours T) (hr.mono (by omega)) T.G__law_hours T.F__law_hours.kp (B__law_hours T) .nil (fun _ => .nil) tk (a_cons (e_var 0) (a_cons (e_var 3) a_nil)))) (s_one (s_ret (e_tup (a_cons (e_var 3) (a_cons (e_bin o_sub (e_call (ok__law_hours T) (hr.mono (by omega)) T.G__law_hours T.F__law_hours.kp (B__law_hours T) .nil (fun _ => .nil) tk (a_cons (e_var 0) (a_cons (e_var 3) a_nil))) (e_var 2)) a_nil))))) s_nil) (s_one (s_set (hl := hlt rfl) 2 sc__law_done.nd (e_bin o_sub (e_var 2) (e_call (ok__law_hours T) (hr.mono (by omega)) T.G__law_hours T.F__law_hours.kp (B__law_hours T) .nil (fun _ => .nil) tk (a_cons (e_var 0) (a_cons (e_var 3) a_nil)))))))) (s_one (s_ret e_non))))
end
end K01
end

/-! Ka24 -/
section
set_option Elab.async false
set_option linter.all false
set_option maxRecDepth 100000
set_option maxHeartbeats 4000000
namespace K01
open PySem PySem.Spec L2 Pk
section
variable {Γ : Pk.Γ} {P : Program} {w : World} {mg : Str → Option Value} {base : Heap}
theorem B__law_plain (T : Fx Γ P w mg base) : Binds Γ.K T.d__law_plain [] [] := T.F__law_plain.bindsN fun _ _ _ _ _ _ us hl => match us, hl with | [], _ => rfl
theorem ok__law_plain (T : Fx Γ P w mg base) : FnOk P w Γ.K mg base (L2.CX P w) 9 T.a__law_plain T.d__law_plain [] (spM Γ 0 f__law_plain) :=
  fnC_ok T.F__law_plain T.t__law_plain.code sc__law_plain rfl (fun A outer s H E hr tk => (s_cons (s_set (hl := hlt rfl) 0 sc__law_plain.nd (e_make0 T.M_Calendar (ok_Calendar___init__ T) (hr.mono (by omega)) T.G_Calendar (T.D_Calendar___init__).b (T.D_Calendar___init__).v (T.D_Calendar___init__).r tk)) (s_cons (s_expr (e_meth (ok_Calendar_set_day T) (hr.mono (by omega)) rfl T.C_Calendar T.m_Calendar_set_day (B_Calendar_set_day T) .nil (fun _ => .nil) tk (e_var 0) (a_cons e_int (a_cons e_int a_nil)))) (s_cons (s_expr (e_meth (ok_Calendar_set_day T) (hr.mono (by omega)) rfl T.C_Calendar T.m_Calendar_set_day (B_Calendar_set_day T) .nil (fun _ => .nil) tk (e_var 0) (a_cons e_int (a_cons e_int a_nil)))) (s_bad (c := T.c__law_plain) (P := T.p__law_plain) (k := 0) (hl := hlt rfl) sc__law_plain.nd (a_lam (T.t__law_plain.has (k := 7) hr (by omega) rfl rfl rfl rfl) (LamX.lamS_by (by kernel_rfl)) rfl (a_lam (T.t__law_plain.has (k := 7) hr (by omega) rfl rfl rfl rfl) (LamX.lamS_by (by kernel_rfl)) rfl (a_lam (T.t__law_plain.has (k := 7) hr (by omega) rfl rfl rfl rfl) (LamX.lamS_by (by kernel_rfl)) rfl (a_lam (T.t__law_plain.has (k := 7) hr (by omega) rfl rfl rfl rfl) (LamX.lamS_by (by kernel_rfl)) rfl (a_lam (T.t__law_plain.has (k := 7) hr (by omega) rfl rfl rfl rfl) (LamX.lamS_by (by kernel_rfl)) rfl (a_lam (T.t__law_plain.has (k := 7) hr (by omega) rfl rfl rfl rfl) (LamX.lamS_by (by kernel_rfl)) rfl (a_lam (T.t__law_plain.has (k := 7) hr (by omega) rfl rfl rfl rfl) (LamX.lamS_by (by kernel_rfl)) rfl (a_lam (T.t__law_plain.has (k := 7) hr (by omega) rfl rfl rfl rfl) (LamX.lamS_by (by kernel_rfl)) rfl (a_lam (T.t__law_plain.has (k := 7) hr (by omega) rfl rfl rfl rfl) (LamX.lamS_by (by kernel_rfl)) rfl (a_lam (T.t__law_plain.has (k := 7) hr (by omega) rfl rfl rfl rfl) (LamX.lamS_by (by kernel_rfl)) rfl (a_lam (T.t__law_plain.has (k := 7) hr (by omega) rfl rfl rfl rfl) (LamX.lamS_by (by kernel_rfl)) rfl (a_lam (T.t__law_plain.has (k := 7) hr (by omega) rfl rfl rfl rfl) (LamX.lamS_by (by kernel_rfl)) rfl (a_lam (T.t__law_plain.has (k := 7) hr (by omega) rfl rfl rfl rfl) (LamX.lamS_by (by kernel_rfl)) rfl (a_lam (T.t__law_plain.has (k := 7) hr (by omega) rfl rfl rfl rfl) (LamX.lamS_by (by kernel_rfl)) rfl (a_lam (T.t__law_plain.has (k := 7) hr (by omega) rfl rfl rfl rfl) (LamX.lamS_by (by kernel_rfl)) rfl (a_lam (T.t__law_plain.has (k := 7) hr (by omega) rfl rfl rfl rfl) (LamX.lamS_by (by kernel_rfl)) rfl (a_lam (T.t__law_plain.has (k := 7) hr (by omega) rfl rfl rfl rfl) (LamX.lamS_by (by kernel_rfl)) rfl (a_lam (T.t__law_plain.has (k := 7) hr (by omega) rfl rfl rfl rfl) (LamX.lamS_by (by kernel_rfl)) rfl (a_lam (T.t__law_plain.has (k := 7) hr (by omega) rfl rfl rfl rfl) (LamX.lamS_by (by kernel_rfl)) rfl (a_lam (T.t__law_plain.has (k := 7) hr (by omega) rfl rfl rfl rfl) (LamX.lamS_by (by kernel_rfl)) rfl (a_lam (T.t__law_plain.has (k := 7) hr (by omega) rfl rfl rfl rfl) (LamX.lamS_by (by kernel_rfl)) rfl (a_lam (T.t__law_plain.has (k := 7) hr (by omega) rfl rfl rfl rfl) (LamX.lamS_by (by kernel_rfl)) rfl (a_lam (T.t__law_plain.has (k := 7) hr (by omega) rfl rfl rfl rfl) (LamX.lamS_by (by kernel_rfl)) rfl (a_lam (T.t__law_plain.has (k := 7) hr (by omega) rfl rfl rfl rfl) (LamX.lamS_by (by kernel_rfl)) rfl (a_lam (T.t__law_plain.has (k := 7) hr (by omega) rfl rfl rfl rfl) (LamX.lamS_by (by kernel_rfl)) rfl (a_lam (T.t__law_plain.has (k := 7) hr (by omega) rfl rfl rfl rfl) (LamX.lamS_by (by kernel_rfl)) rfl (a_lam (T.t__law_plain.has (k := 7) hr (by omega) rfl rfl rfl rfl) (LamX.lamS_by (by kernel_rfl)) rfl (a_lam (T.t__law_plain.has (k := 7) hr (by omega) rfl rfl rfl rfl) (LamX.lamS_by (by kernel_rfl)) rfl (a_lam (T.t__law_plain.has (k := 7) hr (by omega) rfl rfl rfl rfl) (LamX.lamS_by (by kernel_rfl)) rfl (a_lam (T.t__law_plain.has (k := 7) hr (by omega) rfl rfl rfl rfl) (LamX.lamS_by (by kernel_rfl)) rfl (a_lam (T.t__law_plain.has (k := 7) hr (by omega) rfl rfl rfl rfl) (LamX.lamS_by (by kernel_rfl)) rfl (a_lam (T.t__law_plain.has (k := 7) hr (by omega) rfl rfl rfl rfl) (LamX.lamS_by (by kernel_rfl)) rfl (a_lam (T.t__law_plain.has (k := 7) hr (by omega) rfl rfl rfl rfl) (LamX.lamS_by (by kernel_rfl)) rfl (a_lam (T.t__law_plain.has (k := 7) hr (by omega) rfl rfl rfl rfl) (LamX.lamS_by (by kernel_rfl)) rfl (a_lam (T.t__law_plain.has (k := 7) hr (by omega) rfl rfl rfl rfl) (LamX.lamS_by (by kernel_rfl)) rfl a_lam0))))))))))))))))))))))))))))))))))) (by decide) (x_cons (x_if (PW.pt (x_or (x_tcmp (o_ne rfl (hu64 hr)) (x_bads (k := 6) (iv := 2) (own := [("f", 2)]) false T.told T.tx (hr.mono (by omega)) rfl sc__law_plain.nd (blkOk_by (by kernel_rfl)) (lam_cons (LamX.lamS_by (by kernel_rfl)) (fun _ _ _ _ _ _ _ hr tk => (e_call (ok_week_day T) (hr.mono (by omega)) T.G_week_day T.F_week_day.kp (B_week_day T) .nil (fun _ => .nil) tk (a_cons (e_un u_neg e_int) a_nil))) (lam_cons (LamX.lamS_by (by kernel_rfl)) (fun _ _ _ _ _ _ _ hr tk => (e_call (ok_week_day T) (hr.mono (by omega)) T.G_week_day T.F_week_day.kp (B_week_day T) .nil (fun _ => .nil) tk (a_cons e_int a_nil))) (lam_cons (LamX.lamS_by (by kernel_rfl)) (fun _ _ _ _ _ _ _ hr tk => (e_make T.M_Calendar (ok_Calendar___init__ T) (hr.mono (by omega)) T.G_Calendar T.Z_Calendar___init__ .nil (fun _ => .nil) tk (a_cons (e_bin (o_mul false rfl) (e_tup (a_cons e_int a_nil)) e_int) a_nil))) (lam_cons (LamX.lamS_by (by kernel_rfl)) (fun _ _ _ _ _ _ _ hr tk => (e_make T.M_Calendar (ok_Calendar___init__ T) (hr.mono (by omega)) T.G_Calendar T.Z_Calendar___init__ .nil (fun _ => .nil) tk (a_cons (e_tup (a_cons e_int (a_cons e_int (a_cons e_int (a_cons e_int (a_cons e_int (a_cons e_int (a_cons e_int a_nil)))))))) a_nil))) (lam_cons (LamX.lamS_by (by kernel_rfl)) (fun _ _ _ _ _ _ _ hr tk => (e_make T.M_Calendar (ok_Calendar___init__ T) (hr.mono (by omega)) T.G_Calendar T.Z_Calendar___init__ .nil (fun _ => .nil) tk (a_cons (e_tup (a_cons (e_un u_neg e_int) (a_cons e_int (a_cons e_int (a_cons e_int (a_cons e_int (a_cons e_int (a_cons e_int a_nil)))))))) a_nil))) (lam_cons (LamX.lamS_by (by kernel_rfl)) (fun _ _ _ _ _ _ _ hr tk => (e_make T.M_Calendar (ok_Calendar___init__ T) (hr.mono (by omega)) T.G_Calendar T.Z_Calendar___init__ .nil (fun _ => .nil) tk (a_cons (e_bin (o_mul false rfl) (e_tup (a_cons e_int a_nil)) e_int) a_nil))) (lam_cons (LamX.lamS_by (by kernel_rfl)) (fun _ _ _ _ _ _ _ hr tk => (e_meth (ok_Calendar_set_day T) (hr.mono (by omega)) rfl T.C_Calendar T.m_Calendar_set_day (B_Calendar_set_day T) .nil (fun _ => .nil) tk (e_var 0) (a_cons (e_un u_neg e_int) (a_cons e_int a_nil)))) (lam_cons (LamX.lamS_by (by kernel_rfl)) (fun _ _ _ _ _ _ _ hr tk => (e_meth (ok_Calendar_set_day T) (hr.mono (by omega)) rfl T.C_Calendar T.m_Calendar_set_day (B_Calendar_set_day T) .nil (fun _ => .nil) tk (e_var 0) (a_cons e_int (a_cons e_int a_nil)))) (lam_cons (LamX.lamS_by (by kernel_rfl)) (fun _ _ _ _ _ _ _ hr tk => (e_meth (ok_Calendar_set_day T) (hr.mono (by omega)) rfl T.C_Calendar T.m_Calendar_set_day (B_Calendar_set_day T) .nil (fun _ => .nil) tk (e_var 0) (a_cons e_int (a_cons (e_un u_neg e_int) a_nil)))) (lam_cons (LamX.lamS_by (by kernel_rfl)) (fun _ _ _ _ _ _ _ hr tk => (e_meth (ok_Calendar_clear_day T) (hr.mono (by omega)) rfl T.C_Calendar T.m_Calendar_clear_day (B_Calendar_clear_day T) .nil (fun _ => .nil) tk (e_var 0) (a_cons e_int a_nil))) (lam_cons (LamX.lamS_by (by kernel_rfl)) (fun _ _ _ _ _ _ _ hr tk => (e_meth (ok_Calendar_on T) (hr.mono (by omega)) rfl T.C_Calendar T.m_Calendar_on (B_Calendar_on T) .nil (fun _ => .nil) tk (e_var 0) (a_cons (e_un u_neg e_int) a_nil))) (lam_cons (LamX.lamS_by (by kernel_rfl)) (fun _ _ _ _ _ _ _ hr tk => (e_meth (ok_Calendar_next_worked T) (hr.mono (by omega)) rfl T.C_Calendar T.m_Calendar_next_worked (B_Calendar_next_worked T) .nil (fun _ => .nil) tk (e_var 0) (a_cons e_int a_nil))) (lam_cons (LamX.lamS_by (by kernel_rfl)) (fun _ _ _ _ _ _ _ hr tk => (e_meth (ok_Calendar_worked_ahead T) (hr.mono (by omega)) rfl T.C_Calendar T.m_Calendar_worked_ahead (B_Calendar_worked_ahead T) .nil (fun _ => .nil) tk (e_var 0) (a_cons (e_un u_neg e_int) a_nil))) (lam_cons (LamX.lamS_by (by kernel_rfl)) (fun _ _ _ _ _ _ _ hr tk => (e_meth (ok_Calendar_after T) (hr.mono (by omega)) rfl T.C_Calendar T.m_Calendar_after (B_Calendar_after T) .nil (fun _ => .nil) tk (e_var 0) (a_cons e_int (a_cons (e_un u_neg e_int) a_nil)))) (lam_cons (LamX.lamS_by (by kernel_rfl)) (fun _ _ _ _ _ _ _ hr tk => (e_meth (ok_Calendar_after T) (hr.mono (by omega)) rfl T.C_Calendar T.m_Calendar_after (B_Calendar_after T) .nil (fun _ => .nil) tk (e_var 0) (a_cons e_int (a_cons e_int a_nil)))) (lam_cons (LamX.lamS_by (by kernel_rfl)) (fun _ _ _ _ _ _ _ hr tk => (e_meth (ok_Calendar_between T) (hr.mono (by omega)) rfl T.C_Calendar T.m_Calendar_between (B_Calendar_between T) .nil (fun _ => .nil) tk (e_var 0) (a_cons e_int (a_cons e_int a_nil)))) (lam_cons (LamX.lamS_by (by kernel_rfl)) (fun _ _ _ _ _ _ _ hr tk => (e_meth (ok_Calendar_between T) (hr.mono (by omega)) rfl T.C_Calendar T.m_Calendar_between (B_Calendar_between T) .nil (fun _ => .nil) tk (e_var 0) (a_cons (e_un u_neg e_int) (a_cons e_int a_nil)))) (lam_cons (LamX.lamS_by (by kernel_rfl)) (fun _ _ _ _ _ _ _ hr tk => (e_meth (ok_Calendar_hours_between T) (hr.mono (by omega)) rfl T.C_Calendar T.m_Calendar_hours_between (B_Calendar_hours_between T) .nil (fun _ => .nil) tk (e_var 0) (a_cons e_int (a_cons e_int a_nil)))) (lam_cons (LamX.lamS_by (by kernel_rfl)) (fun _ _ _ _ _ _ _ hr tk => (e_meth (ok_Calendar_done_on T) (hr.mono (by omega)) rfl T.C_Calendar T.m_Calendar_done_on (B_Calendar_done_on T) .nil (fun _ => .nil) tk (e_var 0) (a_cons e_int (a_cons (e_un u_neg e_int) a_nil)))) (lam_cons (LamX.lamS_by (by kernel_rfl)) (fun _ _ _ _ _ _ _ hr tk => (e_meth (ok_Calendar_row T) (hr.mono (by omega)) rfl T.C_Calendar T.m_Calendar_row (B_Calendar_row T) .nil (fun _ => .nil) tk (e_var 0) (a_cons e_int (a_cons (e_un u_neg e_int) a_nil)))) (lam_cons (LamX.lamS_by (by kernel_rfl)) (fun _ _ _ _ _ _ _ hr tk => (e_call (ok_every T) (hr.mono (by omega)) T.G_every T.F_every.kp (B_every T) .nil (fun _ => .nil) tk (a_cons e_int (a_cons e_int (a_cons e_int a_nil))))) (lam_cons (LamX.lamS_by (by kernel_rfl)) (fun _ _ _ _ _ _ _ hr tk => (e_call (ok_every T) (hr.mono (by omega)) T.G_every T.F_every.kp (B_every T) .nil (fun _ => .nil) tk (a_cons e_int (a_cons e_int (a_cons e_int a_nil))))) (lam_cons (LamX.lamS_by (by kernel_rfl)) (fun _ _ _ _ _ _ _ hr tk => (e_call (ok_every T) (hr.mono (by omega)) T.G_every T.F_every.kp (B_every T) .nil (fun _ => .nil) tk (a_cons (e_un u_neg e_int) (a_cons e_int (a_cons e_int a_nil))))) (lam_cons (LamX.lamS_by (by kernel_rfl)) (fun _ _ _ _ _ _ _ hr tk => (e_call (ok_nth_in T) (hr.mono (by omega)) T.G_nth_in T.F_nth_in.kp (B_nth_in T) .nil (fun _ => .nil) tk (a_cons e_int (a_cons e_int (a_cons e_int a_nil))))) (lam_cons (LamX.lamS_by (by kernel_rfl)) (fun _ _ _ _ _ _ _ hr tk => (e_call (ok_nth_in T) (hr.mono (by omega)) T.G_nth_in T.F_nth_in.kp (B_nth_in T) .nil (fun _ => .nil) tk (a_cons e_int (a_cons (e_un u_neg e_int) (a_cons e_int a_nil))))) (lam_cons (LamX.lamS_by (by kernel_rfl)) (fun _ _ _ _ _ _ _ hr tk => (e_call (ok_nth_in T) (hr.mono (by omega)) T.G_nth_in T.F_nth_in.kp (B_nth_in T) .nil (fun _ => .nil) tk (a_cons e_int (a_cons e_int (a_cons e_int a_nil))))) (lam_cons (LamX.lamS_by (by kernel_rfl)) (fun _ _ _ _ _ _ _ hr tk => (e_call (ok_day_text T) (hr.mono (by omega)) T.G_day_text T.F_day_text.kp (B_day_text T) .nil (fun _ => .nil) tk (a_cons (e_un u_neg e_int) a_nil))) (lam_cons (LamX.lamS_by (by kernel_rfl)) (fun _ _ _ _ _ _ _ hr tk => (e_call (ok_read_day T) (hr.mono (by omega)) T.G_read_day T.F_read_day.kp (B_read_day T) .nil (fun _ => .nil) tk (a_cons e_str a_nil))) (lam_cons (LamX.lamS_by (by kernel_rfl)) (fun _ _ _ _ _ _ _ hr tk => (e_call (ok_read_day T) (hr.mono (by omega)) T.G_read_day T.F_read_day.kp (B_read_day T) .nil (fun _ => .nil) tk (a_cons e_str a_nil))) (lam_cons (LamX.lamS_by (by kernel_rfl)) (fun _ _ _ _ _ _ _ hr tk => (e_call (ok_read_day T) (hr.mono (by omega)) T.G_read_day T.F_read_day.kp (B_read_day T) .nil (fun _ => .nil) tk (a_cons e_str a_nil))) (lam_cons (LamX.lamS_by (by kernel_rfl)) (fun _ _ _ _ _ _ _ hr tk => (e_call (ok_read_day T) (hr.mono (by omega)) T.G_read_day T.F_read_day.kp (B_read_day T) .nil (fun _ => .nil) tk (a_cons e_str a_nil))) (lam_cons (LamX.lamS_by (by kernel_rfl)) (fun _ _ _ _ _ _ _ hr tk => (e_call (ok_read_day T) (hr.mono (by omega)) T.G_read_day T.F_read_day.kp (B_read_day T) .nil (fun _ => .nil) tk (a_cons e_str a_nil))) (lam_cons (LamX.lamS_by (by kernel_rfl)) (fun _ _ _ _ _ _ _ hr tk => (e_call (ok_read_day T) (hr.mono (by omega)) T.G_read_day T.F_read_day.kp (B_read_day T) .nil (fun _ => .nil) tk (a_cons e_str a_nil))) (lam_cons (LamX.lamS_by (by kernel_rfl)) (fun _ _ _ _ _ _ _ hr tk => (e_call (ok_read_day T) (hr.mono (by omega)) T.G_read_day T.F_read_day.kp (B_read_day T) .nil (fun _ => .nil) tk (a_cons e_str a_nil))) (lam_cons (LamX.lamS_by (by kernel_rfl)) (fun _ _ _ _ _ _ _ hr tk => (e_call (ok_read_day T) (hr.mono (by omega)) T.G_read_day T.F_read_day.kp (B_read_day T) .nil (fun _ => .nil) tk (a_cons e_str a_nil))) lam_nil)))))))))))))))))))))))))))))))))))) (e_lst false a_nil)) (t_orC (t_cmp (o_ne rfl (hu64 hr)) (e_gint T.i_LAST) e_int) (t_or1 (t_cmp (o_ne rfl (hu64 hr)) (e_meth (ok_Calendar_next_worked T) (hr.mono (by omega)) rfl T.C_Calendar T.m_Calendar_next_worked (B_Calendar_next_worked T) .nil (fun _ => .nil) tk (e_var 0) (a_cons e_int a_nil)) e_int))))) (s_one (s_ret e_bl)) s_nil) (s_cons (s_if (PW.pt (t_orC (t_cmp (o_ne rfl (hu64 hr)) (e_meth (ok_Calendar_worked_ahead T) (hr.mono (by omega)) rfl T.C_Calendar T.m_Calendar_worked_ahead (B_Calendar_worked_ahead T) .nil (fun _ => .nil) tk (e_var 0) (a_cons e_int a_nil)) e_int) (t_orC (t_cmp (o_ne rfl (hu64 hr)) (e_meth (ok_Calendar_after T) (hr.mono (by omega)) rfl T.C_Calendar T.m_Calendar_after (B_Calendar_after T) .nil (fun _ => .nil) tk (e_var 0) (a_cons e_int (a_cons e_int a_nil))) e_int) (t_or1 (t_cmp (o_ne rfl (hu64 hr)) (e_meth (ok_Calendar_between T) (hr.mono (by omega)) rfl T.C_Calendar T.m_Calendar_between (B_Calendar_between T) .nil (fun _ => .nil) tk (e_var 0) (a_cons e_int (a_cons e_int a_nil))) e_int))))) (s_one (s_ret e_bl)) s_nil) (s_cons (s_if (t_cmp (o_ne rfl (hu64 hr)) (e_meth (ok_Calendar_hours_between T) (hr.mono (by omega)) rfl T.C_Calendar T.m_Calendar_hours_between (B_Calendar_hours_between T) .nil (fun _ => .nil) tk (e_var 0) (a_cons e_int (a_cons e_int a_nil))) e_int) (s_one (s_ret e_bl)) s_nil) (s_cons (s_if (t_not (PW.pt (t_andC (t_cmp (o_eq rfl (hu64 hr)) (e_meth (ok_Calendar_done_on T) (hr.mono (by omega)) rfl T.C_Calendar T.m_Calendar_done_on (B_Calendar_done_on T) .nil (fun _ => .nil) tk (e_var 0) (a_cons e_int (a_cons e_int a_nil))) (e_tup (a_cons e_int (a_cons e_int a_nil)))) (t_and1 (t_cmp (o_eq rfl (hu64 hr)) (e_meth (ok_Calendar_done_on T) (hr.mono (by omega)) rfl T.C_Calendar T.m_Calendar_done_on (B_Calendar_done_on T) .nil (fun _ => .nil) tk (e_var 0) (a_cons e_int (a_cons e_int a_nil))) (e_tup (a_cons e_int (a_cons e_int a_nil)))))))) (s_one (s_ret e_bl)) s_nil) (s_cons (s_if (t_not (PW.pt (t_andC (t_cmp (o_eq rfl (hu64 hr)) (e_meth (ok_Calendar_row T) (hr.mono (by omega)) rfl T.C_Calendar T.m_Calendar_row (B_Calendar_row T) .nil (fun _ => .nil) tk (e_var 0) (a_cons e_int (a_cons e_int a_nil))) (e_tup (a_cons e_int (a_cons e_int (a_cons e_int (a_cons e_int (a_cons e_int (a_cons e_int (a_cons e_int a_nil))))))))) (t_and1 (t_cmp (o_eq rfl (hu64 hr)) (e_call (ok_both T) (hr.mono (by omega)) T.G_both T.F_both.kp (B_both T) .nil (fun _ => .nil) tk (a_cons (e_var 0) (a_cons (e_make0 T.M_Calendar (ok_Calendar___init__ T) (hr.mono (by omega)) T.G_Calendar (T.D_Calendar___init__).b (T.D_Calendar___init__).v (T.D_Calendar___init__).r tk) (a_cons e_int (a_cons e_int a_nil))))) (e_tup (a_cons e_int (a_cons e_int (a_cons e_int (a_cons e_int a_nil)))))))))) (s_one (s_ret e_bl)) s_nil) (s_cons (s_if (t_not (PW.pt (t_andC (t_cmp (o_eq rfl (hu64 hr)) (e_call (ok_every T) (hr.mono (by omega)) T.G_every T.F_every.kp (B_every T) .nil (fun _ => .nil) tk (a_cons e_int (a_cons e_int (a_cons e_int a_nil)))) (e_tup (a_cons e_int (a_cons e_int (a_cons e_int a_nil))))) (t_andC (t_cmp (o_eq rfl (hu64 hr)) (e_call (ok_nth_in T) (hr.mono (by omega)) T.G_nth_in T.F_nth_in.kp (B_nth_in T) .nil (fun _ => .nil) tk (a_cons e_int (a_cons e_int (a_cons e_int a_nil)))) e_int) (t_and1 (t_cmp (o_eq rfl (hu64 hr)) (e_call (ok_day_text T) (hr.mono (by omega)) T.G_day_text T.F_day_text.kp (B_day_text T) .nil (fun _ => .nil) tk (a_cons e_int a_nil)) e_str)))))) (s_one (s_ret e_bl)) s_nil) (s_one (s_ret (e_and (e_cmp (o_eq rfl (hu64 hr)) (e_call (ok_read_day T) (hr.mono (by omega)) T.G_read_day T.F_read_day.kp (B_read_day T) .nil (fun _ => .nil) tk (a_cons e_str a_nil)) e_int) (e_and (e_cmp o_is (e_meth (ok_Calendar_worked_ahead T) (hr.mono (by omega)) rfl T.C_Calendar T.m_Calendar_worked_ahead (B_Calendar_worked_ahead T) .nil (fun _ => .nil) tk (e_var 0) (a_cons e_int a_nil)) e_non) (e_one (e_cmp (o_eq rfl (hu64 hr)) (e_call (ok_every T) (hr.mono (by omega)) T.G_every T.F_every.kp (B_every T) .nil (fun _ => .nil) tk (a_cons e_int (a_cons e_int (a_cons e_int a_nil)))) (e_tup a_nil))))))))))))))))))
end
end K01
end

/-! Ka25 -/
section
set_option Elab.async false
set_option linter.all false
set_option maxRecDepth 100000
set_option maxHeartbeats 4000000
namespace K01
open PySem PySem.Spec L2 Pk
section
variable {Γ : Pk.Γ} {P : Program} {w : World} {mg : Str → Option Value} {base : Heap}
theorem B_law (T : Fx Γ P w mg base) : Binds Γ.K T.d_law ["script"] [] := T.F_law.bindsN fun _ _ _ _ _ _ us hl => match us, hl with | [_], _ => rfl
theorem ok_law (T : Fx Γ P w mg base) : FnOk P w Γ.K mg base (L2.CX P w) 12 T.a_law T.d_law ["script"] (spM Γ 1 f_law) :=
  fnC_ok T.F_law T.t_law.code sc_law rfl (fun A outer s H E hr tk => (s_cons (s_set (hl := hlt rfl) 1 sc_law.nd (e_lst false (a_cons e_str (a_cons e_str (a_cons e_str (a_cons e_str (a_cons e_str (a_cons e_str (a_cons e_str a_nil))))))))) (s_cons (s_for (passes_of rfl) rfl (i_seq rfl (e_call (ok__law_rounds T) (hr.mono (by omega)) T.G__law_rounds T.F__law_rounds.kp (B__law_rounds T) .nil (fun _ => .nil) tk (a_cons (e_var 0) (a_cons e_int a_nil)))) (g_name (hl := hlt rfl) 2 sc_law.nd) (s_cons (s_set (hl := hlt rfl) 3 sc_law.nd (e_bin (o_add false rfl) (e_lc (own := [("k", 21)]) false rfl sc_law.nd (i_r1 (by rfl) T.z_range (a_cons e_int a_nil)) (blkOk_by (by kernel_rfl)) (fun _ _ _ _ _ => (g_name (hl := hlt rfl) 21 sc_law.nd)) (fun _ _ _ _ _ => t_yes) (fun _ _ _ _ _ => (e_ix rfl (hu1 hr) (e_lst false (a_cons e_int (a_cons e_int (a_cons e_int (a_cons e_int a_nil))))) (e_call (ok__law_roll T 4) (hr.mono (by omega)) T.G__law_roll T.F__law_roll.kp (B__law_roll T) .nil (fun _ => .nil) LamX.takes0 (a_cons (e_var 2) (a_cons e_int a_nil)))))) (e_lst false (a_cons (e_bin (o_add false rfl) e_int (e_call (ok__law_roll T 4) (hr.mono (by omega)) T.G__law_roll T.F__law_roll.kp (B__law_roll T) .nil (fun _ => .nil) tk (a_cons (e_var 2) (a_cons e_int a_nil)))) a_nil)))) (s_cons (s_asg (e_tup (a_cons (e_make T.M_Calendar (ok_Calendar___init__ T) (hr.mono (by omega)) T.G_Calendar T.Z_Calendar___init__ .nil (fun _ => .nil) tk (a_cons (e_var 3) a_nil)) (a_cons (e_disp (h15 := Nat.le_of_ble_eq_true rfl) true (.cons e_str (e_var 3) (.cons e_str (e_dnew false) .nil))) a_nil))) (g_tup (n := 2) rfl rfl (gs_cons (g_name (hl := hlt rfl) 10 sc_law.nd) (gs_cons (g_name (hl := hlt rfl) 11 sc_law.nd) gs_nil)) gl2)) (s_cons (s_for (passes_of rfl) rfl (i_r1 (by rfl) T.z_range (a_cons (e_call (ok__law_roll T 4) (hr.mono (by omega)) T.G__law_roll T.F__law_roll.kp (B__law_roll T) .nil (fun _ => .nil) tk (a_cons (e_var 2) (a_cons e_int a_nil))) a_nil)) (g_name (hl := hlt rfl) 4 sc_law.nd) (s_cons (s_asg (e_tup (a_cons (e_bin o_sub (e_call (ok__law_roll T 4) (hr.mono (by omega)) T.G__law_roll T.F__law_roll.kp (B__law_roll T) .nil (fun _ => .nil) tk (a_cons (e_var 2) (a_cons e_int a_nil))) (e_bin (o_mul false rfl) (e_callTy (c_int) (by rfl) T.z_int (by decide +kernel) (a_cons (e_cmp (o_eq rfl (hu64 hr)) (e_call (ok__law_roll T 4) (hr.mono (by omega)) T.G__law_roll T.F__law_roll.kp (B__law_roll T) .nil (fun _ => .nil) tk (a_cons (e_var 2) (a_cons e_int a_nil))) e_int) a_nil)) e_int)) (a_cons (e_call (ok__law_roll T 4) (hr.mono (by omega)) T.G__law_roll T.F__law_roll.kp (B__law_roll T) .nil (fun _ => .nil) tk (a_cons (e_var 2) (a_cons e_int a_nil))) a_nil))) (g_tup (n := 2) rfl rfl (gs_cons (g_name (hl := hlt rfl) 12 sc_law.nd) (gs_cons (g_name (hl := hlt rfl) 18 sc_law.nd) gs_nil)) gl2)) (s_one (s_if (t_cmp o_gt (e_call (ok__law_roll T 4) (hr.mono (by omega)) T.G__law_roll T.F__law_roll.kp (B__law_roll T) .nil (fun _ => .nil) tk (a_cons (e_var 2) (a_cons e_int a_nil))) e_int) (s_cons (s_set (hl := hlt rfl) 19 sc_law.nd (e_and (e_cmp o_ge (e_var 12) e_int) (e_one (e_cmp o_lt (e_var 18) e_int)))) (s_cons (s_sub (hu1 hr) (e_callTy (c_dict false rfl rfl) (by rfl) T.z_dict (by decide +kernel) (a_cons (e_bin (o_add false rfl) (e_itemsL false rfl (e_ix rfl (hu1 hr) (e_var 11) e_str) (by rfl) T.z_list) (e_bin (o_mul false rfl) (e_lst false (a_cons (e_tup (a_cons (e_var 12) (a_cons (e_var 18) a_nil))) a_nil)) (e_callTy (c_int) (by rfl) T.z_int (by decide +kernel) (a_cons (e_var 19) a_nil)))) a_nil)) (e_var 11) e_str) (s_one (s_if (t_cmp (o_ne rfl (hu64 hr)) (e_cmp (o_ne rfl (hu64 hr)) (e_toldT (T.t_law.has (k := 10) hr (by omega) rfl rfl rfl rfl) T.told T.tx (LamX.lamS_by (by kernel_rfl)) (fun _ _ _ _ _ _ _ hr tk => (e_meth (ok_Calendar_set_day T) (hr.mono (by omega)) rfl T.C_Calendar T.m_Calendar_set_day (B_Calendar_set_day T) .nil (fun _ => .nil) tk (e_var 10) (a_cons (e_var 12) (a_cons (e_var 18) a_nil))))) e_str) (e_var 19)) (s_one (s_ret e_bl)) s_nil)))) (s_cons (s_set (hl := hlt rfl) 19 sc_law.nd (e_cmp (o_in rfl (hu1 hr)) (e_var 12) (e_ix rfl (hu1 hr) (e_var 11) e_str))) (s_cons (s_sub (hu1 hr) (e_callTy (c_dict false rfl rfl) (by rfl) T.z_dict (by decide +kernel) (a_cons (e_lc (own := [("one", 20)]) false rfl sc_law.nd (i_keys (e_ix rfl (hu1 hr) (e_var 11) e_str)) (blkOk_by (by kernel_rfl)) (fun _ _ _ _ _ => (g_name (hl := hlt rfl) 20 sc_law.nd)) (fun _ _ _ _ _ => (t_ifs (t_cmp (o_ne rfl (hu64 hr)) (e_var 20) (e_var 12)))) (fun _ _ _ _ _ => (e_tup (a_cons (e_var 20) (a_cons (e_ix rfl (hu1 hr) (e_ix rfl (hu1 hr) (e_var 11) e_str) (e_var 20)) a_nil))))) a_nil)) (e_var 11) e_str) (s_one (s_if (t_cmp (o_ne rfl (hu64 hr)) (e_cmp (o_ne rfl (hu64 hr)) (e_toldT (T.t_law.has (k := 10) hr (by omega) rfl rfl rfl rfl) T.told T.tx (LamX.lamS_by (by kernel_rfl)) (fun _ _ _ _ _ _ _ hr tk => (e_meth (ok_Calendar_clear_day T) (hr.mono (by omega)) rfl T.C_Calendar T.m_Calendar_clear_day (B_Calendar_clear_day T) .nil (fun _ => .nil) tk (e_var 10) (a_cons (e_var 12) a_nil)))) e_str) (e_var 19)) (s_one (s_ret e_bl)) s_nil)))))))) (s_cons (s_if (t_cmp (o_ne rfl (hu64 hr)) (e_lc (own := [("day", 12)]) false rfl sc_law.nd (i_r1 (by rfl) T.z_range (a_cons e_int a_nil)) (blkOk_by (by kernel_rfl)) (fun _ _ _ _ _ => (g_name (hl := hlt rfl) 12 sc_law.nd)) (fun _ _ _ _ _ => t_yes) (fun _ _ _ _ _ => (e_meth (ok_Calendar_on T) (hr.mono (by omega)) rfl T.C_Calendar T.m_Calendar_on (B_Calendar_on T) .nil (fun _ => .nil) LamX.takes0 (e_var 10) (a_cons (e_var 12) a_nil)))) (e_lc (own := [("day", 12)]) false rfl sc_law.nd (i_r1 (by rfl) T.z_range (a_cons e_int a_nil)) (blkOk_by (by kernel_rfl)) (fun _ _ _ _ _ => (g_name (hl := hlt rfl) 12 sc_law.nd)) (fun _ _ _ _ _ => t_yes) (fun _ _ _ _ _ => (e_call (ok__law_hours T) (hr.mono (by omega)) T.G__law_hours T.F__law_hours.kp (B__law_hours T) .nil (fun _ => .nil) LamX.takes0 (a_cons (e_var 11) (a_cons (e_var 12) a_nil)))))) (s_one (s_ret e_bl)) s_nil) (s_cons (s_if (PW.pt (t_orC (t_cmp (o_ne rfl (hu64 hr)) (e_fld rfl [2] T.fl_single (e_var 10)) (e_ix rfl (hu1 hr) (e_var 11) e_str)) (t_or1 (t_cmp (o_ne rfl (hu64 hr)) (e_fld rfl [2] T.fl_hours (e_var 10)) (e_callTy (c_tuple rfl) (by rfl) T.z_tuple (by decide +kernel) (a_cons (e_var 3) a_nil)))))) (s_one (s_ret e_bl)) s_nil) (s_cons (s_asg (e_tup (a_cons (e_call (ok__law_roll T 4) (hr.mono (by omega)) T.G__law_roll T.F__law_roll.kp (B__law_roll T) .nil (fun _ => .nil) tk (a_cons (e_var 2) (a_cons e_int a_nil))) (a_cons (e_call (ok__law_roll T 4) (hr.mono (by omega)) T.G__law_roll T.F__law_roll.kp (B__law_roll T) .nil (fun _ => .nil) tk (a_cons (e_var 2) (a_cons e_int a_nil))) (a_cons (e_call (ok__law_roll T 4) (hr.mono (by omega)) T.G__law_roll T.F__law_roll.kp (B__law_roll T) .nil (fun _ => .nil) tk (a_cons (e_var 2) (a_cons e_int a_nil))) a_nil)))) (g_tup (n := 3) rfl rfl (gs_cons (g_name (hl := hlt rfl) 12 sc_law.nd) (gs_cons (g_name (hl := hlt rfl) 13 sc_law.nd) (gs_cons (g_name (hl := hlt rfl) 14 sc_law.nd) gs_nil))) gl3)) (s_cons (s_setLc (hl := hlt rfl) (own := [("one", 20)]) false 5 rfl sc_law.nd (i_r1 (by rfl) T.z_range (a_cons (e_var 12) a_nil)) (blkOk_by (by kernel_rfl)) (fun _ _ _ _ _ => (g_name (hl := hlt rfl) 20 sc_law.nd)) (fun _ _ _ _ _ => (t_ifs (t_cmp o_gt (e_call (ok__law_hours T) (hr.mono (by omega)) T.G__law_hours T.F__law_hours.kp (B__law_hours T) .nil (fun _ => .nil) LamX.takes0 (a_cons (e_var 11) (a_cons (e_var 20) a_nil))) e_int))) (fun _ _ _ _ _ => (e_var 20))) (s_cons (s_if (t_cmp (o_ne rfl (hu64 hr)) (e_meth (ok_Calendar_next_worked T) (hr.mono (by omega)) rfl T.C_Calendar T.m_Calendar_next_worked (B_Calendar_next_worked T) .nil (fun _ => .nil) tk (e_var 10) (a_cons (e_var 12) a_nil)) (e_ix rfl (hu1 hr) (e_call (ok__law_worked T) (hr.mono (by omega)) T.G__law_worked T.F__law_worked.kp (B__law_worked T) .nil (fun _ => .nil) tk (a_cons (e_var 11) (a_cons (e_var 12) (a_cons e_int a_nil)))) e_int)) (s_one (s_ret e_bl)) s_nil) (s_cons (s_if (t_cmp (o_ne rfl (hu64 hr)) (e_meth (ok_Calendar_worked_ahead T) (hr.mono (by omega)) rfl T.C_Calendar T.m_Calendar_worked_ahead (B_Calendar_worked_ahead T) .nil (fun _ => .nil) tk (e_var 10) (a_cons (e_var 12) a_nil)) (e_ix rfl (hu1 hr) (e_bin (o_add false rfl) (e_lst false (a_cons e_non a_nil)) (e_var 5)) (e_un u_neg e_int))) (s_one (s_ret e_bl)) s_nil) (s_cons (s_if (t_cmp (o_ne rfl (hu64 hr)) (e_meth (ok_Calendar_after T) (hr.mono (by omega)) rfl T.C_Calendar T.m_Calendar_after (B_Calendar_after T) .nil (fun _ => .nil) tk (e_var 10) (a_cons (e_var 12) (a_cons (e_var 13) a_nil))) (e_ix rfl (hu1 hr) (e_call (ok__law_worked T) (hr.mono (by omega)) T.G__law_worked T.F__law_worked.kp (B__law_worked T) .nil (fun _ => .nil) tk (a_cons (e_var 11) (a_cons (e_var 12) (a_cons (e_bin (o_add false rfl) (e_var 13) e_int) a_nil)))) (e_un u_neg e_int))) (s_one (s_ret e_bl)) s_nil) (s_cons (s_setLc (hl := hlt rfl) (own := [("one", 20)]) false 6 rfl sc_law.nd (i_r2 (by rfl) T.z_range (a_cons (e_var 12) (a_cons (e_var 14) a_nil))) (blkOk_by (by kernel_rfl)) (fun _ _ _ _ _ => (g_name (hl := hlt rfl) 20 sc_law.nd)) (fun _ _ _ _ _ => t_yes) (fun _ _ _ _ _ => (e_call (ok__law_hours T) (hr.mono (by omega)) T.G__law_hours T.F__law_hours.kp (B__law_hours T) .nil (fun _ => .nil) LamX.takes0 (a_cons (e_var 11) (a_cons (e_var 20) a_nil))))) (s_cons (s_if (t_cmp (o_ne rfl (hu64 hr)) (e_toldT (T.t_law.has (k := 10) hr (by omega) rfl rfl rfl rfl) T.told T.tx (LamX.lamS_by (by kernel_rfl)) (fun _ _ _ _ _ _ _ hr tk => (e_meth (ok_Calendar_between T) (hr.mono (by omega)) rfl T.C_Calendar T.m_Calendar_between (B_Calendar_between T) .nil (fun _ => .nil) tk (e_var 10) (a_cons (e_var 12) (a_cons (e_var 14) a_nil))))) (e_if (t_cmp o_ge (e_var 14) (e_var 12)) (e_callB (c_len rfl) (by rfl) T.z_len (by decide +kernel) (a_cons (e_lc (own := [("much", 18)]) false rfl sc_law.nd (i_seq rfl (e_var 6)) (blkOk_by (by kernel_rfl)) (fun _ _ _ _ _ => (g_name (hl := hlt rfl) 18 sc_law.nd)) (fun _ _ _ _ _ => (t_ifs (t_cmp o_gt (e_var 18) e_int))) (fun _ _ _ _ _ => (e_var 18))) a_nil)) e_str)) (s_one (s_ret e_bl)) s_nil) (s_cons (s_if (t_cmp (o_ne rfl (hu64 hr)) (e_toldT (T.t_law.has (k := 10) hr (by omega) rfl rfl rfl rfl) T.told T.tx (LamX.lamS_by (by kernel_rfl)) (fun _ _ _ _ _ _ _ hr tk => (e_meth (ok_Calendar_hours_between T) (hr.mono (by omega)) rfl T.C_Calendar T.m_Calendar_hours_between (B_Calendar_hours_between T) .nil (fun _ => .nil) tk (e_var 10) (a_cons (e_var 12) (a_cons (e_var 14) a_nil))))) (e_if (t_cmp o_ge (e_var 14) (e_var 12)) (e_callB (c_sum rfl rfl) (by rfl) T.z_sum (by decide +kernel) (a_cons (e_var 6) a_nil)) e_str)) (s_one (s_ret e_bl)) s_nil) (s_cons (s_set (hl := hlt rfl) 7 sc_law.nd (e_call (ok__law_roll T 4) (hr.mono (by omega)) T.G__law_roll T.F__law_roll.kp (B__law_roll T) .nil (fun _ => .nil) tk (a_cons (e_var 2) (a_cons e_int a_nil)))) (s_cons (s_if (t_cmp (o_ne rfl (hu64 hr)) (e_meth (ok_Calendar_done_on T) (hr.mono (by omega)) rfl T.C_Calendar T.m_Calendar_done_on (B_Calendar_done_on T) .nil (fun _ => .nil) tk (e_var 10) (a_cons (e_var 12) (a_cons (e_var 7) a_nil))) (e_call (ok__law_done T) (hr.mono (by omega)) T.G__law_done T.F__law_done.kp (B__law_done T) .nil (fun _ => .nil) tk (a_cons (e_var 11) (a_cons (e_var 12) (a_cons (e_var 7) a_nil))))) (s_one (s_ret e_bl)) s_nil) (s_cons (s_if (t_cmp (o_ne rfl (hu64 hr)) (e_callTy (c_list false rfl rfl) (by rfl) T.z_list (by decide +kernel) (a_cons (e_meth (ok_Calendar_row T) (hr.mono (by omega)) rfl T.C_Calendar T.m_Calendar_row (B_Calendar_row T) .nil (fun _ => .nil) tk (e_var 10) (a_cons (e_var 12) (a_cons (e_var 13) a_nil))) a_nil)) (e_lc (own := [("one", 20)]) false rfl sc_law.nd (i_r2 (by rfl) T.z_range (a_cons (e_var 12) (a_cons (e_bin (o_add false rfl) (e_var 12) (e_var 13)) a_nil))) (blkOk_by (by kernel_rfl)) (fun _ _ _ _ _ => (g_name (hl := hlt rfl) 20 sc_law.nd)) (fun _ _ _ _ _ => t_yes) (fun _ _ _ _ _ => (e_call (ok__law_hours T) (hr.mono (by omega)) T.G__law_hours T.F__law_hours.kp (B__law_hours T) .nil (fun _ => .nil) LamX.takes0 (a_cons (e_var 11) (a_cons (e_var 20) a_nil)))))) (s_one (s_ret e_bl)) s_nil) (s_cons (s_if (t_cmp (o_ne rfl (hu64 hr)) (e_callTy (c_list false rfl rfl) (by rfl) T.z_list (by decide +kernel) (a_cons (e_call (ok_both T) (hr.mono (by omega)) T.G_both T.F_both.kp (B_both T) .nil (fun _ => .nil) tk (a_cons (e_var 10) (a_cons (e_make0 T.M_Calendar (ok_Calendar___init__ T) (hr.mono (by omega)) T.G_Calendar (T.D_Calendar___init__).b (T.D_Calendar___init__).v (T.D_Calendar___init__).r tk) (a_cons (e_var 12) (a_cons (e_var 13) a_nil))))) a_nil)) (e_lc (own := [("one", 20)]) false rfl sc_law.nd (i_r2 (by rfl) T.z_range (a_cons (e_var 12) (a_cons (e_bin (o_add false rfl) (e_var 12) (e_var 13)) a_nil))) (blkOk_by (by kernel_rfl)) (fun _ _ _ _ _ => (g_name (hl := hlt rfl) 20 sc_law.nd)) (fun _ _ _ _ _ => (t_ifs (PW.pt (t_andC (t_cmp o_gt (e_call (ok__law_hours T) (hr.mono (by omega)) T.G__law_hours T.F__law_hours.kp (B__law_hours T) .nil (fun _ => .nil) LamX.takes0 (a_cons (e_var 11) (a_cons (e_var 20) a_nil))) e_int) (t_and1 (t_cmp o_lt (e_bin o_sub (e_var 20) (e_bin (o_mul false rfl) (e_bin o_div (e_var 20) e_int) e_int)) e_int)))))) (fun _ _ _ _ _ => (e_var 20)))) (s_one (s_ret e_bl)) s_nil) (s_cons (s_asg (e_tup (a_cons (e_bin (o_add false rfl) e_int (e_call (ok__law_roll T 4) (hr.mono (by omega)) T.G__law_roll T.F__law_roll.kp (B__law_roll T) .nil (fun _ => .nil) tk (a_cons (e_var 2) (a_cons e_int a_nil)))) (a_cons (e_call (ok__law_roll T 4) (hr.mono (by omega)) T.G__law_roll T.F__law_roll.kp (B__law_roll T) .nil (fun _ => .nil) tk (a_cons (e_var 2) (a_cons e_int a_nil))) (a_cons (e_bin (o_add false rfl) e_int (e_call (ok__law_roll T 4) (hr.mono (by omega)) T.G__law_roll T.F__law_roll.kp (B__law_roll T) .nil (fun _ => .nil) tk (a_cons (e_var 2) (a_cons e_int a_nil)))) a_nil)))) (g_tup (n := 3) rfl rfl (gs_cons (g_name (hl := hlt rfl) 15 sc_law.nd) (gs_cons (g_name (hl := hlt rfl) 16 sc_law.nd) (gs_cons (g_name (hl := hlt rfl) 17 sc_law.nd) gs_nil))) gl3)) (s_cons (s_if (t_cmp (o_ne rfl (hu64 hr)) (e_callTy (c_list false rfl rfl) (by rfl) T.z_list (by decide +kernel) (a_cons (e_call (ok_every T) (hr.mono (by omega)) T.G_every T.F_every.kp (B_every T) .nil (fun _ => .nil) tk (a_cons (e_var 12) (a_cons (e_var 15) (a_cons (e_var 14) a_nil)))) a_nil)) (e_lc (own := [("one", 20)]) false rfl sc_law.nd (i_r2 (by rfl) T.z_range (a_cons (e_var 12) (a_cons (e_var 14) a_nil))) (blkOk_by (by kernel_rfl)) (fun _ _ _ _ _ => (g_name (hl := hlt rfl) 20 sc_law.nd)) (fun _ _ _ _ _ => (t_ifs (t_cmp (o_eq rfl (hu64 hr)) (e_bin (o_mul false rfl) (e_bin o_div (e_bin o_sub (e_var 20) (e_var 12)) (e_var 15)) (e_var 15)) (e_bin o_sub (e_var 20) (e_var 12))))) (fun _ _ _ _ _ => (e_var 20)))) (s_one (s_ret e_bl)) s_nil) (s_cons (s_if (t_cmp (o_ne rfl (hu64 hr)) (e_call (ok_nth_in T) (hr.mono (by omega)) T.G_nth_in T.F_nth_in.kp (B_nth_in T) .nil (fun _ => .nil) tk (a_cons (e_var 12) (a_cons (e_var 16) (a_cons (e_var 17) a_nil)))) (e_ix rfl (hu1 hr) (e_lc (own := [("one", 20)]) false rfl sc_law.nd (i_r2 (by rfl) T.z_range (a_cons (e_var 12) (a_cons (e_bin (o_add false rfl) (e_var 12) e_int) a_nil))) (blkOk_by (by kernel_rfl)) (fun _ _ _ _ _ => (g_name (hl := hlt rfl) 20 sc_law.nd)) (fun _ _ _ _ _ => (t_ifs (t_cmp (o_eq rfl (hu64 hr)) (e_bin o_sub (e_var 20) (e_bin (o_mul false rfl) (e_bin o_div (e_var 20) e_int) e_int)) (e_var 16)))) (fun _ _ _ _ _ => (e_var 20))) (e_bin o_sub (e_var 17) e_int))) (s_one (s_ret e_bl)) s_nil) (s_cons (s_set (hl := hlt rfl) 8 sc_law.nd (e_call (ok__law_roll T 4) (hr.mono (by omega)) T.G__law_roll T.F__law_roll.kp (B__law_roll T) .nil (fun _ => .nil) tk (a_cons (e_var 2) (a_cons e_int a_nil)))) (s_cons (s_set (hl := hlt rfl) 9 sc_law.nd (e_bin (o_add false rfl) (e_bin (o_add false rfl) (e_bin (o_add false rfl) e_str (e_callTy (c_str) (by rfl) T.z_str (by decide +kernel) (a_cons (e_bin (o_add false rfl) (e_bin o_div (e_var 8) e_int) e_int) a_nil))) e_str) (e_ix rfl (hu1 hr) (e_var 1) (e_bin o_sub (e_var 8) (e_bin (o_mul false rfl) (e_bin o_div (e_var 8) e_int) e_int))))) (s_one (s_if (PW.pt (t_orC (t_cmp (o_ne rfl (hu64 hr)) (e_call (ok_day_text T) (hr.mono (by omega)) T.G_day_text T.F_day_text.kp (B_day_text T) .nil (fun _ => .nil) tk (a_cons (e_var 8) a_nil)) (e_var 9)) (t_orC (t_cmp (o_ne rfl (hu64 hr)) (e_call (ok_read_day T) (hr.mono (by omega)) T.G_read_day T.F_read_day.kp (B_read_day T) .nil (fun _ => .nil) tk (a_cons (e_var 9) a_nil)) (e_var 8)) (t_or1 (t_cmp (o_ne rfl (hu64 hr)) (e_call (ok_week_day T) (hr.mono (by omega)) T.G_week_day T.F_week_day.kp (B_week_day T) .nil (fun _ => .nil) tk (a_cons (e_var 8) a_nil)) (e_bin o_sub (e_var 8) (e_bin (o_mul false rfl) (e_bin o_div (e_var 8) e_int) e_int))))))) (s_one (s_ret e_bl)) s_nil))))))))))))))))))))))))) (s_one (s_ret (e_call0 (ok__law_plain T) (hr.mono (by omega)) T.G__law_plain T.F__law_plain.kp (B__law_plain T) .nil (fun _ => .nil) tk))))))
end
end K01
end

/-! KaH -/
section
set_option Elab.async false
set_option linter.all false
set_option maxRecDepth 100000
set_option maxHeartbeats 0
namespace K01
open PySem PySem.Spec L2 Pk
def cn (k : Nat) : Str := (["PlanError", "DayError", "Calendar"] : List Str).getD k ""
def dd_week_day : He.DefD := ⟨("week_day", none), "week_day", "week_day", defArgs s_week_day, defBody s_week_day, defScope s_week_day, [], []⟩
def dd_Calendar___init__ : He.DefD := ⟨("Calendar", some "__init__"), "__init__", "Calendar.__init__", defArgs s_Calendar___init__, defBody s_Calendar___init__, defScope s_Calendar___init__, [.adr (He.dflAt ("Calendar", some "__init__") 0)], []⟩
def dd_Calendar_set_day : He.DefD := ⟨("Calendar", some "set_day"), "set_day", "Calendar.set_day", defArgs s_Calendar_set_day, defBody s_Calendar_set_day, defScope s_Calendar_set_day, [], []⟩
def dd_Calendar_clear_day : He.DefD := ⟨("Calendar", some "clear_day"), "clear_day", "Calendar.clear_day", defArgs s_Calendar_clear_day, defBody s_Calendar_clear_day, defScope s_Calendar_clear_day, [], []⟩
def dd_Calendar_on : He.DefD := ⟨("Calendar", some "on"), "on", "Calendar.on", defArgs s_Calendar_on, defBody s_Calendar_on, defScope s_Calendar_on, [], []⟩
def dd_Calendar_next_worked : He.DefD := ⟨("Calendar", some "next_worked"), "next_worked", "Calendar.next_worked", defArgs s_Calendar_next_worked, defBody s_Calendar_next_worked, defScope s_Calendar_next_worked, [], []⟩
def dd_Calendar_worked_ahead : He.DefD := ⟨("Calendar", some "worked_ahead"), "worked_ahead", "Calendar.worked_ahead", defArgs s_Calendar_worked_ahead, defBody s_Calendar_worked_ahead, defScope s_Calendar_worked_ahead, [], []⟩
def dd_Calendar_after : He.DefD := ⟨("Calendar", some "after"), "after", "Calendar.after", defArgs s_Calendar_after, defBody s_Calendar_after, defScope s_Calendar_after, [], []⟩
def dd_Calendar_between : He.DefD := ⟨("Calendar", some "between"), "between", "Calendar.between", defArgs s_Calendar_between, defBody s_Calendar_between, defScope s_Calendar_between, [], []⟩
def dd_Calendar_hours_between : He.DefD := ⟨("Calendar", some "hours_between"), "hours_between", "Calendar.hours_between", defArgs s_Calendar_hours_between, defBody s_Calendar_hours_between, defScope s_Calendar_hours_between, [], []⟩
def dd_Calendar_done_on : He.DefD := ⟨("Calendar", some "done_on"), "done_on", "Calendar.done_on", defArgs s_Calendar_done_on, defBody s_Calendar_done_on, defScope s_Calendar_done_on, [], []⟩
def dd_Calendar_row : He.DefD := ⟨("Calendar", some "row"), "row", "Calendar.row", defArgs s_Calendar_row, defBody s_Calendar_row, defScope s_Calendar_row, [], []⟩
def dd_both : He.DefD := ⟨("both", none), "both", "both", defArgs s_both, defBody s_both, defScope s_both, [], []⟩
def dd_every : He.DefD := ⟨("every", none), "every", "every", defArgs s_every, defBody s_every, defScope s_every, [], []⟩
def dd_nth_in : He.DefD := ⟨("nth_in", none), "nth_in", "nth_in", defArgs s_nth_in, defBody s_nth_in, defScope s_nth_in, [], []⟩
def dd_day_text : He.DefD := ⟨("day_text", none), "day_text", "day_text", defArgs s_day_text, defBody s_day_text, defScope s_day_text, [], []⟩
def dd_read_day : He.DefD := ⟨("read_day", none), "read_day", "read_day", defArgs s_read_day, defBody s_read_day, defScope s_read_day, [], []⟩
def dd__law_dice : He.DefD := ⟨("_law_dice", none), "_law_dice", "_law_dice", defArgs s__law_dice, defBody s__law_dice, defScope s__law_dice, [], []⟩
def dd__law_roll : He.DefD := ⟨("_law_roll", none), "_law_roll", "_law_roll", defArgs s__law_roll, defBody s__law_roll, defScope s__law_roll, [], []⟩
def dd__law_rounds : He.DefD := ⟨("_law_rounds", none), "_law_rounds", "_law_rounds", defArgs s__law_rounds, defBody s__law_rounds, defScope s__law_rounds, [], []⟩
def dd__law_told : He.DefD := ⟨("_law_told", none), "_law_told", "_law_told", defArgs s__law_told, defBody s__law_told, defScope s__law_told, [], []⟩
def dd__law_hours : He.DefD := ⟨("_law_hours", none), "_law_hours", "_law_hours", defArgs s__law_hours, defBody s__law_hours, defScope s__law_hours, [], []⟩
def dd__law_worked : He.DefD := ⟨("_law_worked", none), "_law_worked", "_law_worked", defArgs s__law_worked, defBody s__law_worked, defScope s__law_worked, [], []⟩
def dd__law_done : He.DefD := ⟨("_law_done", none), "_law_done", "_law_done", defArgs s__law_done, defBody s__law_done, defScope s__law_done, [], []⟩
def dd__law_plain : He.DefD := ⟨("_law_plain", none), "_law_plain", "_law_plain", defArgs s__law_plain, defBody s__law_plain, defScope s__law_plain, [], []⟩
def dd_law : He.DefD := ⟨("law", none), "law", "law", defArgs s_law, defBody s_law, defScope s_law, [], []⟩
def fn : List He.DefD := [dd_week_day, dd_Calendar___init__, dd_Calendar_set_day, dd_Calendar_clear_day, dd_Calendar_on, dd_Calendar_next_worked, dd_Calendar_worked_ahead, dd_Calendar_after, dd_Calendar_between, dd_Calendar_hours_between, dd_Calendar_done_on, dd_Calendar_row, dd_both, dd_every, dd_nth_in, dd_day_text, dd_read_day, dd__law_dice, dd__law_roll, dd__law_rounds, dd__law_told, dd__law_hours, dd__law_worked, dd__law_done, dd__law_plain, dd_law]
def fa0 : List He.Fa := [.glo "week_day", .glo "both", .glo "every", .glo "nth_in", .glo "day_text", .glo "read_day", .glo "_law_dice", .glo "_law_roll", .glo "_law_rounds", .glo "_law_told", .glo "_law_hours", .glo "_law_worked", .glo "_law_done", .glo "_law_plain", .glo "law", .glo "Calendar", .cls "Calendar", .mkr "Calendar", .meth "Calendar" "set_day", .meth "Calendar" "clear_day", .meth "Calendar" "on", .meth "Calendar" "next_worked", .meth "Calendar" "worked_ahead", .meth "Calendar" "after", .meth "Calendar" "between", .meth "Calendar" "hours_between", .meth "Calendar" "done_on", .meth "Calendar" "row", .noat "Calendar" "hours", .noat "Calendar" "single"]
def fa1 : List He.Fa := [.glo "DayError", .exc "DayError", .exm "DayError" "DayError" true, .int "LAST" 20000, .free "abs", .free "any", .free "dict", .free "enumerate", .free "int", .free "len", .free "list", .free "range", .free "str", .free "sum", .free "tuple", .free "zip"]
def fa : List He.Fa := fa0 ++ fa1
def tf : List He.Defn := [("Calendar", some "__init__"), ("Calendar", some "hours_between"), ("Calendar", some "row"), ("both", none), ("read_day", none), ("_law_plain", none), ("law", none)]
def tq : List Str := ["Calendar.__init__.<locals>.<genexpr>", "Calendar.hours_between.<locals>.<genexpr>", "Calendar.row.<locals>.<genexpr>", "both.<locals>.<genexpr>", "read_day.<locals>.<genexpr>", "_law_plain.<locals>.<lambda>", "law.<locals>.<lambda>"]
def tabsOf (K : PySem.W.Frag) : List (Addr × Str) := (tf.map fun p => (He.cT K p).2).zip tq
def ex (K : PySem.W.Frag) : Bool := apartB (tf.map fun p => (He.cT K p).2) && tupAtB K (He.dflAt ("Calendar", some "__init__") 0 K) [.int 8, .int 8, .int 8, .int 8, .int 8, .int 0, .int 0]
def Gm (K : PySem.W.Frag) : Pk.Γ := ⟨K, fun k => He.ga K (cn k), tabsOf K⟩
theorem fx {P : Program} {w : World} {K : PySem.W.Frag} {h base : Heap} {mg : Str → Option Value} (X : K.In h) (G : h.Ns mainGlobals mg) (c : He.SaysX fa fn [] tf ex w h K) (tb : ∀ p ∈ tf.map (He.cT K), LamX.TabB base mg p.1 p.2) : Nonempty {T : Fx (Gm K) P w mg base // T.a_law = He.fAd K ("law", none) ∧ ∃ b : ∀ (s : Shared) (u : Value), BindsTo s T.d_law ⟨[u], []⟩ [("script", u)], True} := by
  have cd := He.SaysT.d c.t
  have mem : ∀ {f : He.Fa}, f ∈ fa → f.ok K = true := fun h => cd.facts h
  have mo := c.more
  simp only [ex, Bool.and_eq_true] at mo
  obtain ⟨mN, m0⟩ := mo
  have nd : ((tabsOf K).map (·.1)).Nodup := by
    have e : (tabsOf K).map (·.1) = tf.map fun p => (He.cT K p).2 := by rfl
    rw [e]; exact of_decide_eq_true mN
  obtain ⟨d_week_day, F_week_day⟩ := cd.defs (d := dd_week_day) (List.mem_of_getElem? (i := 0) rfl)
  obtain ⟨d_Calendar___init__, F_Calendar___init__⟩ := cd.defs (d := dd_Calendar___init__) (List.mem_of_getElem? (i := 1) rfl)
  obtain ⟨d_Calendar_set_day, F_Calendar_set_day⟩ := cd.defs (d := dd_Calendar_set_day) (List.mem_of_getElem? (i := 2) rfl)
  obtain ⟨d_Calendar_clear_day, F_Calendar_clear_day⟩ := cd.defs (d := dd_Calendar_clear_day) (List.mem_of_getElem? (i := 3) rfl)
  obtain ⟨d_Calendar_on, F_Calendar_on⟩ := cd.defs (d := dd_Calendar_on) (List.mem_of_getElem? (i := 4) rfl)
  obtain ⟨d_Calendar_next_worked, F_Calendar_next_worked⟩ := cd.defs (d := dd_Calendar_next_worked) (List.mem_of_getElem? (i := 5) rfl)
  obtain ⟨d_Calendar_worked_ahead, F_Calendar_worked_ahead⟩ := cd.defs (d := dd_Calendar_worked_ahead) (List.mem_of_getElem? (i := 6) rfl)
  obtain ⟨d_Calendar_after, F_Calendar_after⟩ := cd.defs (d := dd_Calendar_after) (List.mem_of_getElem? (i := 7) rfl)
  obtain ⟨d_Calendar_between, F_Calendar_between⟩ := cd.defs (d := dd_Calendar_between) (List.mem_of_getElem? (i := 8) rfl)
  obtain ⟨d_Calendar_hours_between, F_Calendar_hours_between⟩ := cd.defs (d := dd_Calendar_hours_between) (List.mem_of_getElem? (i := 9) rfl)
  obtain ⟨d_Calendar_done_on, F_Calendar_done_on⟩ := cd.defs (d := dd_Calendar_done_on) (List.mem_of_getElem? (i := 10) rfl)
  obtain ⟨d_Calendar_row, F_Calendar_row⟩ := cd.defs (d := dd_Calendar_row) (List.mem_of_getElem? (i := 11) rfl)
  obtain ⟨d_both, F_both⟩ := cd.defs (d := dd_both) (List.mem_of_getElem? (i := 12) rfl)
  obtain ⟨d_every, F_every⟩ := cd.defs (d := dd_every) (List.mem_of_getElem? (i := 13) rfl)
  obtain ⟨d_nth_in, F_nth_in⟩ := cd.defs (d := dd_nth_in) (List.mem_of_getElem? (i := 14) rfl)
  obtain ⟨d_day_text, F_day_text⟩ := cd.defs (d := dd_day_text) (List.mem_of_getElem? (i := 15) rfl)
  obtain ⟨d_read_day, F_read_day⟩ := cd.defs (d := dd_read_day) (List.mem_of_getElem? (i := 16) rfl)
  obtain ⟨d__law_dice, F__law_dice⟩ := cd.defs (d := dd__law_dice) (List.mem_of_getElem? (i := 17) rfl)
  obtain ⟨d__law_roll, F__law_roll⟩ := cd.defs (d := dd__law_roll) (List.mem_of_getElem? (i := 18) rfl)
  obtain ⟨d__law_rounds, F__law_rounds⟩ := cd.defs (d := dd__law_rounds) (List.mem_of_getElem? (i := 19) rfl)
  obtain ⟨d__law_told, F__law_told⟩ := cd.defs (d := dd__law_told) (List.mem_of_getElem? (i := 20) rfl)
  obtain ⟨d__law_hours, F__law_hours⟩ := cd.defs (d := dd__law_hours) (List.mem_of_getElem? (i := 21) rfl)
  obtain ⟨d__law_worked, F__law_worked⟩ := cd.defs (d := dd__law_worked) (List.mem_of_getElem? (i := 22) rfl)
  obtain ⟨d__law_done, F__law_done⟩ := cd.defs (d := dd__law_done) (List.mem_of_getElem? (i := 23) rfl)
  obtain ⟨d__law_plain, F__law_plain⟩ := cd.defs (d := dd__law_plain) (List.mem_of_getElem? (i := 24) rfl)
  obtain ⟨d_law, F_law⟩ := cd.defs (d := dd_law) (List.mem_of_getElem? (i := 25) rfl)
  have ⟨e_Calendar___init__, ve_Calendar___init__, b_Calendar___init__⟩ := FunD.binds1 (ps := ["self", "hours"]) F_Calendar___init__ 1 0 (by simp [dd_Calendar___init__, He.DefD.dvs]) rfl (fun T kV doc pm an cdv ct us its h1 h2 => by
    match us, its, h1, h2 with | [_], [_], _, _ => exact ⟨_, rfl, rfl⟩)
  have Z_Calendar___init__ : Binds K d_Calendar___init__ ["self", "hours"] [] := by
    obtain ⟨ds, h1, h2⟩ := FunD.binds1 (ps := ["self", "hours"]) F_Calendar___init__ 2 1 (by simp [dd_Calendar___init__, He.DefD.dvs]) rfl (fun T kV doc pm an cdv ct us its h1 h2 => by
      match us, its, h1, h2 with | [_, _], [_], _, _ => exact ⟨_, rfl, rfl⟩)
    cases h1; exact h2
  have fl_hours : ∀ c ∈ [2], Cls K (He.ga K (cn c)) ∧ NoAttr K (He.ga K (cn c)) "hours" := by
    intro c hc
    simp only [List.mem_cons, List.not_mem_nil, or_false] at hc
    subst hc
    exact ⟨He.cls_ok (mem (f := .cls "Calendar") (List.mem_of_getElem? (i := 16) rfl)), He.noat_ok (mem (f := .noat "Calendar" "hours") (List.mem_of_getElem? (i := 28) rfl))⟩
  have fl_single : ∀ c ∈ [2], Cls K (He.ga K (cn c)) ∧ NoAttr K (He.ga K (cn c)) "single" := by
    intro c hc
    simp only [List.mem_cons, List.not_mem_nil, or_false] at hc
    subst hc
    exact ⟨He.cls_ok (mem (f := .cls "Calendar") (List.mem_of_getElem? (i := 16) rfl)), He.noat_ok (mem (f := .noat "Calendar" "single") (List.mem_of_getElem? (i := 29) rfl))⟩
  have told : ToldT K mg "_law_told" "DayError" (He.ga K (cn 1)) := by
    have B := F__law_told.bindsN (ps := ["what"]) fun _ _ _ _ _ _ us hl => match us, hl with | [_], _ => rfl
    obtain ⟨oc, od, dV, kV, doc, pm, an, cdv, ct, osl, e, lk, hcd, hD, _⟩ := F__law_told.ex
    subst e
    exact ⟨_, _, _, _, _, _, _, _, _, _, _, _, _, _, _, _, _, _, _, _, _, _, _, _, ["what"], He.glo_ok X G (mem (f := .glo "_law_told") (List.mem_of_getElem? (i := 9) rfl)), F__law_told.kp, lk, hcd, B, ⟨rfl, rfl, rfl, by decide +kernel, rfl, by decide +kernel, by decide +kernel⟩, rfl, by first | exact Or.inl rfl | exact Or.inr (Or.inl rfl) | exact Or.inr (Or.inr rfl), rfl, He.glo_ok X G (mem (f := .glo "DayError") (List.mem_of_getElem? (i := 30) rfl)), by decide, fun _ => rfl, by decide, by decide, by decide⟩
  have tx : ∀ c ∈ [1], PySem.W.exmOne K (.ref (He.ga K (cn c))) (.ref (He.ga K (cn 1))) = some true := by
    intro c hc
    simp only [List.mem_cons, List.not_mem_nil, or_false] at hc
    subst hc
    exact He.exm_ok (mem (f := .exm "DayError" "DayError" true) (List.mem_of_getElem? (i := 32) rfl))
  refine ⟨⟨{ a_week_day := _, d_week_day := d_week_day, F_week_day := F_week_day, G_week_day := He.glo_ok X G (mem (f := .glo "week_day") (List.mem_of_getElem? (i := 0) rfl)), a_Calendar___init__ := _, d_Calendar___init__ := d_Calendar___init__, v_Calendar___init__ := _, e_Calendar___init__ := _, F_Calendar___init__ := F_Calendar___init__, Z_Calendar___init__ := Z_Calendar___init__, D_Calendar___init__ := ⟨b_Calendar___init__, ve_Calendar___init__, fun g => (.cons (by unfold RW; exact ⟨_, _, rfl, tupAtB_ok m0 _, by simpa using RWs.ints [8, 8, 8, 8, 8, 0, 0]⟩) .nil)⟩, M_Calendar := He.mkr_ok (mem (f := .mkr "Calendar") (List.mem_of_getElem? (i := 17) rfl)), a_Calendar_set_day := _, d_Calendar_set_day := d_Calendar_set_day, F_Calendar_set_day := F_Calendar_set_day, m_Calendar_set_day := He.meth_ok (mem (f := .meth "Calendar" "set_day") (List.mem_of_getElem? (i := 18) rfl)), a_Calendar_clear_day := _, d_Calendar_clear_day := d_Calendar_clear_day, F_Calendar_clear_day := F_Calendar_clear_day, m_Calendar_clear_day := He.meth_ok (mem (f := .meth "Calendar" "clear_day") (List.mem_of_getElem? (i := 19) rfl)), a_Calendar_on := _, d_Calendar_on := d_Calendar_on, F_Calendar_on := F_Calendar_on, m_Calendar_on := He.meth_ok (mem (f := .meth "Calendar" "on") (List.mem_of_getElem? (i := 20) rfl)), a_Calendar_next_worked := _, d_Calendar_next_worked := d_Calendar_next_worked, F_Calendar_next_worked := F_Calendar_next_worked, m_Calendar_next_worked := He.meth_ok (mem (f := .meth "Calendar" "next_worked") (List.mem_of_getElem? (i := 21) rfl)), a_Calendar_worked_ahead := _, d_Calendar_worked_ahead := d_Calendar_worked_ahead, F_Calendar_worked_ahead := F_Calendar_worked_ahead, m_Calendar_worked_ahead := He.meth_ok (mem (f := .meth "Calendar" "worked_ahead") (List.mem_of_getElem? (i := 22) rfl)), a_Calendar_after := _, d_Calendar_after := d_Calendar_after, F_Calendar_after := F_Calendar_after, m_Calendar_after := He.meth_ok (mem (f := .meth "Calendar" "after") (List.mem_of_getElem? (i := 23) rfl)), a_Calendar_between := _, d_Calendar_between := d_Calendar_between, F_Calendar_between := F_Calendar_between, m_Calendar_between := He.meth_ok (mem (f := .meth "Calendar" "between") (List.mem_of_getElem? (i := 24) rfl)), a_Calendar_hours_between := _, d_Calendar_hours_between := d_Calendar_hours_between, F_Calendar_hours_between := F_Calendar_hours_between, m_Calendar_hours_between := He.meth_ok (mem (f := .meth "Calendar" "hours_between") (List.mem_of_getElem? (i := 25) rfl)), a_Calendar_done_on := _, d_Calendar_done_on := d_Calendar_done_on, F_Calendar_done_on := F_Calendar_done_on, m_Calendar_done_on := He.meth_ok (mem (f := .meth "Calendar" "done_on") (List.mem_of_getElem? (i := 26) rfl)), a_Calendar_row := _, d_Calendar_row := d_Calendar_row, F_Calendar_row := F_Calendar_row, m_Calendar_row := He.meth_ok (mem (f := .meth "Calendar" "row") (List.mem_of_getElem? (i := 27) rfl)), a_both := _, d_both := d_both, F_both := F_both, G_both := He.glo_ok X G (mem (f := .glo "both") (List.mem_of_getElem? (i := 1) rfl)), a_every := _, d_every := d_every, F_every := F_every, G_every := He.glo_ok X G (mem (f := .glo "every") (List.mem_of_getElem? (i := 2) rfl)), a_nth_in := _, d_nth_in := d_nth_in, F_nth_in := F_nth_in, G_nth_in := He.glo_ok X G (mem (f := .glo "nth_in") (List.mem_of_getElem? (i := 3) rfl)), a_day_text := _, d_day_text := d_day_text, F_day_text := F_day_text, G_day_text := He.glo_ok X G (mem (f := .glo "day_text") (List.mem_of_getElem? (i := 4) rfl)), a_read_day := _, d_read_day := d_read_day, F_read_day := F_read_day, G_read_day := He.glo_ok X G (mem (f := .glo "read_day") (List.mem_of_getElem? (i := 5) rfl)), a__law_dice := _, d__law_dice := d__law_dice, F__law_dice := F__law_dice, G__law_dice := He.glo_ok X G (mem (f := .glo "_law_dice") (List.mem_of_getElem? (i := 6) rfl)), a__law_roll := _, d__law_roll := d__law_roll, F__law_roll := F__law_roll, G__law_roll := He.glo_ok X G (mem (f := .glo "_law_roll") (List.mem_of_getElem? (i := 7) rfl)), a__law_rounds := _, d__law_rounds := d__law_rounds, F__law_rounds := F__law_rounds, G__law_rounds := He.glo_ok X G (mem (f := .glo "_law_rounds") (List.mem_of_getElem? (i := 8) rfl)), a__law_told := _, d__law_told := d__law_told, F__law_told := F__law_told, G__law_told := He.glo_ok X G (mem (f := .glo "_law_told") (List.mem_of_getElem? (i := 9) rfl)), a__law_hours := _, d__law_hours := d__law_hours, F__law_hours := F__law_hours, G__law_hours := He.glo_ok X G (mem (f := .glo "_law_hours") (List.mem_of_getElem? (i := 10) rfl)), a__law_worked := _, d__law_worked := d__law_worked, F__law_worked := F__law_worked, G__law_worked := He.glo_ok X G (mem (f := .glo "_law_worked") (List.mem_of_getElem? (i := 11) rfl)), a__law_done := _, d__law_done := d__law_done, F__law_done := F__law_done, G__law_done := He.glo_ok X G (mem (f := .glo "_law_done") (List.mem_of_getElem? (i := 12) rfl)), a__law_plain := _, d__law_plain := d__law_plain, F__law_plain := F__law_plain, G__law_plain := He.glo_ok X G (mem (f := .glo "_law_plain") (List.mem_of_getElem? (i := 13) rfl)), a_law := _, d_law := d_law, F_law := F_law, G_law := He.glo_ok X G (mem (f := .glo "law") (List.mem_of_getElem? (i := 14) rfl)), C_Calendar := He.cls_ok (mem (f := .cls "Calendar") (List.mem_of_getElem? (i := 16) rfl)), G_Calendar := He.glo_ok X G (mem (f := .glo "Calendar") (List.mem_of_getElem? (i := 15) rfl)), c_Calendar___init__ := _, p_Calendar___init__ := _, g_Calendar___init__ := ⟨code_of F_Calendar___init__, tb _ (List.mem_of_getElem? (i := 0) rfl), (List.mem_of_getElem? (i := 0) rfl), uni_of nd (List.mem_of_getElem? (i := 0) rfl)⟩, c_Calendar_hours_between := _, p_Calendar_hours_between := _, g_Calendar_hours_between := ⟨code_of F_Calendar_hours_between, tb _ (List.mem_of_getElem? (i := 1) rfl), (List.mem_of_getElem? (i := 1) rfl), uni_of nd (List.mem_of_getElem? (i := 1) rfl)⟩, c_Calendar_row := _, p_Calendar_row := _, g_Calendar_row := ⟨code_of F_Calendar_row, tb _ (List.mem_of_getElem? (i := 2) rfl), (List.mem_of_getElem? (i := 2) rfl), uni_of nd (List.mem_of_getElem? (i := 2) rfl)⟩, c_both := _, p_both := _, g_both := ⟨code_of F_both, tb _ (List.mem_of_getElem? (i := 3) rfl), (List.mem_of_getElem? (i := 3) rfl), uni_of nd (List.mem_of_getElem? (i := 3) rfl)⟩, c_read_day := _, p_read_day := _, g_read_day := ⟨code_of F_read_day, tb _ (List.mem_of_getElem? (i := 4) rfl), (List.mem_of_getElem? (i := 4) rfl), uni_of nd (List.mem_of_getElem? (i := 4) rfl)⟩, c__law_plain := _, p__law_plain := _, t__law_plain := ⟨code_of F__law_plain, tb _ (List.mem_of_getElem? (i := 5) rfl), (List.mem_of_getElem? (i := 5) rfl), uni_of nd (List.mem_of_getElem? (i := 5) rfl)⟩, c_law := _, p_law := _, t_law := ⟨code_of F_law, tb _ (List.mem_of_getElem? (i := 6) rfl), (List.mem_of_getElem? (i := 6) rfl), uni_of nd (List.mem_of_getElem? (i := 6) rfl)⟩, i_LAST := He.int_ok X G (mem (f := .int "LAST" 20000) (List.mem_of_getElem? (i := 33) rfl)), x_DayError := (fun z => ⟨He.glo_ok X G (mem (f := .glo "DayError") (List.mem_of_getElem? (i := 30) rfl)), z.1, z.2.1, z.2.2.1, z.2.2.2⟩) (He.exc_ok (mem (f := .exc "DayError") (List.mem_of_getElem? (i := 31) rfl))), z_abs := He.free_ok X G (mem (f := .free "abs") (List.mem_of_getElem? (i := 34) rfl)), z_any := He.free_ok X G (mem (f := .free "any") (List.mem_of_getElem? (i := 35) rfl)), z_dict := He.free_ok X G (mem (f := .free "dict") (List.mem_of_getElem? (i := 36) rfl)), z_enumerate := He.free_ok X G (mem (f := .free "enumerate") (List.mem_of_getElem? (i := 37) rfl)), z_int := He.free_ok X G (mem (f := .free "int") (List.mem_of_getElem? (i := 38) rfl)), z_len := He.free_ok X G (mem (f := .free "len") (List.mem_of_getElem? (i := 39) rfl)), z_list := He.free_ok X G (mem (f := .free "list") (List.mem_of_getElem? (i := 40) rfl)), z_range := He.free_ok X G (mem (f := .free "range") (List.mem_of_getElem? (i := 41) rfl)), z_str := He.free_ok X G (mem (f := .free "str") (List.mem_of_getElem? (i := 42) rfl)), z_sum := He.free_ok X G (mem (f := .free "sum") (List.mem_of_getElem? (i := 43) rfl)), z_tuple := He.free_ok X G (mem (f := .free "tuple") (List.mem_of_getElem? (i := 44) rfl)), z_zip := He.free_ok X G (mem (f := .free "zip") (List.mem_of_getElem? (i := 45) rfl)), fl_hours := fl_hours, fl_single := fl_single, told := told, tx := tx }, rfl, ?_, trivial⟩⟩
  exact fun s v => FunD.bindsA (ps := ["script"]) F_law (fun _ _ _ _ _ _ us hl => match us, hl with | [_], _ => rfl) s [v] rfl
end K01
end

/-! KaR -/
section
set_option Elab.async false
set_option linter.all false
set_option maxRecDepth 100000
set_option maxHeartbeats 0
namespace K01
open PySem PySem.Spec L2 Pk
abbrev RR : PySem.W.OpenRow := PySem.W.OpenLaw.row PySem.Challenge.rw_planstack_k01_days_that_are_worked
abbrev hk : PySem.W.Hook := He.hookX 5 fa fn [] tf ex
def ob (s : PySem.W.SharedT) : He.AlX := He.obsX 5 fa fn [] tf ex (HandSHeadRun.getT s)
theorem ob_eq (s : PySem.W.SharedT) : ob s = hk.obs s.abs := He.obsX_eq (HandSHeadRun.getT_eq s)
def nms0 : List Str := ["__name__", "PlanError", "DayError", "LAST", "week_day", "Calendar", "both", "every", "nth_in", "day_text", "read_day", "_law_dice", "_law_roll", "_law_rounds", "_law_told", "_law_hours", "_law_worked", "_law_done", "_law_plain"]
abbrev nms : List Str := nms0
theorem run (w : World) : HandSHeadRun.RunEq RR (PySem.W.view RR.prog [21]) hk ob 2000 nms w := by
  intro os
  kernel_rfl
end K01
end

/-! KaE -/
section
set_option Elab.async false
set_option linter.all false
set_option maxRecDepth 100000
set_option maxHeartbeats 0
open PySem PySem.Spec L2 Pk
namespace K01
theorem noEx {P : Program} {w : World} {H : Hp} {s s' : Shared} {e : Value} (z : L2.CX P w [] H s (fun _ _ _ => False) e s') : False := by
  obtain ⟨_, _, _, _, _, _, _, _, _, _, _, _, f⟩ := z
  exact f
theorem atS {w : World} {K : PySem.W.Frag} {h : Heap} {mg : Str → Option Value} {fa_ : Addr} (X : K.In h) (G : h.Ns mainGlobals mg) (hmg : mg ("law" : PySem.Str) = some (.ref fa_)) (c : He.SaysX fa fn [] tf ex w h K)
    (pl : ∀ ns : List Int, ns.length ≤ 63 → ∃ h', f_law [.scr ns] Pk.h0 = .ok (.bl true) h') : LamX.LawAtS PySem.Challenge.rw_planstack_k01_days_that_are_worked w K (L2.CX (PySem.Challenge.rw_planstack_k01_days_that_are_worked).prog w) 12 63 "script" mg fa_ h := by
  have mem : ∀ {f : He.Fa}, f ∈ fa → f.ok K = true := fun h => (He.SaysT.d c.t).facts h
  have e := hmg.symm.trans (He.glo_ok X G (mem (f := .glo "law") (List.mem_of_getElem? (i := 14) rfl)))
  cases e
  obtain ⟨d, F⟩ := (He.SaysT.d c.t).defs (d := dd_law) (List.mem_of_getElem? (i := 25) rfl)
  refine ⟨d, tf.map (He.cT K), spM (Gm K) 1 f_law, ?_, ?_, ?_, ?_, ?_, ?_⟩
  · intro p hp
    obtain ⟨q, hq, rfl⟩ := List.mem_map.mp hp
    exact c.empty q hq
  · intro p hp
    obtain ⟨q, hq, rfl⟩ := List.mem_map.mp hp
    exact c.out q hq
  · intro p hp
    obtain ⟨q, hq, rfl⟩ := List.mem_map.mp hp
    exact PySem.W.codeHd_of_K X (c.hd q hq)
  · exact fun s v => FunD.bindsA (ps := ["script"]) F (fun _ _ _ _ _ _ us hl => match us, hl with | [_], _ => rfl) s [v] rfl
  · intro H a ns hl _ hT hS
    refine law_start (Γ := Gm K) (fun p hp => ?_) hS (pl ns hl)
    have hp2 := (List.of_mem_zip (show p ∈ (tf.map fun p => (He.cT K p).2).zip tq from hp)).1
    obtain ⟨q, hq, e⟩ := List.mem_map.mp hp2
    rw [← e]
    exact hT (He.cT K q) (List.mem_map.mpr ⟨q, hq, rfl⟩)
  · intro base XB GB tb
    obtain ⟨T, e1, _⟩ := fx (P := (PySem.Challenge.rw_planstack_k01_days_that_are_worked).prog) (base := base) X G c tb
    have e2 : T.d_law = d := by
      obtain ⟨_, _, _, _, _, _, _, _, _, _, _, l1, _⟩ := T.F_law.ex
      obtain ⟨_, _, _, _, _, _, _, _, _, _, _, l2, _⟩ := F.ex
      have l1 : K.lookup (He.fAd K dd_law.at_) = _ := e1 ▸ l1
      rw [l2] at l1
      injection l1 with l1
      injection l1 with _ _ l1
      injection l1 with l1
      exact l1.symm
    have z := ok_law T
    rw [e2, show T.a_law = He.ga K "law" from e1] at z
    exact z
end K01
open PySem PySem.W PySem.Calls PyProof.Rows
theorem fin (pl : ∀ ns : List Int, ns.length ≤ 63 → ∃ h', K01.f_law [.scr ns] Pk.h0 = .ok (.bl true) h') : PySem.Challenge.rw_planstack_k01_days_that_are_worked.Holds := by
  w_on; o_law
  refine HandSHeadRun.head_any (r := OpenLaw.row PySem.Challenge.rw_planstack_k01_days_that_are_worked) (q := view (OpenLaw.row PySem.Challenge.rw_planstack_k01_days_that_are_worked).prog [21]) (H := K01.hk) (ob := K01.ob) (M := 2000) (loose := K01.nms) (d := HandSHeadRun.topDef (OpenLaw.row PySem.Challenge.rw_planstack_k01_days_that_are_worked).prog 21) (kwd := []) K01.ob_eq
    (by kernel_rfl) (fun s => by kernel_rfl) K01.run (by kernel_rfl) (by kernel_rfl) (by kernel_rfl) (by rfl) (by first | assumption | decide +kernel) (by decide +kernel) ⟨rfl, rfl, rfl, rfl, rfl, by decide +kernel⟩ ?hw ?hc
  case hw => w_witness2
  case hc =>
    refine LamX.walk_ofTsE (l := PySem.Challenge.rw_planstack_k01_days_that_are_worked) (n := 63) (k := 12) (x := "script") (CX := fun w => L2.CX (PySem.Challenge.rw_planstack_k01_days_that_are_worked).prog w) rfl (by decide) (by kernel_rfl) ⟨rfl, by decide, by decide⟩ ?F ?G
    case F =>
      intro w mg fa h Y G hmg0
      obtain ⟨K, KX, c⟩ := Y
      have hmg : mg ("law" : PySem.Str) = some (.ref fa) := by
        have e : (HandSHeadRun.topDef (OpenLaw.row PySem.Challenge.rw_planstack_k01_days_that_are_worked).prog 21).name = ("law" : PySem.Str) := by kernel_rfl
        rw [← e]
        exact hmg0
      exact ⟨K, KX, K01.atS KX G hmg c pl⟩
    case G => exact fun w H s e s' z => K01.noEx z
end

/-! Qc -/
section
set_option Elab.async false
set_option linter.all false
set_option maxRecDepth 100000
set_option maxHeartbeats 4000000
namespace Pk
open PySem PySem.Spec L2
section
variable {K : W → HS → Prop} {E : Nat → HS → Prop} {h h1 : HS} {sl s : Sl} {c : Nat} {w x y : W} {fo fk fx fa fb fc : Ex} {m m' : W → W → HS → R W}
theorem wp_get2 (p : Wp (fo sl h) (fun d h1 => (∃ q, dview h1 d = some q) ∧ Wp (fk sl h1) (fun k h2 => Wp (fx sl h2) (fun x h3 => ∃ r : Option W, dget h3 d k = some r ∧ K (r.getD x) h3) E) E) E) : Wp (eGet2 fo fk fx sl h) K E := by
  refine wp_bind (wp_mono p (fun d h1 ⟨⟨q, e⟩, z⟩ => ?_) fun _ _ q => q)
  rw [e]
  refine wp_bind (wp_mono z (fun k h2 z => wp_bind (wp_mono z (fun x h3 ⟨r, e2, z⟩ => ?_) fun _ _ q => q)) fun _ _ q => q)
  cases r with
  | none => rw [e2]; exact z
  | some v => rw [e2]; exact z
theorem wp_fld {cs : List Nat} {f : Str} {n k : Nat} {ks : List Str} {ws : List W} {w : W} (e : h.at_ n = some (.ins k ks ws)) (e1 : cs.contains k = true) (e2 : slook ks ws f = some w) (p : K w h) : Wp (wFld cs f (.box n) h) K E := by
  unfold wFld
  dsimp only
  rw [e]
  dsimp only
  rw [if_pos e1, e2]
  exact p
theorem wp_ixL {ws : List W} {i : Int} {w : W} (e : sview h x = some ws) (nx : ∀ z, x ≠ .str z) (e2 : atI ws i = some w) (p : K w h) : Wp (wIx x (.int i) h) K E := by
  unfold wIx
  split
  · exact absurd rfl (nx _)
  · rw [e]
    dsimp only
    rw [e2]
    exact p
theorem wp_ixD {k : W} {w : W} (e : dview h x ≠ none) (ns : sview h x = none) (nx : ∀ z, x ≠ .str z) (e2 : dget h x k = some (some w)) (p : K w h) : Wp (wIx x k h) K E := by
  unfold wIx
  split
  · exact absurd rfl (nx _)
  · rw [ns]
    dsimp only
    rw [e2]
    exact p
theorem sview_box {n : Nat} {ks : List DK} {ws : List W} (e : h.at_ n = some (.dic ks ws)) : sview h (.box n) = none := by
  show lview h (.box n) = none
  unfold lview; simp only [e]
theorem dview_box {n : Nat} {ks : List DK} {ws : List W} (e : h.at_ n = some (.dic ks ws)) : dview h (.box n) = some (ks, ws) := by
  unfold dview; simp only [e]
theorem lview_box {n : Nat} {ws : List W} (e : h.at_ n = some (.lst ws)) : lview h (.box n) = some ws := by
  unfold lview; simp only [e]
theorem sview_boxL {n : Nat} {ws : List W} (e : h.at_ n = some (.lst ws)) : sview h (.box n) = some ws := lview_box e
/-- a chain of two comparisons of whole numbers, the third a constant -/
theorem wp_chain_ll {c : Int} (p : Wp (fa sl h) (fun x h1 => Wp (fb sl h1) (fun y h2 => IsI x fun a => IsI y fun b => K (.bl (decide (a ≤ b ∧ b ≤ c))) h2) E) E) : Wp (eChain wLe wLe fa fb (eC (.int c)) sl h) K E := by
  refine wp_chain (wp_mono p (fun x h1 z => wp_mono z (fun y h2 ⟨a, e1, b, e2, zz⟩ => ?_) fun _ _ q => q) fun _ _ q => q)
  subst e1 e2
  have zz : K (.bl (decide (a ≤ b ∧ b ≤ c))) h2 := zz
  refine wp_le (wp_asB ?_)
  by_cases q : a ≤ b
  · rw [if_pos (by simpa using q)]
    refine wp_bind (wp_c (wp_le ?_))
    rwa [show decide (a ≤ b ∧ b ≤ c) = decide (b ≤ c) by simp [q]] at zz
  · rw [if_neg (by simpa using q)]
    refine wp_ok ?_
    rwa [show decide (a ≤ b ∧ b ≤ c) = false by simp [q]] at zz
/-- a chain of two comparisons of whole numbers, the third a constant -/
theorem wp_chain_tt {c : Int} (p : Wp (fa sl h) (fun x h1 => Wp (fb sl h1) (fun y h2 => IsI x fun a => IsI y fun b => K (.bl (decide (a < b ∧ b < c))) h2) E) E) : Wp (eChain wLt wLt fa fb (eC (.int c)) sl h) K E := by
  refine wp_chain (wp_mono p (fun x h1 z => wp_mono z (fun y h2 ⟨a, e1, b, e2, zz⟩ => ?_) fun _ _ q => q) fun _ _ q => q)
  subst e1 e2
  have zz : K (.bl (decide (a < b ∧ b < c))) h2 := zz
  refine wp_lt (wp_asB ?_)
  by_cases q : a < b
  · rw [if_pos (by simpa using q)]
    refine wp_bind (wp_c (wp_lt ?_))
    rwa [show decide (a < b ∧ b < c) = decide (b < c) by simp [q]] at zz
  · rw [if_neg (by simpa using q)]
    refine wp_ok ?_
    rwa [show decide (a < b ∧ b < c) = false by simp [q]] at zz
theorem wp_pow {a b : Int} (e : 0 ≤ b ∧ b ≤ 1000000 ∧ a.natAbs < 2 ^ 64) (p : K (.int (a ^ b.toNat)) h) : Wp (wPow (.int a) (.int b) h) K E := wp_pos e p
theorem insOf_of {n k : Nat} {nm : Str} {ks : List Str} {ws : List W} (e : h.at_ n = some (.ins k ks ws)) (e2 : ks.contains nm = false) : insOf k nm (.box n) h = true := by
  unfold insOf
  simp only [e]
  rw [e2]
  simp
theorem wp_mulL {bx : Bool} {a : List W} {k : Int} (e : -(2 ^ 63) ≤ k ∧ k < 2 ^ 63 ∧ a.length * k.toNat ≤ sizeLine) (p : Wp (mkL bx (List.replicate k.toNat a).flatten h) K E) : Wp (wMul bx (.lst a) (.int k) h) K E := wp_pos (P := -(2 ^ 63) ≤ k ∧ k < 2 ^ 63 ∧ a.length * k.toNat ≤ sizeLine) e p
theorem wp_cut {bx : Bool} {lo hi : Px} (p : Wp (fa sl h) (fun x h1 => Wp (lo sl h1) (fun l h2 => Wp (hi sl h2) (fun u h3 => Wp (wCut bx x l u h3) K E) E) E) E) : Wp (eCut bx fa lo hi sl h) K E := wp_bind (wp_mono p (fun _ _ q => wp_bind (wp_mono q (fun _ _ q => wp_bind q) fun _ _ q => q)) fun _ _ q => q)
theorem wp_pno {K : Option Int → HS → Prop} (p : K none h) : Wp (pNo sl h) K E := p
theorem wp_psome {K : Option Int → HS → Prop} (p : Wp (fa sl h) (fun x h1 => IsI x fun i => K (some i) h1) E) : Wp (pSome fa sl h) K E := wp_bind (wp_mono p (fun _ _ ⟨_, e, q⟩ => by subst e; exact q) fun _ _ q => q)
theorem wp_cutScr {bx : Bool} {ns : List Int} {lo hi : Option Int} (p : Wp (mkL bx (cutW (ns.map W.int) lo hi) h) K E) : Wp (wCut bx (.scr ns) lo hi h) K E := p
theorem wp_cutL {bx : Bool} {ws : List W} {lo hi : Option Int} (p : Wp (mkL bx (cutW ws lo hi) h) K E) : Wp (wCut bx (.lst ws) lo hi h) K E := p
theorem wp_cutT {bx : Bool} {ws : List W} {lo hi : Option Int} (p : K (.tup (cutW ws lo hi)) h) : Wp (wCut bx (.tup ws) lo hi h) K E := p
def TvI (w : W) (P : List W → Prop) : Prop := ∃ ws, tview w = some ws ∧ P ws
theorem tvT {P : List W → Prop} {ws : List W} (p : P ws) : TvI (.tup ws) P := ⟨_, rfl, p⟩
theorem tvK {P : List W → Prop} {ws : List W} (p : P ws) : TvI (.kt ws) P := ⟨_, rfl, p⟩
theorem wp_zipL {bx : Bool} {fr : Ax} (p : Wp (fr sl h) (fun xs h1 => Is2 xs fun x y => TvI x fun a => TvI y fun b => Wp (mkL bx ((a.zip b).map fun p => .tup [p.1, p.2]) h1) K E) E) : Wp (eZipL bx fr sl h) K E :=
  wp_bind (wp_mono p (fun _ _ ⟨_, _, e, a, ea, b, eb, q⟩ => by subst e; dsimp only; rw [ea, eb]; exact q) fun _ _ q => q)
theorem wp_tupR {fr : Ax} (p : Wp (fr sl h) (fun xs h1 => Is3 xs fun a b c => IsI a fun i => IsI b fun j => IsI c fun c => (rgOk i j c = true ∧ rgN i j c ≤ 2 ^ 24) ∧ K (.tup (rItems i c (rgN i j c))) h1) E) : Wp (eTupR fr sl h) K E :=
  wp_bind (wp_mono p (fun _ _ ⟨_, _, _, e, _, e1, _, e2, _, e3, b, q⟩ => by subst e e1 e2 e3; exact wp_pos (by rw [b.1, decide_eq_true b.2]; rfl) q) fun _ _ q => q)
theorem wp_tyes {KT : Bool → HS → Prop} (p : KT true h) : Wp (tYesx sl h) KT E := p
theorem wp_len {ws : List W} (e : sview h x = some ws) (nx : ∀ z, x ≠ .str z) (p : K (.int ws.length) h) : Wp (m_len [x] h) K E := by
  unfold m_len
  split
  · rename_i z q
    exact absurd (List.cons.inj q).1 (nx _)
  · rename_i y q1 q
    cases q
    rw [e]
    exact p
  · rename_i q1 q
    exact absurd rfl (q _)
theorem wp_lenL {ws : List W} (p : K (.int ws.length) h) : Wp (m_len [.lst ws] h) K E := wp_len rfl (fun _ q => by cases q) p
theorem wp_lenT {ws : List W} (p : K (.int ws.length) h) : Wp (m_len [.tup ws] h) K E := wp_len rfl (fun _ q => by cases q) p
theorem wp_intI {i : Int} (p : K (.int i) h) : Wp (m_int [.int i] h) K E := p
theorem wp_intB {b : Bool} (p : K (.int (if b then 1 else 0)) h) : Wp (m_int [.bl b] h) K E := p
theorem wp_absI {i : Int} (p : K (.int (if i < 0 then -i else i)) h) : Wp (m_abs [.int i] h) K E := p
theorem wp_listT {ws : List W} (p : K (.lst ws) h) : Wp (m_list false [.tup ws] h) K E := p
theorem wp_listL {ws : List W} (p : K (.lst ws) h) : Wp (m_list false [.lst ws] h) K E := p
theorem wp_tupleL {ws : List W} (p : K (.tup ws) h) : Wp (m_tuple [.lst ws] h) K E := p
theorem wp_tupleT {ws : List W} (p : K (.tup ws) h) : Wp (m_tuple [.tup ws] h) K E := p
theorem intsOf_map (ns : List Int) : intsOf (ns.map W.int) = some ns := by
  induction ns with
  | nil => rfl
  | cons n ns ih => show (intsOf (ns.map W.int)).map (n :: ·) = _; rw [ih]; rfl
theorem wp_sumL {ns : List Int} (p : K (.int ns.sum) h) : Wp (m_sum [.lst (ns.map W.int)] h) K E := by
  unfold m_sum
  show Wp (match intsOf (ns.map W.int) with | some ns => R.ok (.int ns.sum) h | none => .no) K E
  rw [intsOf_map]
  exact p
/-! dicts with whole numbers as keys, whole numbers as values -/
def lookI : List (Int × Int) → Int → Option Int
  | [], _ => none
  | p :: l, x => if p.1 = x then some p.2 else lookI l x
def kI (p : Int × Int) : DK := .k (.inl p.1)
def vI (p : Int × Int) : W := .int p.2
theorem dlook_I (sg : List (Int × Int)) (x : Int) : dlook (sg.map kI) (sg.map vI) (.k (.inl x)) = (lookI sg x).map W.int := by
  induction sg with
  | nil => rfl
  | cons p l ih =>
    show (if kI p = DK.k (.inl x) then some (vI p) else dlook (l.map kI) (l.map vI) (.k (.inl x))) = (if p.1 = x then some p.2 else lookI l x).map W.int
    by_cases e : p.1 = x
    · rw [if_pos e, if_pos (by unfold kI; rw [e])]; rfl
    · rw [if_neg e, if_neg (by unfold kI; simp [e]), ih]
theorem all_sameI (sg : List (Int × Int)) (x : Int) : (sg.map kI).all (sameK (.k (.inl x))) = true := by
  rw [List.all_map, List.all_eq_true]; intro _ _; rfl
theorem dget_I {d : W} {sg : List (Int × Int)} (e : dview h d = some (sg.map kI, sg.map vI)) (x : Int) : dget h d (.int x) = some ((lookI sg x).map W.int) := by
  unfold dget
  rw [e]
  show (if (sg.map kI).all (sameK (.k (.inl x))) = true then some (dlook (sg.map kI) (sg.map vI) (.k (.inl x))) else none) = _
  rw [if_pos (all_sameI sg x), dlook_I]
end
end Pk
end

/-! Kp1 -/
section
set_option Elab.async false
set_option linter.all false
set_option maxRecDepth 100000
set_option maxHeartbeats 4000000
namespace K01
open PySem PySem.Spec L2 Pk
local macro_rules | `(tactic| walk_at "ev1") => `(tactic| with_reducible first
  | refine wp_var rfl ?_ | refine wp_c ?_ | refine wp_bin ?_ | refine wp_un ?_ | refine wp_asB ?_ | refine wp_tval ?_ | refine wp_chain_ll ?_ | refine wp_chain ?_ | refine wp_tand ?_ | refine wp_tor ?_ | refine wp_tnot ?_
  | refine wp_and ?_ | refine wp_or ?_ | refine wp_not ?_ | refine wp_if ?_ | refine wp_anil ?_ | refine wp_acons ?_ | refine wp_tup ?_ | refine wp_lst ?_ | refine wp_mkLf ?_ | refine wp_mkLt ?_ | refine wp_mkDf ?_ | refine wp_mkDt ?_
  | refine wp_add ?_ | refine wp_sub ?_ | refine wp_neg' ?_ | refine wp_kadd ?_ | refine wp_ksub ?_ | refine wp_lt ?_ | refine wp_le ?_ | refine wp_gt ?_ | refine wp_ge ?_ | refine wp_eqi ?_ | refine wp_nei ?_ | refine wp_eqs ?_ | refine wp_nes ?_ | refine wp_eqb ?_ | refine wp_neb ?_
  | refine wp_is ?_ | refine wp_isN ?_ | refine wp_callB ?_ | refine wp_call ?_ | refine wp_go rfl ?_ | refine wp_meth ?_ | refine wp_make ?_ | refine wp_told ?_ | refine wp_get2 ?_
  | refine ws_nil ?_ | refine ws_seq ?_ | refine ws_expr ?_ | refine ws_ret ?_ | refine ws_retN ?_ | refine ws_if ?_ | refine ws_raise ?_ | refine ws_asgN ?_ | refine ws_asg ?_ | refine gp_n ?_ | refine gp_tup rfl ?_ | refine gp_cons ?_ | refine gp_nil ?_
  | refine ws_par ?_ | refine ws_par3 ?_ | refine ws_aug rfl ?_ | refine ws_fld ?_ | refine ws_sub ?_ | refine ws_del ?_ | refine ws_for ?_ | refine wp_lc ?_ | refine ip_seq ?_ | refine ip_r1 ?_ | refine ip_r2 ?_ | refine ip_r3 ?_
  | refine wp_tyes ?_ | refine wp_lenL ?_ | refine wp_lenT ?_ | refine wp_intI ?_ | refine wp_intB ?_ | refine wp_absI ?_ | refine wp_listT ?_ | refine wp_listL ?_ | refine wp_tupleL ?_ | refine wp_tupleT ?_ | refine wp_sumL ?_ | refine wp_any ?_ | refine wp_all ?_ | refine wp_sumG ?_ | refine wp_tupG ?_ | refine wp_bind ?_ | refine is1 ?_ | refine is2 ?_ | refine is3 ?_ | refine isI ?_ | refine isS ?_ | refine svL ?_ | refine svT ?_ | refine svK ?_ | refine lvL ?_ | refine ip_enum ?_ | refine ip_txt ?_)
local macro_rules | `(tactic| walk_at "ev") => `(tactic| repeat walk_at "ev1")

theorem week_day_eq {d : Int} {h : HS} : f_week_day [.int d] h = if 0 ≤ d ∧ d ≤ 20000 then .ok (.int (d % 7)) h else .exc 1 h := by
  refine eq_wp (wp_body ?_)
  unfold b_week_day
  walk_at "ev"
  by_cases q : 0 ≤ d ∧ d ≤ 20000
  · refine ws_neg (by simp [q]) ?_
    walk_at "ev"
    refine wp_mod (by decide) ?_
    rw [if_pos q]
  · refine ws_pos (by simp [q]) ?_
    walk_at "ev"
    rw [if_neg q]
/-- hours of a day -/
def hoursOf (hs : List Int) (sg : List (Int × Int)) (d : Int) : Int := (lookI sg d).getD (hs.getD (d % 7).toNat 0)
structure Cal (h : HS) (c d : Nat) (hw : W) (hs : List Int) (sg : List (Int × Int)) : Prop where
  ins : h.at_ c = some (.ins 2 ["hours", "single"] [hw, .box d])
  hv : tview hw = some (hs.map W.int)
  dic : h.at_ d = some (.dic (sg.map kI) (sg.map vI))
  len : hs.length = 7
theorem tview_s {h : HS} {w : W} {ws : List W} (e : tview w = some ws) : sview h w = some ws := by
  cases w <;> first | exact e | cases e
theorem tview_nx {w : W} {ws : List W} (e : tview w = some ws) : ∀ z, w ≠ .str z := by
  intro z q; rw [q] at e; cases e
theorem atI_map {ns : List Int} {i : Int} (h0 : 0 ≤ i) (h1 : i < ns.length) : atI (ns.map W.int) i = some (.int (ns.getD i.toNat 0)) := by
  unfold atI ixN
  rw [if_pos h0, List.length_map, if_pos h1]
  show (ns.map W.int)[i.toNat]? = _
  rw [List.getElem?_map, List.getElem?_eq_getElem (by omega)]
  simp [List.getD, List.getElem?_eq_getElem (show i.toNat < ns.length by omega)]
theorem on_eq {h : HS} {c d0 : Nat} {hw : W} {hs : List Int} {sg : List (Int × Int)} (C : Cal h c d0 hw hs sg) {d : Int} : f_Calendar_on [.box c, .int d] h = if 0 ≤ d ∧ d ≤ 20000 then .ok (.int (hoursOf hs sg d)) h else .exc 1 h := by
  refine eq_wp (wp_body ?_)
  unfold b_Calendar_on
  walk_at "ev"
  refine wp_fld C.ins rfl rfl ?_
  refine ⟨⟨_, dview_box C.dic⟩, ?_⟩
  walk_at "ev"
  refine wp_fld C.ins rfl rfl ?_
  walk_at "ev"
  refine wp_eq week_day_eq ?_
  by_cases q : 0 ≤ d ∧ d ≤ 20000
  · rw [if_pos q, if_pos q]
    have := C.len
    refine wp_ok (wp_ixL (tview_s C.hv) (tview_nx C.hv) (atI_map (by omega) (by omega)) ?_)
    refine ⟨_, dget_I (dview_box C.dic) d, ?_⟩
    unfold hoursOf
    cases lookI sg d <;> rfl
  · rw [if_neg q, if_neg q]
    exact rfl
variable {h : HS} {c d0 : Nat} {hw : W} {hs : List Int} {sg : List (Int × Int)}
def IsNext (f : Int → Int) (d e : Int) : Prop := d ≤ e ∧ f e ≠ 0 ∧ ∀ x, d ≤ x → x < e → f x = 0
theorem Cal.insOf (C : Cal h c d0 hw hs sg) {nm : Str} (e : (["hours", "single"] : List Str).contains nm = false) : insOf 2 nm (.box c) h = true := insOf_of C.ins e
theorem next_eq (C : Cal h c d0 hw hs sg) {d e : Int} (n : IsNext (hoursOf hs sg) d e) (hd : 0 ≤ d) (he : e ≤ 20000) : f_Calendar_next_worked [.box c, .int d] h = .ok (.int e) h := by
  obtain ⟨n1, n2, n3⟩ := n
  refine eq_wp (wp_body ?_)
  unfold b_Calendar_next_worked
  refine ws_seq (ws_while (fun m sl h' => ∃ x : Int, sl = [some (.box c), some (.int x)] ∧ h' = h ∧ d ≤ x ∧ x ≤ e ∧ m = (e - x).toNat) (e - d).toNat ⟨d, rfl, rfl, Int.le_refl _, n1, rfl⟩ (by unfold fuel; omega) ?_)
  rintro m sl h' ⟨x, rfl, rfl, x1, x2, rfl⟩
  walk_at "ev"
  refine ⟨C.insOf rfl, ?_⟩
  walk_at "ev"
  refine wp_eq (on_eq C) ?_
  rw [if_pos (by omega)]
  walk_at "ev"
  refine wp_ok ?_
  walk_at "ev"
  refine ⟨fun q => ?_, fun q => ?_⟩
  · have q : hoursOf hs sg x = 0 := by simpa using q
    have xe : x ≠ e := fun z => n2 (by rw [← z]; exact q)
    refine ⟨(e - (x + 1)).toNat, by omega, ?_⟩
    walk_at "ev"
    exact ⟨x + 1, rfl, rfl, by omega, by omega, rfl⟩
  · have q : ¬ hoursOf hs sg x = 0 := by simpa using q
    have xe : x = e := by
      rcases Int.lt_or_eq_of_le x2 with z | z
      · exact absurd (n3 x x1 z) q
      · exact z
    subst xe
    walk_at "ev"
    rfl
theorem gap {f : Int → Int} {B : Int} (hB : 0 ≤ B) (hf : ∀ d, B ≤ d → d % 7 = 6 → f d ≠ 0) {d : Int} (hd : 0 ≤ d) : ∃ e, IsNext f d e ∧ e ≤ max d B + 6 := by
  have key : ∀ (n : Nat) (x : Int), 0 ≤ x → (∀ y, d ≤ y → y < x → f y = 0) → d ≤ x → (∃ z, x ≤ z ∧ z ≤ x + n ∧ f z ≠ 0) → ∃ e, IsNext f d e ∧ e ≤ x + n := by
    intro n
    induction n with
    | zero =>
      rintro x h0 h1 h2 ⟨z, z1, z2, z3⟩
      have : z = x := by omega
      subst this
      exact ⟨z, ⟨h2, z3, h1⟩, by omega⟩
    | succ n ih =>
      rintro x h0 h1 h2 ⟨z, z1, z2, z3⟩
      by_cases q : f x = 0
      · have zx : z ≠ x := fun e => z3 (by rw [e]; exact q)
        obtain ⟨e, e1, e2⟩ := ih (x + 1) (by omega) (fun y y1 y2 => by
          by_cases yx : y = x
          · rw [yx]; exact q
          · exact h1 y y1 (by omega)) (by omega) ⟨z, by omega, by omega, z3⟩
        exact ⟨e, e1, by omega⟩
      · exact ⟨x, ⟨h2, q, h1⟩, by omega⟩
  have hm : ∃ z, max d B ≤ z ∧ z ≤ max d B + 6 ∧ z % 7 = 6 := by
    refine ⟨max d B + (6 - max d B % 7), ?_, ?_, ?_⟩ <;> omega
  obtain ⟨z, z1, z2, z3⟩ := hm
  obtain ⟨e, e1, e2⟩ := key (z - d).toNat d hd (fun y y1 y2 => by omega) (Int.le_refl _) ⟨z, by omega, by omega, hf z (by omega) z3⟩
  exact ⟨e, e1, by omega⟩
theorem IsNext.uniq {f : Int → Int} {d e e' : Int} (a : IsNext f d e) (b : IsNext f d e') : e = e' := by
  obtain ⟨a1, a2, a3⟩ := a
  obtain ⟨b1, b2, b3⟩ := b
  rcases Int.lt_trichotomy e e' with q | q | q
  · exact absurd (b3 e a1 q) a2
  · exact q
  · exact absurd (a3 e' b1 q) b2
/-- the day that is worked next -/
def nxt (f : Int → Int) : Nat → Int → Int
  | 0, d => d
  | n + 1, d => if f d = 0 then nxt f n (d + 1) else d
theorem nxt_is {f : Int → Int} : ∀ (n : Nat) (d e : Int), IsNext f d e → e ≤ d + n → nxt f n d = e
  | 0, d, e, a, h => by
    have := a.1
    show d = e
    omega
  | n + 1, d, e, a, h => by
    unfold nxt
    obtain ⟨a1, a2, a3⟩ := a
    by_cases q : f d = 0
    · rw [if_pos q]
      have de : d ≠ e := fun z => a2 (by rw [← z]; exact q)
      exact nxt_is n (d + 1) e ⟨by omega, a2, fun x x1 x2 => a3 x (by omega) x2⟩ (by omega)
    · rw [if_neg q]
      rcases Int.lt_or_eq_of_le a1 with z | z
      · exact absurd (a3 d (Int.le_refl _) z) q
      · exact z
/-- what is asked of the hours: none below 0, 25 at most, days from 40 on as the week says -/
structure Hr (f : Int → Int) : Prop where
  lo : ∀ d, 0 ≤ f d
  hi : ∀ d, f d ≤ 24
  wk : ∀ d, 40 ≤ d → d % 7 = 6 → f d ≠ 0
def nx (f : Int → Int) (d : Int) : Int := nxt f 64 d
theorem Hr.nx {f : Int → Int} (H : Hr f) {d : Int} (hd : 0 ≤ d) : IsNext f d (nx f d) ∧ nx f d ≤ max d 40 + 6 := by
  obtain ⟨e, e1, e2⟩ := gap (B := 40) (by omega) H.wk hd
  have : K01.nx f d = e := nxt_is 64 d e e1 (by omega)
  rw [this]
  exact ⟨e1, e2⟩
theorem nx_here {f : Int → Int} {d : Int} (h : f d ≠ 0) : nx f d = d := by
  unfold nx nxt; rw [if_neg h]
theorem Hr.nx_skip {f : Int → Int} (H : Hr f) {d : Int} (hd : 0 ≤ d) (h : f d = 0) : K01.nx f d = K01.nx f (d + 1) := by
  obtain ⟨⟨a1, a2, a3⟩, _⟩ := H.nx hd
  obtain ⟨b, _⟩ := H.nx (d := d + 1) (by omega)
  have : K01.nx f d ≠ d := fun z => a2 (by rw [z]; exact h)
  exact IsNext.uniq (d := d + 1) ⟨by omega, a2, fun x x1 x2 => a3 x (by omega) x2⟩ b
/-- the worked day, k worked days behind the first one -/
def aft (f : Int → Int) (d : Int) : Nat → Int
  | 0 => nx f d
  | k + 1 => nx f (aft f d k + 1)
theorem Hr.aft {f : Int → Int} (H : Hr f) {d : Int} (hd : 0 ≤ d) : ∀ k : Nat, d ≤ K01.aft f d k ∧ K01.aft f d k ≤ max d 40 + 6 + 47 * k
  | 0 => by
    obtain ⟨⟨a1, _⟩, a2⟩ := H.nx hd
    unfold K01.aft
    omega
  | k + 1 => by
    obtain ⟨i1, i2⟩ := H.aft hd k
    obtain ⟨⟨a1, _⟩, a2⟩ := H.nx (d := K01.aft f d k + 1) (by omega)
    unfold K01.aft
    omega
theorem after_eq (C : Cal h c d0 hw hs sg) (H : Hr (hoursOf hs sg)) {d many : Int} (hd : 0 ≤ d) (hd2 : d ≤ 100) (hm : 0 ≤ many) (hm2 : many ≤ 100) : f_Calendar_after [.box c, .int d, .int many] h = .ok (.int (aft (hoursOf hs sg) d many.toNat)) h := by
  refine eq_wp (wp_body ?_)
  unfold b_Calendar_after
  walk_at "ev"
  refine ws_neg (by simpa using hm) ?_
  walk_at "ev"
  refine ⟨C.insOf rfl, ?_⟩
  walk_at "ev"
  obtain ⟨n1, n2⟩ := H.nx hd
  refine wp_eq (next_eq C n1 hd (by omega)) ?_
  refine wp_ok ?_
  walk_at "ev"
  refine ⟨by omega, ?_⟩
  refine ws_forL (fun i sl h' => h' = h ∧ ∃ t, sl = [some (.box c), some (.int d), some (.int many), some (.int (aft (hoursOf hs sg) d i)), t]) ⟨rfl, none, rfl⟩ (fun _ _ _ _ _ => rfl) ?_ ?_
  · rintro i w sl h' e ⟨rfl, t, rfl⟩
    have hi := (List.getElem?_eq_some_iff.mp e).1
    simp only [rItems, List.length_map, List.length_range] at hi
    walk_at "ev"
    refine ⟨C.insOf rfl, ?_⟩
    walk_at "ev"
    obtain ⟨a1, a2⟩ := H.aft hd i
    obtain ⟨n1, n2⟩ := H.nx (d := aft (hoursOf hs sg) d i + 1) (by omega)
    refine wp_eq (next_eq C n1 (by omega) (by omega)) ?_
    refine wp_ok ?_
    exact ⟨rfl, _, rfl⟩
  · rintro sl h' ⟨rfl, t, rfl⟩
    walk_at "ev"
    simp only [rItems, List.length_map, List.length_range]
end K01
end

/-! Kp3 -/
section
set_option Elab.async false
set_option linter.all false
set_option maxRecDepth 100000
set_option maxHeartbeats 4000000
namespace K01
open PySem PySem.Spec L2 Pk
local macro_rules | `(tactic| walk_at "ev1") => `(tactic| with_reducible first
  | refine wp_var rfl ?_ | refine wp_c ?_ | refine wp_bin ?_ | refine wp_un ?_ | refine wp_asB ?_ | refine wp_tval ?_ | refine wp_chain_ll ?_ | refine wp_chain ?_ | refine wp_tand ?_ | refine wp_tor ?_ | refine wp_tnot ?_
  | refine wp_and ?_ | refine wp_or ?_ | refine wp_not ?_ | refine wp_if ?_ | refine wp_anil ?_ | refine wp_acons ?_ | refine wp_tup ?_ | refine wp_lst ?_ | refine wp_mkLf ?_ | refine wp_mkLt ?_ | refine wp_mkDf ?_ | refine wp_mkDt ?_
  | refine wp_add ?_ | refine wp_sub ?_ | refine wp_neg' ?_ | refine wp_kadd ?_ | refine wp_ksub ?_ | refine wp_lt ?_ | refine wp_le ?_ | refine wp_gt ?_ | refine wp_ge ?_ | refine wp_eqi ?_ | refine wp_nei ?_ | refine wp_eqs ?_ | refine wp_nes ?_ | refine wp_eqb ?_ | refine wp_neb ?_
  | refine wp_is ?_ | refine wp_isN ?_ | refine wp_callB ?_ | refine wp_call ?_ | refine wp_go rfl ?_ | refine wp_meth ?_ | refine wp_make ?_ | refine wp_told ?_ | refine wp_get2 ?_
  | refine ws_nil ?_ | refine ws_seq ?_ | refine ws_expr ?_ | refine ws_ret ?_ | refine ws_retN ?_ | refine ws_if ?_ | refine ws_raise ?_ | refine ws_asgN ?_ | refine ws_asg ?_ | refine gp_n ?_ | refine gp_tup rfl ?_ | refine gp_cons ?_ | refine gp_nil ?_
  | refine ws_par ?_ | refine ws_par3 ?_ | refine ws_aug rfl ?_ | refine ws_fld ?_ | refine ws_sub ?_ | refine ws_del ?_ | refine ws_for ?_ | refine wp_lc ?_ | refine ip_seq ?_ | refine ip_r1 ?_ | refine ip_r2 ?_ | refine ip_r3 ?_
  | refine wp_tyes ?_ | refine wp_lenL ?_ | refine wp_lenT ?_ | refine wp_intI ?_ | refine wp_intB ?_ | refine wp_absI ?_ | refine wp_listT ?_ | refine wp_listL ?_ | refine wp_tupleL ?_ | refine wp_tupleT ?_ | refine wp_sumL ?_ | refine wp_any ?_ | refine wp_all ?_ | refine wp_sumG ?_ | refine wp_tupG ?_ | refine wp_bind ?_ | refine is1 ?_ | refine is2 ?_ | refine is3 ?_ | refine isI ?_ | refine isS ?_ | refine svL ?_ | refine svT ?_ | refine svK ?_ | refine lvL ?_ | refine ip_enum ?_ | refine ip_txt ?_)
local macro_rules | `(tactic| walk_at "ev") => `(tactic| repeat walk_at "ev1")
variable {h : HS} {c d0 : Nat} {hw : W} {hs : List Int} {sg : List (Int × Int)}
/-- one day's hours, as an element -/
theorem on_wp (C : Cal h c d0 hw hs sg) {d : Int} (hd : 0 ≤ d ∧ d ≤ 20000) {K : W → HS → Prop} {E : Nat → HS → Prop} (p : K (.int (hoursOf hs sg d)) h) : Wp (f_Calendar_on [.box c, .int d] h) K E :=
  wp_eq (on_eq C) (by rw [if_pos hd]; exact p)
theorem between_eq (C : Cal h c d0 hw hs sg) {d e : Int} (hd : 0 ≤ d) (he : e ≤ 100) (hd2 : d ≤ 100) : f_Calendar_between [.box c, .int d, .int e] h = if e < d then .exc 1 h else .ok (.int ((iota d (e - d).toNat).filter (fun x => decide (0 < hoursOf hs sg x))).length) h := by
  refine eq_wp (wp_body ?_)
  unfold b_Calendar_between
  walk_at "ev"
  by_cases q : e < d
  · refine ws_pos (by simpa using q) ?_
    walk_at "ev"
    rw [if_pos q]
  refine ws_neg (by simpa using q) ?_
  walk_at "ev"
  refine wp_eq week_day_eq ?_
  rw [if_pos (by omega)]
  refine wp_ok ?_
  walk_at "ev"
  refine ⟨by omega, ?_⟩
  rw [rItems_one]
  refine wp_lcI (fun x => decide (0 < hoursOf hs sg x)) (fun _ => .int 1) (by rw [iota_length]; unfold sizeLine; omega) rfl (fun n hn => ?_) ?_
  · have hn := mem_iota.mp hn
    walk_at "ev"
    refine ⟨C.insOf rfl, ?_⟩
    walk_at "ev"
    refine on_wp C (by omega) ?_
    walk_at "ev"
    exact ⟨rfl, fun _ => wp_c ⟨rfl, rfl⟩, rfl⟩
  · walk_at "ev"
    rw [if_neg q, List.length_map]
theorem hours_between_eq (C : Cal h c d0 hw hs sg) (H : Hr (hoursOf hs sg)) {d e : Int} (hd : 0 ≤ d) (he : e ≤ 100) (hd2 : d ≤ 100) : f_Calendar_hours_between [.box c, .int d, .int e] h = if e < d then .exc 1 h else .ok (.int ((iota d (e - d).toNat).map (hoursOf hs sg)).sum) h := by
  refine eq_wp (wp_body ?_)
  unfold b_Calendar_hours_between
  walk_at "ev"
  refine ⟨C.insOf rfl, ?_⟩
  walk_at "ev"
  refine wp_eq (between_eq C hd he hd2) ?_
  by_cases q : e < d
  · rw [if_pos q, if_pos q]
    exact rfl
  rw [if_neg q, if_neg q]
  refine wp_ok ?_
  walk_at "ev"
  refine ⟨by omega, ?_⟩
  rw [rItems_one]
  refine wp_sumI (fun _ => true) (hoursOf hs sg) (by rw [iota_length]; omega) (fun n _ => ⟨H.lo n, by have := H.hi n; omega⟩) rfl (fun n hn => ?_) ?_
  · have hn := mem_iota.mp hn
    unfold El
    walk_at "ev"
    refine ⟨rfl, rfl, fun _ => ?_⟩
    walk_at "ev"
    refine ⟨C.insOf rfl, ?_⟩
    walk_at "ev"
    exact on_wp C (by omega) ⟨rfl, rfl⟩
  · rw [List.filter_eq_self.mpr (fun _ _ => rfl)]
theorem row_eq (C : Cal h c d0 hw hs sg) {d m : Int} (hd : 0 ≤ d) (hm : 0 ≤ m) (hm2 : m ≤ 100) (hd2 : d ≤ 100) : f_Calendar_row [.box c, .int d, .int m] h = .ok (.tup ((iota d m.toNat).map fun x => .int (hoursOf hs sg x))) h := by
  refine eq_wp (wp_body ?_)
  unfold b_Calendar_row
  walk_at "ev"
  refine wp_eq week_day_eq ?_
  rw [if_pos (by omega)]
  refine wp_ok ?_
  walk_at "ev"
  refine ws_neg (by simpa using hm) ?_
  walk_at "ev"
  refine ⟨by omega, ?_⟩
  rw [rItems_one, show (d + m - d).toNat = m.toNat by congr 1; omega]
  refine wp_tupI (fun _ => true) (fun x => .int (hoursOf hs sg x)) (by rw [iota_length]; unfold sizeLine; omega) rfl (fun n hn => ?_) ?_
  · have hn := mem_iota.mp hn
    unfold El
    walk_at "ev"
    refine ⟨rfl, rfl, fun _ => ?_⟩
    walk_at "ev"
    refine ⟨C.insOf rfl, ?_⟩
    walk_at "ev"
    exact on_wp C (by omega) ⟨rfl, rfl⟩
  · rw [List.filter_eq_self.mpr (fun _ _ => rfl)]
/-- a text, a day, nothing -/
def optW : Option Int → W
  | some x => .int x
  | none => .non
theorem worked_ahead_eq (C : Cal h c d0 hw hs sg) {d : Int} (hd : 0 ≤ d) (hd2 : d ≤ 100) : f_Calendar_worked_ahead [.box c, .int d] h = .ok (optW ((iota 0 d.toNat).filter (fun x => decide (0 < hoursOf hs sg x))).getLast?) h := by
  refine eq_wp (wp_body ?_)
  unfold b_Calendar_worked_ahead
  walk_at "ev"
  refine wp_eq week_day_eq ?_
  rw [if_pos (by omega)]
  refine wp_ok ?_
  walk_at "ev"
  rw [show (0 - 1 : Int) = -1 from rfl]
  have rn : rgN (d - 1) (-1) (-1) = d.toNat := by
    unfold rgN Builtin.Range.rangeSize
    rw [if_neg (by decide), show (- -1 : Int) = 1 from rfl, Int.ediv_one]
    split <;> omega
  refine ⟨?_, ?_⟩
  · exact rgOk_of (by decide) (by omega) (by omega) (by omega) (by omega) (by omega) (by omega)
  rw [rn]
  refine ws_forL (fun i sl h' => h' = h ∧ (∃ t, sl = [some (.box c), some (.int d), t]) ∧ ∀ x, d - i ≤ x → x < d → ¬ 0 < hoursOf hs sg x) ⟨rfl, ⟨none, rfl⟩, fun x x1 x2 => by omega⟩ (fun _ _ _ _ _ => rfl) ?_ ?_
  · rintro i w sl h' e ⟨rfl, ⟨t, rfl⟩, hq⟩
    have hi := (List.getElem?_eq_some_iff.mp e)
    simp only [rItems, List.length_map, List.length_range, List.getElem_map, List.getElem_range] at hi
    obtain ⟨hi, rfl⟩ := hi
    walk_at "ev"
    refine ⟨C.insOf rfl, ?_⟩
    walk_at "ev"
    refine on_wp C (by omega) ?_
    walk_at "ev"
    by_cases q : 0 < hoursOf hs sg (d - 1 + i * -1)
    · refine ws_pos (by simpa using q) ?_
      walk_at "ev"
      have sp : iota 0 d.toNat = iota 0 (d.toNat - i - 1) ++ (d - 1 + i * -1) :: iota (d - i) i := by
        rw [iota_append 0 (d.toNat - i - 1) (i + 1) d.toNat (by omega), iota_cons]
        congr 2
        · omega
        · congr 1; omega
      have e2 : (iota (d - i) i).filter (fun x => decide (0 < hoursOf hs sg x)) = [] := List.filter_eq_nil_iff.mpr fun x hx => by
        have hx := mem_iota.mp hx
        simpa using hq x (by omega) (by omega)
      rw [sp, List.filter_append, List.filter_cons_of_pos (by simpa using q), e2, List.getLast?_append]
      rfl
    · refine ws_neg (by simpa using q) ?_
      walk_at "ev"
      refine ⟨rfl, ⟨_, rfl⟩, fun x x1 x2 => ?_⟩
      by_cases xe : x = d - 1 + i * -1
      · rw [xe]; exact q
      · exact hq x (by omega) x2
  · rintro sl h' ⟨rfl, ⟨t, rfl⟩, hq⟩
    walk_at "ev"
    simp only [rItems, List.length_map, List.length_range] at hq
    rw [List.filter_eq_nil_iff.mpr]
    · rfl
    · intro x hx
      have hx := mem_iota.mp hx
      simpa using hq x (by omega) (by omega)

def doneL (f : Int → Int) : List Int → Int → Option (Int × Int)
  | [], _ => none
  | x :: l, t => if t ≤ f x then some (x, f x - t) else doneL f l (t - f x)
/-- the first so many worked days from a day on -/
def wk (f : Int → Int) : Nat → Int → List Int
  | 0, _ => []
  | n + 1, d => nx f d :: wk f n (nx f d + 1)
theorem wk_length (f : Int → Int) : ∀ (n : Nat) (d : Int), (wk f n d).length = n
  | 0, _ => rfl
  | n + 1, d => by unfold wk; rw [List.length_cons, wk_length f n]
theorem wk_last {f : Int → Int} : ∀ (n : Nat) (d : Int), (wk f (n + 1) d)[n]? = some (aft f d n)
  | 0, d => rfl
  | n + 1, d => by
    have : ∀ (k : Nat) (d : Int), aft f (nx f d + 1) k = aft f d (k + 1) := by
      intro k
      induction k with
      | zero => intro d; rfl
      | succ k ih => intro d; show nx f (aft f (nx f d + 1) k + 1) = _; rw [ih]; rfl
    show (nx f d :: wk f (n + 1) (nx f d + 1))[n + 1]? = _
    rw [List.getElem?_cons_succ, wk_last n, this]
def pairW : Int × Int → W
  | (a, b) => .tup [.int a, .int b]
theorem done_on_eq (C : Cal h c d0 hw hs sg) (H : Hr (hoursOf hs sg)) {d t : Int} (hd : 0 ≤ d) (hd2 : d ≤ 100) (ht : 0 ≤ t) (ht2 : t < 120) : ∃ p, doneL (hoursOf hs sg) (wk (hoursOf hs sg) 400 d) t = some p ∧ f_Calendar_done_on [.box c, .int d, .int t] h = .ok (pairW p) h := by
  suffices z : Wp (f_Calendar_done_on [.box c, .int d, .int t] h) (fun w h' => ∃ p, doneL (hoursOf hs sg) (wk (hoursOf hs sg) 400 d) t = some p ∧ w = pairW p ∧ h' = h) (fun _ _ => False) by
    unfold Wp at z
    split at z
    · rename_i e
      obtain ⟨p, z1, rfl, rfl⟩ := z
      exact ⟨p, z1, e⟩
    · exact z.elim
    · exact z.elim
  refine wp_body ?_
  unfold b_Calendar_done_on
  walk_at "ev"
  refine ws_neg (by simpa using ht) ?_
  walk_at "ev"
  refine ⟨C.insOf rfl, ?_⟩
  walk_at "ev"
  obtain ⟨n1, n2⟩ := H.nx hd
  refine wp_eq (next_eq C n1 hd (by omega)) ?_
  refine wp_ok ?_
  refine ws_seq ?_
  refine ws_while (fun n sl h' => h' = h ∧ ∃ (x u : Int) (k : Nat), sl = [some (.box c), some (.int d), some (.int u), some (.int x)] ∧ 0 ≤ u ∧ u + 280 ≤ k ∧ n = k ∧ d ≤ x ∧ x ≤ 106 + 47 * (399 - k) ∧ k ≤ 399 ∧ hoursOf hs sg x ≠ 0 ∧ doneL (hoursOf hs sg) (x :: wk (hoursOf hs sg) k (x + 1)) u = doneL (hoursOf hs sg) (wk (hoursOf hs sg) 400 d) t) 399 ⟨rfl, _, _, 399, rfl, ht, by omega, rfl, n1.1, by omega, Nat.le_refl _, n1.2.1, rfl⟩ (by unfold fuel; omega) ?_
  rintro m sl h' ⟨rfl, x, u, k, rfl, u0, uk, rfl, x0, x1, k1, fx, eq⟩
  walk_at "ev"
  refine ⟨C.insOf rfl, ?_⟩
  walk_at "ev"
  refine on_wp C (by omega) ?_
  walk_at "ev"
  have fx0 := H.lo x
  refine ⟨fun q => ?_, fun q => ?_⟩
  · have q : hoursOf hs sg x < u := by simpa using q
    obtain ⟨k, rfl⟩ : ∃ k', m = k' + 1 := ⟨m - 1, by omega⟩
    refine ⟨k, rfl, ?_⟩
    walk_at "ev"
    refine ⟨C.insOf rfl, ?_⟩
    walk_at "ev"
    refine on_wp C (by omega) ?_
    walk_at "ev"
    refine ⟨C.insOf rfl, ?_⟩
    walk_at "ev"
    obtain ⟨m1, m2⟩ := H.nx (d := x + 1) (by omega)
    refine wp_eq (next_eq C m1 (by omega) (by omega)) ?_
    refine wp_ok ?_
    refine ⟨rfl, nx (hoursOf hs sg) (x + 1), u - hoursOf hs sg x, k, rfl, by omega, by omega, rfl, by have := m1.1; omega, by omega, by omega, m1.2.1, ?_⟩
    rw [← eq]
    conv => rhs; unfold doneL
    rw [if_neg (by omega)]
    rfl
  · have q : ¬ hoursOf hs sg x < u := by simpa using q
    walk_at "ev"
    refine ⟨C.insOf rfl, ?_⟩
    walk_at "ev"
    refine on_wp C (by omega) ?_
    walk_at "ev"
    refine wp_sz (by simp [sizeLine]) ?_
    refine ⟨(x, hoursOf hs sg x - u), ?_, rfl, rfl⟩
    rw [← eq]
    unfold doneL
    rw [if_pos (by omega)]

end K01
end

/-! Kp4 -/
section
set_option Elab.async false
set_option linter.all false
set_option maxRecDepth 100000
set_option maxHeartbeats 4000000
namespace K01
open PySem PySem.Spec L2 Pk
local macro_rules | `(tactic| walk_at "ev1") => `(tactic| with_reducible first
  | refine wp_var rfl ?_ | refine wp_c ?_ | refine wp_bin ?_ | refine wp_un ?_ | refine wp_asB ?_ | refine wp_tval ?_ | refine wp_chain_ll ?_ | refine wp_chain ?_ | refine wp_tand ?_ | refine wp_tor ?_ | refine wp_tnot ?_
  | refine wp_and ?_ | refine wp_or ?_ | refine wp_not ?_ | refine wp_if ?_ | refine wp_anil ?_ | refine wp_acons ?_ | refine wp_tup ?_ | refine wp_lst ?_ | refine wp_mkLf ?_ | refine wp_mkLt ?_ | refine wp_mkDf ?_ | refine wp_mkDt ?_
  | refine wp_add ?_ | refine wp_sub ?_ | refine wp_neg' ?_ | refine wp_kadd ?_ | refine wp_ksub ?_ | refine wp_lt ?_ | refine wp_le ?_ | refine wp_gt ?_ | refine wp_ge ?_ | refine wp_eqi ?_ | refine wp_nei ?_ | refine wp_eqs ?_ | refine wp_nes ?_ | refine wp_eqb ?_ | refine wp_neb ?_
  | refine wp_is ?_ | refine wp_isN ?_ | refine wp_callB ?_ | refine wp_call ?_ | refine wp_go rfl ?_ | refine wp_meth ?_ | refine wp_make ?_ | refine wp_told ?_ | refine wp_get2 ?_
  | refine ws_nil ?_ | refine ws_seq ?_ | refine ws_expr ?_ | refine ws_ret ?_ | refine ws_retN ?_ | refine ws_if ?_ | refine ws_raise ?_ | refine ws_asgN ?_ | refine ws_asg ?_ | refine gp_n ?_ | refine gp_tup rfl ?_ | refine gp_cons ?_ | refine gp_nil ?_
  | refine ws_par ?_ | refine ws_par3 ?_ | refine ws_aug rfl ?_ | refine ws_fld ?_ | refine ws_sub ?_ | refine ws_del ?_ | refine ws_for ?_ | refine wp_lc ?_ | refine ip_seq ?_ | refine ip_r1 ?_ | refine ip_r2 ?_ | refine ip_r3 ?_
  | refine wp_tyes ?_ | refine wp_lenL ?_ | refine wp_lenT ?_ | refine wp_intI ?_ | refine wp_intB ?_ | refine wp_absI ?_ | refine wp_listT ?_ | refine wp_listL ?_ | refine wp_tupleL ?_ | refine wp_tupleT ?_ | refine wp_sumL ?_ | refine wp_any ?_ | refine wp_all ?_ | refine wp_sumG ?_ | refine wp_tupG ?_ | refine wp_bind ?_ | refine is1 ?_ | refine is2 ?_ | refine is3 ?_ | refine isI ?_ | refine isS ?_ | refine svL ?_ | refine svT ?_ | refine svK ?_ | refine lvL ?_ | refine ip_enum ?_ | refine ip_txt ?_)
local macro_rules | `(tactic| walk_at "ev") => `(tactic| repeat walk_at "ev1")
variable {h : HS} {c d0 o : Nat} {hw : W} {hs : List Int} {sg : List (Int × Int)}
theorem dget_str {h : HS} {n : Nat} {ks : List DK} {ws : List W} {x : Str} {r : Option W} (e : h.at_ n = some (.dic ks ws)) (e2 : (if ks.all (sameK (.k (.inr x))) = true then some (dlook ks ws (.k (.inr x))) else none) = some r) : dget h (.box n) (.str x) = some r := by
  unfold dget
  rw [dview_box e]
  exact e2
structure Own (h : HS) (o : Nat) (hs : List Int) (sg : List (Int × Int)) : Prop where
  at_ : h.at_ o = some (.dic [.k (.inr "hours"), .k (.inr "single")] [.lst (hs.map W.int), .dic (sg.map kI) (sg.map vI)])
  len : hs.length = 7
theorem Own.hours (O : Own h o hs sg) : dget h (.box o) (.str "hours") = some (some (.lst (hs.map W.int))) := dget_str O.at_ (by kernel_rfl)
theorem Own.single (O : Own h o hs sg) : dget h (.box o) (.str "single") = some (some (.dic (sg.map kI) (sg.map vI))) := dget_str O.at_ (by kernel_rfl)
theorem wp_own {k : Str} {w : W} {K : W → HS → Prop} {E : Nat → HS → Prop} (O : Own h o hs sg) (e : dget h (.box o) (.str k) = some (some w)) (p : K w h) : Wp (wIx (.box o) (.str k) h) K E :=
  wp_ixD (by rw [dview_box O.at_]; simp) (sview_box O.at_) (fun _ q => by cases q) e p
theorem law_hours_eq (O : Own h o hs sg) {d : Int} (hd : 0 ≤ d) : f__law_hours [.box o, .int d] h = .ok (.int (hoursOf hs sg d)) h := by
  refine eq_wp (wp_body ?_)
  unfold b__law_hours
  walk_at "ev"
  refine wp_own O O.single ?_
  refine ⟨⟨_, rfl⟩, ?_⟩
  walk_at "ev"
  refine wp_own O O.hours ?_
  walk_at "ev"
  refine wp_div (by decide) ?_
  walk_at "ev"
  refine wp_mul (.inr (by decide)) ?_
  walk_at "ev"
  have := O.len
  refine wp_ixL rfl (fun _ q => by cases q) (atI_map (by omega) (by omega)) ?_
  refine ⟨_, dget_I rfl d, ?_⟩
  unfold hoursOf
  rw [show d - d / 7 * 7 = d % 7 by omega]
  cases lookI sg d <;> rfl
theorem hours_wp (O : Own h o hs sg) {d : Int} (hd : 0 ≤ d) {K : W → HS → Prop} {E : Nat → HS → Prop} (p : K (.int (hoursOf hs sg d)) h) : Wp (f__law_hours [.box o, .int d] h) K E := wp_eq (law_hours_eq O hd) p
theorem rep_if {b : Bool} {x : W} : (List.replicate (if b then (1 : Int) else 0).toNat [x]).flatten = if b then [x] else [] := by cases b <;> rfl
theorem wk_succ {f : Int → Int} {k : Nat} {d : Int} : wk f (k + 1) d = nx f d :: wk f k (nx f d + 1) := rfl
theorem law_worked_eq (O : Own h o hs sg) (H : Hr (hoursOf hs sg)) {d m : Int} (hd : 0 ≤ d) (hm : 0 ≤ m) (hm2 : m ≤ 1000) (hd2 : d ≤ 100) : f__law_worked [.box o, .int d, .int m] h = .ok (.lst ((wk (hoursOf hs sg) m.toNat d).map W.int)) h := by
  refine eq_wp (wp_body ?_)
  unfold b__law_worked
  walk_at "ev"
  refine wp_sz (by simp) ?_
  walk_at "ev"
  refine ws_while (fun n sl h' => h' = h ∧ ∃ (l : List Int) (x : Int) (k : Nat), sl = [some (.box o), some (.int d), some (.int m), some (.lst (l.map W.int)), some (.int x)] ∧ 0 ≤ x ∧ l.length + k = m.toNat ∧ l ++ wk (hoursOf hs sg) k x = wk (hoursOf hs sg) m.toNat d ∧ 200 * (k : Int) + (nx (hoursOf hs sg) x - x) ≤ n) (200 * m.toNat + 200) ⟨rfl, [], d, m.toNat, rfl, hd, by simp, rfl, ?_⟩ (by unfold fuel; omega) ?_
  · have := (H.nx hd).2; omega
  rintro n sl h' ⟨rfl, l, x, k, rfl, x0, lk, eq, le⟩
  walk_at "ev"
  refine ⟨fun q => ?_, fun q => ?_⟩
  · have q : (l.length : Int) < m := by simpa using q
    obtain ⟨⟨a1, a2, a3⟩, a4⟩ := H.nx x0
    obtain ⟨k, rfl⟩ : ∃ k', k = k' + 1 := ⟨k - 1, by omega⟩
    obtain ⟨n, rfl⟩ : ∃ n', n = n' + 1 := ⟨n - 1, by omega⟩
    refine ⟨n, rfl, ?_⟩
    walk_at "ev"
    refine wp_sz (by simp [sizeLine]) ?_
    walk_at "ev"
    refine hours_wp O x0 ?_
    walk_at "ev"
    have fx0 := H.lo x
    refine wp_mulL ⟨by split <;> decide, by split <;> decide, by split <;> simp [sizeLine]⟩ ?_
    walk_at "ev"
    rw [rep_if]
    refine wp_addL (by rw [List.length_map]; split <;> simp <;> unfold sizeLine <;> omega) ?_
    walk_at "ev"
    by_cases fx : 0 < hoursOf hs sg x
    · refine ⟨rfl, l ++ [x], x + 1, k, ?_, by omega, by simp; omega, ?_, ?_⟩
      · simp [fx]
      · rw [← eq, List.append_assoc]
        congr 1
        rw [wk_succ, nx_here (by omega)]
        rfl
      · have := (H.nx (d := x + 1) (by omega)).2
        rw [nx_here (show hoursOf hs sg x ≠ 0 by omega)] at le
        omega
    · have f0 : hoursOf hs sg x = 0 := by omega
      have e2 := H.nx_skip x0 f0
      refine ⟨rfl, l, x + 1, k + 1, ?_, by omega, lk, ?_, ?_⟩
      · simp [fx]
      · rw [← eq]
        congr 1
        rw [wk_succ, wk_succ, e2]
      · rw [← e2]; omega
  · have q : ¬ (l.length : Int) < m := by simpa using q
    have k0 : k = 0 := by omega
    subst k0
    walk_at "ev"
    rw [← eq]
    simp [wk]
theorem wk_pos {f : Int → Int} (H : Hr f) : ∀ (n : Nat) {d : Int}, 0 ≤ d → ∀ x ∈ wk f n d, 0 ≤ x
  | 0, _, _, x, hx => by cases hx
  | n + 1, d, hd, x, hx => by
    have := (H.nx hd).1.1
    unfold wk at hx
    rcases List.mem_cons.mp hx with e | hx
    · omega
    · exact wk_pos H n (by omega) x hx
theorem law_done_eq (O : Own h o hs sg) (H : Hr (hoursOf hs sg)) {d t : Int} (hd : 0 ≤ d) (hd2 : d ≤ 100) : f__law_done [.box o, .int d, .int t] h = .ok (match doneL (hoursOf hs sg) (wk (hoursOf hs sg) 400 d) t with | some p => pairW p | none => .non) h := by
  refine eq_wp (wp_body ?_)
  unfold b__law_done
  walk_at "ev"
  refine wp_eq (law_worked_eq O H hd (by decide) (by decide) hd2) ?_
  refine wp_ok ?_
  walk_at "ev"
  generalize hL : wk (hoursOf hs sg) (400 : Int).toNat d = L
  have hL' : wk (hoursOf hs sg) 400 d = L := hL
  rw [hL']
  have pos : ∀ x ∈ L, 0 ≤ x := by rw [← hL]; exact wk_pos H _ hd
  refine ws_forL (fun i sl h' => h' = h ∧ ∃ u t0, sl = [some (.box o), some (.int d), some (.int u), t0] ∧ doneL (hoursOf hs sg) (L.drop i) u = doneL (hoursOf hs sg) L t) ⟨rfl, t, none, rfl, rfl⟩ (fun _ _ _ _ _ => rfl) ?_ ?_
  · rintro i w sl h' e ⟨rfl, u, t0, rfl, eq⟩
    rw [List.getElem?_map] at e
    cases e2 : L[i]? with
    | none => rw [e2] at e; cases e
    | some x =>
      rw [e2] at e
      cases e
      have hx := pos x (List.mem_of_getElem? e2)
      obtain ⟨hi, e3⟩ := List.getElem?_eq_some_iff.mp e2
      rw [List.drop_eq_getElem_cons hi, e3] at eq
      rw [show doneL (hoursOf hs sg) (x :: L.drop (i + 1)) u = if u ≤ hoursOf hs sg x then some (x, hoursOf hs sg x - u) else doneL (hoursOf hs sg) (L.drop (i + 1)) (u - hoursOf hs sg x) from rfl] at eq
      walk_at "ev"
      refine hours_wp O hx ?_
      walk_at "ev"
      by_cases q : u ≤ hoursOf hs sg x
      · refine ws_pos (by simpa using q) ?_
        walk_at "ev"
        refine hours_wp O hx ?_
        walk_at "ev"
        refine wp_sz (by simp [sizeLine]) ?_
        rw [if_pos q] at eq
        refine wp_ok ?_
        rw [← eq]
        rfl
      · refine ws_neg (by simpa using q) ?_
        walk_at "ev"
        refine hours_wp O hx ?_
        walk_at "ev"
        rw [if_neg q] at eq
        exact ⟨rfl, _, _, rfl, eq⟩
  · rintro sl h' ⟨rfl, u, t0, rfl, eq⟩
    rw [List.length_map, List.drop_length] at eq
    walk_at "ev"
    rw [← eq]
    rfl

end K01
end

/-! Kp5 -/
section
set_option Elab.async false
set_option linter.all false
set_option maxRecDepth 100000
set_option maxHeartbeats 4000000
namespace K01
open PySem PySem.Spec L2 Pk
local macro_rules | `(tactic| walk_at "ev1") => `(tactic| with_reducible first
  | refine wp_var rfl ?_ | refine wp_c ?_ | refine wp_bin ?_ | refine wp_un ?_ | refine wp_asB ?_ | refine wp_tval ?_ | refine wp_chain_ll ?_ | refine wp_chain_tt ?_ | refine wp_chain ?_ | refine wp_tand ?_ | refine wp_tor ?_ | refine wp_tnot ?_
  | refine wp_and ?_ | refine wp_or ?_ | refine wp_not ?_ | refine wp_if ?_ | refine wp_anil ?_ | refine wp_acons ?_ | refine wp_tup ?_ | refine wp_lst ?_ | refine wp_mkLf ?_ | refine wp_mkLt ?_ | refine wp_mkDf ?_ | refine wp_mkDt ?_
  | refine wp_add ?_ | refine wp_sub ?_ | refine wp_neg' ?_ | refine wp_kadd ?_ | refine wp_ksub ?_ | refine wp_lt ?_ | refine wp_le ?_ | refine wp_gt ?_ | refine wp_ge ?_ | refine wp_eqi ?_ | refine wp_nei ?_ | refine wp_eqs ?_ | refine wp_nes ?_ | refine wp_eqb ?_ | refine wp_neb ?_
  | refine wp_is ?_ | refine wp_isN ?_ | refine wp_callB ?_ | refine wp_call ?_ | refine wp_go rfl ?_ | refine wp_meth ?_ | refine wp_make ?_ | refine wp_told ?_ | refine wp_get2 ?_
  | refine ws_nil ?_ | refine ws_seq ?_ | refine ws_expr ?_ | refine ws_ret ?_ | refine ws_retN ?_ | refine ws_if ?_ | refine ws_raise ?_ | refine ws_asgN ?_ | refine ws_asg ?_ | refine gp_n ?_ | refine gp_tup rfl ?_ | refine gp_cons ?_ | refine gp_nil ?_
  | refine ws_par ?_ | refine ws_par3 ?_ | refine ws_aug rfl ?_ | refine ws_fld ?_ | refine ws_sub ?_ | refine ws_del ?_ | refine ws_for ?_ | refine wp_lc ?_ | refine ip_seq ?_ | refine ip_r1 ?_ | refine ip_r2 ?_ | refine ip_r3 ?_
  | refine wp_tyes ?_ | refine wp_tupR ?_ | refine wp_zipL ?_ | refine tvT ?_ | refine tvK ?_ | refine wp_cut ?_ | refine wp_pno ?_ | refine wp_psome ?_ | refine wp_cutScr ?_ | refine wp_cutL ?_ | refine wp_cutT ?_ | refine wp_lenL ?_ | refine wp_lenT ?_ | refine wp_intI ?_ | refine wp_intB ?_ | refine wp_absI ?_ | refine wp_listT ?_ | refine wp_listL ?_ | refine wp_tupleL ?_ | refine wp_tupleT ?_ | refine wp_sumL ?_ | refine wp_any ?_ | refine wp_all ?_ | refine wp_sumG ?_ | refine wp_tupG ?_ | refine wp_bind ?_ | refine is1 ?_ | refine is2 ?_ | refine is3 ?_ | refine isI ?_ | refine isS ?_ | refine svL ?_ | refine svT ?_ | refine svK ?_ | refine lvL ?_ | refine ip_enum ?_ | refine ip_txt ?_)
local macro_rules | `(tactic| walk_at "ev") => `(tactic| repeat walk_at "ev1")
variable {h : HS} {c d0 o : Nat} {hw : W} {hs : List Int} {sg : List (Int × Int)}
/-- dice: three whole numbers in a box -/
def Dc (h : HS) (n : Nat) : Prop := ∃ a b c : Int, h.at_ n = some (.lst [.int a, .int b, .int c])
theorem wp_setL {h : HS} {n : Nat} {ws : List W} {i : Int} {y : W} {k : Nat} {N : HS → Prop} (e : h.at_ n = some (.lst ws)) (ei : ixN ws.length i = some k) (p : N (h.put n (.lst (ws.set k y)))) : ∃ h4, setIx (.box n) (.int i) y h = some h4 ∧ N h4 := by
  refine ⟨_, ?_, p⟩
  unfold setIx
  simp only [e, ei]
theorem wp_roll {n : Nat} {many : Int} {K : W → HS → Prop} {E : Nat → HS → Prop} (hd : Dc h n) (h1 : 1 ≤ many) (h2 : many ≤ 100000000)
    (p : ∀ r h', 0 ≤ r → r < many → Dc h' n → (∀ m, m ≠ n → h'.at_ m = h.at_ m) → h'.nx = h.nx → K (.int r) h') : Wp (n__law_roll 4 [.box n, .int many] h) K E := by
  obtain ⟨a, b, c, hd⟩ := hd
  have fin : ∀ {h' : HS} {x y z : Int} {r : Int}, 0 ≤ r → r < many → h'.at_ n = some (.lst [.int x, .int y, .int z]) → (∀ m, m ≠ n → h'.at_ m = h.at_ m) → h'.nx = h.nx → K (.int r) h' := fun r0 r1 e f g => p _ _ r0 r1 ⟨_, _, _, e⟩ f g
  show Wp (bodyM 3 (b__law_roll (n__law_roll 3)) [.box n, .int many] h) K E
  refine wp_body ?_
  unfold b__law_roll
  have ix0 : ∀ {K : W → HS → Prop} {E : Nat → HS → Prop} {h' : HS} {x y z : Int}, h'.at_ n = some (.lst [.int x, .int y, .int z]) → K (.int x) h' → Wp (wIx (.box n) (.int 0) h') K E := fun e p => wp_ixL (sview_boxL e) (fun _ q => by cases q) rfl p
  have ix1 : ∀ {K : W → HS → Prop} {E : Nat → HS → Prop} {h' : HS} {x y z : Int}, h'.at_ n = some (.lst [.int x, .int y, .int z]) → K (.int y) h' → Wp (wIx (.box n) (.int 1) h') K E := fun e p => wp_ixL (sview_boxL e) (fun _ q => by cases q) rfl p
  have ix2 : ∀ {K : W → HS → Prop} {E : Nat → HS → Prop} {h' : HS} {x y z : Int}, h'.at_ n = some (.lst [.int x, .int y, .int z]) → K (.int z) h' → Wp (wIx (.box n) (.int 2) h') K E := fun e p => wp_ixL (sview_boxL e) (fun _ q => by cases q) rfl p
  have pn : ∀ {h' : HS} {ct : Ct}, (h'.put n ct).at_ n = some ct := fun {h' ct} => if_pos rfl
  have po : ∀ {h' : HS} {ct : Ct} {m : Nat}, m ≠ n → (h'.put n ct).at_ m = h'.at_ m := fun {h' ct m} e => if_neg e
  refine ws_seq (ws_if (wp_mono (K := fun k h' => k = decide (c = 2 ∨ (c = 1 ∧ 0 < a)) ∧ h' = h) (E := NoE) ?_ (fun k h' ⟨e1, e2⟩ => ?_) (fun _ _ z => z.elim)))
  · walk_at "ev"
    refine ix2 hd ?_
    walk_at "ev"
    by_cases c2 : c = 2
    · refine wp_pos (by simpa using c2) (wp_ok ⟨by simp [c2], rfl⟩)
    · refine wp_neg (by simpa using c2) ?_
      walk_at "ev"
      refine ix2 hd ?_
      walk_at "ev"
      by_cases c1 : c = 1
      · refine wp_pos (by simpa using c1) ?_
        walk_at "ev"
        refine ix0 hd ?_
        walk_at "ev"
        exact ⟨by simp [c1], rfl⟩
      · refine wp_neg (by simpa using c1) (wp_ok ⟨by simp [c1, c2], rfl⟩)
  subst e1 e2
  by_cases t : c = 2 ∨ (c = 1 ∧ 0 < a)
  · refine ws_pos (by simpa using t) ?_
    walk_at "ev"
    refine ix0 hd ?_
    walk_at "ev"
    refine wp_mod (by omega) ?_
    walk_at "ev"
    refine ix0 hd ?_
    walk_at "ev"
    refine wp_div ⟨by omega, by omega⟩ ?_
    walk_at "ev"
    refine wp_setL hd (k := 0) rfl ?_
    walk_at "ev"
    exact fin (Int.emod_nonneg _ (by omega)) (Int.emod_lt_of_pos _ (by omega)) pn (fun m e => po e) rfl
  · refine ws_neg (by simpa using t) ?_
    walk_at "ev"
    refine wp_setL hd (k := 2) rfl ?_
    walk_at "ev"
    refine ws_neg (by simp; omega) ?_
    walk_at "ev"
    refine ix0 pn ?_
    walk_at "ev"
    refine wp_mul (.inr (by decide)) ?_
    walk_at "ev"
    refine ix1 pn ?_
    walk_at "ev"
    refine wp_mul (.inr (by decide)) ?_
    walk_at "ev"
    refine wp_mod (by decide) ?_
    walk_at "ev"
    refine wp_setL pn (k := 0) rfl ?_
    walk_at "ev"
    refine ix1 pn ?_
    walk_at "ev"
    refine wp_setL pn (k := 1) rfl ?_
    walk_at "ev"
    refine ix0 pn ?_
    walk_at "ev"
    refine wp_div (by decide) ?_
    walk_at "ev"
    refine wp_mod (by omega) ?_
    exact fin (Int.emod_nonneg _ (by omega)) (Int.emod_lt_of_pos _ (by omega)) pn (fun m e => by rw [po e, po e, po e]) rfl

theorem wp_dice {cell : Int} {K : W → HS → Prop} {E : Nat → HS → Prop} (p : ∀ a b c : Int, K (.box h.nx) (h.new (.lst [.int a, .int b, .int c]))) : Wp (f__law_dice [.int cell] h) K E := by
  refine wp_body ?_
  unfold b__law_dice
  walk_at "ev"
  by_cases t : 0 - 10 < cell ∧ cell < 10
  · refine ws_pos (by simpa using t) ?_
    walk_at "ev"
    refine wp_sz (by simp [sizeLine]) ?_
    walk_at "ev"
    exact p _ _ _
  · refine ws_neg (by simpa using t) ?_
    walk_at "ev"
    refine wp_mod (by decide) ?_
    walk_at "ev"
    refine wp_pow (by decide) ?_
    walk_at "ev"
    refine wp_sz (by simp [sizeLine]) ?_
    walk_at "ev"
    exact p _ _ _
theorem wp_rounds {ns : List Int} {K : W → HS → Prop} {E : Nat → HS → Prop} (p : ∀ h', Dc h' 0 → h'.nx = 1 → K (.lst [.box 0]) h') : Wp (f__law_rounds [.scr ns, .int 1] h0) K E := by
  refine wp_body ?_
  unfold b__law_rounds
  refine ws_seq (ws_asgN ?_)
  walk_at "ev"
  have rest : ∀ (x : Int), Ws (sRet (eLc false [3] (iSeq (eVar 2)) (gN 3) tYesx (eCall 1 f__law_dice [] (aCons (eVar 3) aNil))) [some (.scr ns), some (.int 1), some (.lst [.int x]), none] h0) (fun _ h => K .non h) K (fun _ _ => False) (fun _ _ => False) E := by
    intro x
    walk_at "ev"
    refine wp_lcLoopI (fun i acc h' => (i = 0 ∧ acc = [] ∧ h' = h0) ∨ (i = 1 ∧ acc = [.box 0] ∧ Dc h' 0 ∧ h'.nx = 1)) (.inl ⟨rfl, rfl, rfl⟩) (by simp [sizeLine]) (fun _ _ _ _ _ => rfl) ?_ ?_
    · rintro i w acc h' e (⟨rfl, rfl, rfl⟩ | ⟨rfl, rfl, d, n⟩)
      · cases e
        walk_at "ev"
        refine ⟨fun _ => ?_, fun z => by cases z⟩
        walk_at "ev"
        refine wp_dice fun a b c => ?_
        exact .inr ⟨rfl, rfl, ⟨a, b, c, rfl⟩, rfl⟩
      · cases e
    · rintro acc h' (⟨z, rfl, rfl⟩ | ⟨_, rfl, d, n⟩)
      · cases z
      · walk_at "ev"
        exact p h' d n
  cases ns with
  | nil =>
    walk_at "ev"
    refine wp_sz (by simp [sizeLine]) ?_
    walk_at "ev"
    refine wp_eqw (b := true) (weq_lst rfl) ?_
    walk_at "ev"
    refine ws_pos rfl ?_
    walk_at "ev"
    refine wp_sz (by simp [sizeLine]) ?_
    walk_at "ev"
    exact rest 0
  | cons n ns =>
    walk_at "ev"
    refine wp_sz (by simp [sizeLine]) ?_
    walk_at "ev"
    have e : cutW (((n :: ns)).map W.int) none (some 1) = [.int n] := by
      unfold cutW HT.sIx
      simp
    rw [e]
    refine wp_eqw (b := false) (by kernel_rfl) ?_
    walk_at "ev"
    refine ws_neg (by decide) (ws_nil ?_)
    exact rest n

end K01
end

/-! Qd -/
section
set_option Elab.async false
set_option linter.all false
set_option maxRecDepth 100000
set_option maxHeartbeats 4000000
/-! dicts of whole numbers, fields -/
namespace Pk
open PySem PySem.Spec L2
section
variable {K : W → HS → Prop} {E : Nat → HS → Prop} {h h1 : HS} {sl s : Sl} {c : Nat} {w x y : W} {fo fk fx fa fb fc : Ex}
theorem wp_setF {cs : List Nat} {f : Str} {n k : Nat} {ks ks' : List Str} {ws ws' : List W} {y : W} {N : HS → Prop} (e : h.at_ n = some (.ins k ks ws)) (e1 : cs.contains k = true) (l : ks.length < 1000) (ek : sputK ks f = ks') (ew : sputW ks ws f y = ws')
    (p : N (h.put n (.ins k ks' ws'))) : ∃ h3, setFld cs f (.box n) y h = some h3 ∧ N h3 := by
  refine ⟨_, ?_, p⟩
  unfold setFld
  simp only [e, e1, l, ek, ew, and_self, if_true]
def putI : List (Int × Int) → Int → Int → List (Int × Int)
  | [], d, x => [(d, x)]
  | p :: l, d, x => if p.1 = d then (d, x) :: l else p :: putI l d x
theorem putI_cons {p : Int × Int} {l : List (Int × Int)} {d x : Int} : putI (p :: l) d x = if p.1 = d then (d, x) :: l else p :: putI l d x := rfl
def delI (sg : List (Int × Int)) (d : Int) : List (Int × Int) := sg.filter fun p => decide (p.1 ≠ d)
def NdI (sg : List (Int × Int)) : Prop := (sg.map (·.1)).Nodup
theorem lookI_none {sg : List (Int × Int)} {d : Int} : lookI sg d = none ↔ ∀ p ∈ sg, p.1 ≠ d := by
  induction sg with
  | nil => simp [lookI]
  | cons p l ih =>
    unfold lookI
    by_cases e : p.1 = d
    · rw [if_pos e]; simp [e]
    · rw [if_neg e, ih]; simp [e]
theorem lookI_mem {sg : List (Int × Int)} {d x : Int} (h : lookI sg d = some x) : (d, x) ∈ sg := by
  induction sg with
  | nil => cases h
  | cons p l ih =>
    unfold lookI at h
    by_cases e : p.1 = d
    · rw [if_pos e] at h
      cases h
      rw [← e]
      exact List.mem_cons_self
    · rw [if_neg e] at h
      exact List.mem_cons_of_mem _ (ih h)
theorem lookI_of_mem {sg : List (Int × Int)} (nd : NdI sg) {d x : Int} (h : (d, x) ∈ sg) : lookI sg d = some x := by
  induction sg with
  | nil => cases h
  | cons p l ih =>
    have nd' := List.nodup_cons.mp (show (p.1 :: l.map (·.1)).Nodup from nd)
    unfold lookI
    rcases List.mem_cons.mp h with e | h
    · rw [← e, if_pos rfl]
    · rw [if_neg (fun z => nd'.1 (by rw [z]; exact List.mem_map.mpr ⟨_, h, rfl⟩))]
      exact ih nd'.2 h
theorem putI_keys {sg : List (Int × Int)} {d x : Int} : (putI sg d x).map (·.1) = if d ∈ sg.map (·.1) then sg.map (·.1) else sg.map (·.1) ++ [d] := by
  induction sg with
  | nil => rfl
  | cons p l ih =>
    unfold putI
    by_cases e : p.1 = d
    · rw [if_pos e, if_pos (by rw [← e]; exact List.mem_cons_self), List.map_cons, List.map_cons, e]
    · rw [if_neg e, List.map_cons, List.map_cons, ih]
      by_cases m : d ∈ l.map (·.1)
      · rw [if_pos m, if_pos (List.mem_cons_of_mem _ m)]
      · rw [if_neg m, if_neg (by rw [List.mem_cons]; rintro (z | z); exact e z.symm; exact m z)]; rfl
theorem putI_nd {sg : List (Int × Int)} {d x : Int} (nd : NdI sg) : NdI (putI sg d x) := by
  unfold NdI
  rw [putI_keys]
  split
  · exact nd
  · rename_i m
    exact List.nodup_append.mpr ⟨nd, by simp, fun a ha b hb => by rw [List.mem_singleton.mp hb]; exact fun z => m (by rw [← z]; exact ha)⟩
theorem putI_mem {sg : List (Int × Int)} {d x : Int} {p : Int × Int} (h : p ∈ putI sg d x) : p = (d, x) ∨ p ∈ sg := by
  induction sg with
  | nil => exact .inl (List.mem_singleton.mp h)
  | cons q l ih =>
    unfold putI at h
    split at h
    · rcases List.mem_cons.mp h with e | h
      · exact .inl e
      · exact .inr (List.mem_cons_of_mem _ h)
    · rcases List.mem_cons.mp h with e | h
      · exact .inr (by rw [e]; exact List.mem_cons_self)
      · rcases ih h with e | h
        · exact .inl e
        · exact .inr (List.mem_cons_of_mem _ h)
theorem putI_length {sg : List (Int × Int)} {d x : Int} : (putI sg d x).length ≤ sg.length + 1 := by
  induction sg with
  | nil => simp [putI]
  | cons q l ih =>
    unfold putI
    split
    · simp
    · simp only [List.length_cons]; omega
theorem delI_nd {sg : List (Int × Int)} {d : Int} (nd : NdI sg) : NdI (delI sg d) := by
  unfold NdI delI
  exact List.Sublist.nodup ((List.filter_sublist).map _) nd
theorem dput_I (sg : List (Int × Int)) (nd : NdI sg) (d x : Int) : dputK (sg.map kI) (.k (.inl d)) = (putI sg d x).map kI ∧ dputW (sg.map kI) (sg.map vI) (.k (.inl d)) (.int x) = (putI sg d x).map vI := by
  have hh : ∀ l : List (Int × Int), dhas (l.map kI) (.k (.inl d)) = decide (d ∈ l.map (·.1)) := by
    intro l
    unfold dhas
    induction l with
    | nil => rfl
    | cons p l ih =>
      rw [List.map_cons, List.any_cons, ih]
      by_cases e : p.1 = d
      · simp [kI, e]
      · have : d ≠ p.1 := fun z => e z.symm
        simp [kI, e, this]
  have pk : (putI sg d x).map kI = ((putI sg d x).map (·.1)).map fun k => DK.k (.inl k) := by rw [List.map_map]; rfl
  have sk : sg.map kI = (sg.map (·.1)).map fun k => DK.k (.inl k) := by rw [List.map_map]; rfl
  constructor
  · unfold dputK
    rw [hh, pk, putI_keys]
    by_cases m : d ∈ sg.map (·.1)
    · rw [if_pos (by simpa using m), if_pos m, sk]
    · rw [if_neg (by simpa using m), if_neg m, List.map_append, sk]; rfl
  · unfold dputW
    rw [hh]
    have rp : ∀ l : List (Int × Int), NdI l → drepl (l.map kI) (l.map vI) (.k (.inl d)) (.int x) = if d ∈ l.map (·.1) then (putI l d x).map vI else l.map vI := by
      intro l
      induction l with
      | nil => intro _; rfl
      | cons p l ih =>
        intro nd
        have nd' := List.nodup_cons.mp (show (p.1 :: l.map (·.1)).Nodup from nd)
        show (if kI p = DK.k (.inl d) then W.int x else vI p) :: drepl (l.map kI) (l.map vI) (.k (.inl d)) (.int x) = _
        rw [ih nd'.2]
        by_cases e : p.1 = d
        · rw [if_pos (by unfold kI; rw [e]), if_neg (by rw [← e]; exact nd'.1), if_pos (by rw [← e]; exact List.mem_cons_self)]
          rw [putI_cons, if_pos e]
          rfl
        · rw [if_neg (by unfold kI; simp [e]), putI_cons, if_neg e]
          by_cases m : d ∈ l.map (·.1)
          · rw [if_pos m, if_pos (by rw [List.map_cons]; exact List.mem_cons_of_mem _ m)]; rfl
          · rw [if_neg m, if_neg (by rw [List.map_cons, List.mem_cons]; rintro (z | z); exact e z.symm; exact m z)]; rfl
    by_cases m : d ∈ sg.map (·.1)
    · rw [if_pos (by simpa using m), rp sg nd, if_pos m]
    · rw [if_neg (by simpa using m)]
      clear rp pk sk nd
      induction sg with
      | nil => rfl
      | cons p l ih =>
        rw [List.map_cons, List.mem_cons] at m
        have m1 : p.1 ≠ d := fun z => m (.inl z.symm)
        rw [putI_cons, if_neg m1, List.map_cons, List.map_cons, List.cons_append, ih (fun z => m (.inr z))]
theorem wp_setI {n : Nat} {sg : List (Int × Int)} {d x : Int} {N : HS → Prop} (e : h.at_ n = some (.dic (sg.map kI) (sg.map vI))) (nd : NdI sg) (l : sg.length < sizeLine) (p : N (h.put n (.dic ((putI sg d x).map kI) ((putI sg d x).map vI)))) :
    ∃ h4, setIx (.box n) (.int d) (.int x) h = some h4 ∧ N h4 := by
  refine ⟨_, ?_, p⟩
  obtain ⟨a, b⟩ := dput_I sg nd d x
  unfold setIx
  simp only [e, kOf, all_sameI, List.length_map, l, and_self, if_true, a, b]
theorem win_I {d : W} {sg : List (Int × Int)} (e : dview h d = some (sg.map kI, sg.map vI)) (x : Int) : win h (.int x) d = some (lookI sg x).isSome := by
  unfold win
  rw [dget_I e]
  cases lookI sg x <;> rfl
theorem ddel_I (sg : List (Int × Int)) (d : Int) : ddelK (sg.map kI) (.k (.inl d)) = (delI sg d).map kI ∧ ddelW (sg.map kI) (sg.map vI) (.k (.inl d)) = (delI sg d).map vI := by
  constructor
  · unfold ddelK delI
    rw [List.filter_map]
    congr 1
    refine List.filter_congr fun p _ => ?_
    simp [kI]
  · induction sg with
    | nil => rfl
    | cons p l ih =>
      show (if kI p ≠ DK.k (.inl d) then vI p :: ddelW (l.map kI) (l.map vI) (.k (.inl d)) else ddelW (l.map kI) (l.map vI) (.k (.inl d))) = _
      rw [ih]
      unfold delI
      by_cases e : p.1 = d
      · rw [if_neg (by simp [kI, e]), List.filter_cons_of_neg (by simp [e])]
      · rw [if_pos (by simp [kI, e]), List.filter_cons_of_pos (by simp [e])]; rfl
theorem isK_I (sg : List (Int × Int)) : (sg.map kI).all isK = true := by rw [List.all_map, List.all_eq_true]; intro _ _; rfl
theorem wp_delI {n : Nat} {sg : List (Int × Int)} {d : Int} {N : HS → Prop} (e : h.at_ n = some (.dic (sg.map kI) (sg.map vI))) (hm : (lookI sg d).isSome = true) (p : N (h.put n (.dic ((delI sg d).map kI) ((delI sg d).map vI)))) :
    ∃ h4, delIx (.box n) (.int d) h = some h4 ∧ N h4 := by
  refine ⟨_, ?_, p⟩
  obtain ⟨a, b⟩ := ddel_I sg d
  unfold delIx
  have z : (dlook (sg.map kI) (sg.map vI) (.k (.inl d))).isSome = true := by rw [dlook_I]; cases q : lookI sg d with
    | none => rw [q] at hm; cases hm
    | some v => rfl
  simp only [e, kOf, isK_I, z, and_self, if_true, a, b]
/-! dict(pairs), list(d.items()) -/
def prI (p : Int × Int) : W := .tup [.int p.1, .int p.2]
theorem pairsOf_I (l : List (Int × Int)) : pairsOf (l.map prI) = some (l.map fun p => (.inl p.1, .int p.2)) := by
  induction l with
  | nil => rfl
  | cons p l ih =>
    show (match kOf (.int p.1), pairsOf (l.map prI) with
      | some (.k j), some ps => some ((j, W.int p.2) :: ps)
      | _, _ => none) = _
    rw [ih]
    rfl
theorem mergeP_I : ∀ (l sg : List (Int × Int)), NdI sg → mergeP (l.map fun p => (.inl p.1, .int p.2)) (sg.map kI, sg.map vI) = ((l.foldl (fun s p => putI s p.1 p.2) sg).map kI, (l.foldl (fun s p => putI s p.1 p.2) sg).map vI)
  | [], _, _ => rfl
  | p :: l, sg, nd => by
    show mergeP (l.map fun p => (.inl p.1, .int p.2)) (putP (sg.map kI, sg.map vI) (.k (.inl p.1)) (.int p.2)) = _
    unfold putP
    obtain ⟨a, b⟩ := dput_I sg nd p.1 p.2
    rw [a, b, mergeP_I l _ (putI_nd nd)]
    rfl
theorem putI_new {sg : List (Int × Int)} {d x : Int} (h : d ∉ sg.map (·.1)) : putI sg d x = sg ++ [(d, x)] := by
  induction sg with
  | nil => rfl
  | cons p l ih =>
    rw [List.map_cons, List.mem_cons] at h
    unfold putI
    rw [if_neg (fun z => h (.inl z.symm)), ih (fun z => h (.inr z))]
    rfl
theorem fold_self : ∀ (l sg : List (Int × Int)), NdI (sg ++ l) → l.foldl (fun s p => putI s p.1 p.2) sg = sg ++ l
  | [], sg, _ => by simp
  | p :: l, sg, nd => by
    have e : putI sg p.1 p.2 = sg ++ [p] := putI_new (by
      have nd : ((sg.map (·.1)) ++ (p.1 :: l.map (·.1))).Nodup := by simpa [NdI] using nd
      intro z
      exact (List.nodup_append.mp nd).2.2 p.1 z p.1 List.mem_cons_self rfl)
    rw [List.foldl_cons, e, fold_self l _ (by rw [List.append_assoc]; exact nd), List.append_assoc]
    rfl
theorem wp_dictI {l sg : List (Int × Int)} (e : l.foldl (fun s p => putI s p.1 p.2) [] = sg) (p : K (.dic (sg.map kI) (sg.map vI)) h) : Wp (m_dict false [.lst (l.map prI)] h) K E := by
  unfold m_dict
  show Wp (match pairsOf (l.map prI) with | some ps => mkD false (mergeP ps ([], [])).1 (mergeP ps ([], [])).2 h | none => .no) K E
  rw [pairsOf_I]
  have z := mergeP_I l [] (by simp [NdI])
  dsimp only
  rw [show (([] : List DK), ([] : List W)) = (([] : List (Int × Int)).map kI, ([] : List (Int × Int)).map vI) from rfl, z, e]
  exact p
theorem wp_itemsI {bx : Bool} {sg : List (Int × Int)} (p : Wp (fa sl h) (fun w h1 => dview h1 w = some (sg.map kI, sg.map vI) ∧ Wp (mkL bx (sg.map prI) h1) K E) E) : Wp (eItemsL bx fa sl h) K E := by
  refine wp_bind (wp_mono p (fun w h1 ⟨e, q⟩ => ?_) fun _ _ q => q)
  rw [e]
  have f : flatK (sg.map kI) = true := by unfold flatK; rw [List.all_map, List.all_eq_true]; intro _ _; rfl
  have z : (((sg.map kI).zip (sg.map vI)).map fun p => W.tup [dkW p.1, p.2]) = sg.map prI := by
    rw [List.zip_map', List.map_map]
    rfl
  dsimp only
  rw [if_pos f, z]
  exact q
theorem weq_dicI {x y : W} {sg : List (Int × Int)} (nd : NdI sg) (ex : dview h x = some (sg.map kI, sg.map vI)) (ey : dview h y = some (sg.map kI, sg.map vI)) : weq h x y = some true := by
  have t : ∀ l : List (Int × Int), (∀ p ∈ l, p ∈ sg) → dEqT (sg.map kI) (sg.map vI) (l.map kI) (l.map vI) = true := by
    intro l
    induction l with
    | nil => intro _; rfl
    | cons p l ih =>
      intro hl
      show (isK (kI p) && (match flV (vI p), dlook (sg.map kI) (sg.map vI) (kI p) with
        | some v, some w' => decide (flV w' = some v)
        | _, _ => false) && dEqT (sg.map kI) (sg.map vI) (l.map kI) (l.map vI)) = true
      rw [ih fun q hq => hl q (List.mem_cons_of_mem _ hq)]
      have e := lookI_of_mem nd (hl p List.mem_cons_self)
      have e2 : dlook (sg.map kI) (sg.map vI) (kI p) = some (.int p.2) := by
        show dlook (sg.map kI) (sg.map vI) (.k (.inl p.1)) = _
        rw [dlook_I, e]
        rfl
      rw [e2]
      simp [isK, kI, vI, flV]
  unfold weq
  split
  · cases ex
  · cases ex
  · cases ex
  · rw [ex, ey]
    dsimp only
    rw [if_pos ⟨rfl, isK_I sg, t sg fun _ h => h⟩]
end
end Pk
end

/-! Kp6 -/
section
set_option Elab.async false
set_option linter.all false
set_option maxRecDepth 100000
set_option maxHeartbeats 4000000
namespace K01
open PySem PySem.Spec L2 Pk
local macro_rules | `(tactic| walk_at "ev1") => `(tactic| with_reducible first
  | refine wp_var rfl ?_ | refine wp_c ?_ | refine wp_bin ?_ | refine wp_un ?_ | refine wp_asB ?_ | refine wp_tval ?_ | refine wp_chain_ll ?_ | refine wp_chain_tt ?_ | refine wp_chain ?_ | refine wp_tand ?_ | refine wp_tor ?_ | refine wp_tnot ?_
  | refine wp_and ?_ | refine wp_or ?_ | refine wp_not ?_ | refine wp_if ?_ | refine wp_anil ?_ | refine wp_acons ?_ | refine wp_tup ?_ | refine wp_lst ?_ | refine wp_mkLf ?_ | refine wp_mkLt ?_ | refine wp_mkDf ?_ | refine wp_mkDt ?_
  | refine wp_add ?_ | refine wp_sub ?_ | refine wp_neg' ?_ | refine wp_kadd ?_ | refine wp_ksub ?_ | refine wp_lt ?_ | refine wp_le ?_ | refine wp_gt ?_ | refine wp_ge ?_ | refine wp_eqi ?_ | refine wp_nei ?_ | refine wp_eqs ?_ | refine wp_nes ?_ | refine wp_eqb ?_ | refine wp_neb ?_
  | refine wp_is ?_ | refine wp_isN ?_ | refine wp_callB ?_ | refine wp_call ?_ | refine wp_go rfl ?_ | refine wp_meth ?_ | refine wp_make ?_ | refine wp_told ?_ | refine wp_get2 ?_
  | refine ws_nil ?_ | refine ws_seq ?_ | refine ws_expr ?_ | refine ws_ret ?_ | refine ws_retN ?_ | refine ws_if ?_ | refine ws_raise ?_ | refine ws_asgN ?_ | refine ws_asg ?_ | refine gp_n ?_ | refine gp_tup rfl ?_ | refine gp_cons ?_ | refine gp_nil ?_
  | refine ws_par ?_ | refine ws_par3 ?_ | refine ws_aug rfl ?_ | refine ws_fld ?_ | refine ws_sub ?_ | refine ws_del ?_ | refine ws_for ?_ | refine wp_lc ?_ | refine ip_seq ?_ | refine ip_r1 ?_ | refine ip_r2 ?_ | refine ip_r3 ?_
  | refine wp_tyes ?_ | refine wp_tupR ?_ | refine wp_zipL ?_ | refine tvT ?_ | refine tvK ?_ | refine wp_cut ?_ | refine wp_pno ?_ | refine wp_psome ?_ | refine wp_cutScr ?_ | refine wp_cutL ?_ | refine wp_cutT ?_ | refine wp_lenL ?_ | refine wp_lenT ?_ | refine wp_intI ?_ | refine wp_intB ?_ | refine wp_absI ?_ | refine wp_listT ?_ | refine wp_listL ?_ | refine wp_tupleL ?_ | refine wp_tupleT ?_ | refine wp_sumL ?_ | refine wp_any ?_ | refine wp_all ?_ | refine wp_sumG ?_ | refine wp_tupG ?_ | refine wp_bind ?_ | refine is1 ?_ | refine is2 ?_ | refine is3 ?_ | refine isI ?_ | refine isS ?_ | refine svL ?_ | refine svT ?_ | refine svK ?_ | refine lvL ?_ | refine ip_enum ?_ | refine ip_txt ?_)
local macro_rules | `(tactic| walk_at "ev") => `(tactic| repeat walk_at "ev1")
variable {h : HS} {c d0 o : Nat} {hw : W} {hs : List Int} {sg : List (Int × Int)}
theorem wp_init {hv tw : W} (sv : ∀ h, sview h hv = some (hs.map W.int)) (ns : ∀ z, hv ≠ .str z) (kp : ∀ h, keep hv (hs.map W.int) h = true) (sm : ∀ h, m_sum [hv] h = .ok (.int hs.sum) h) (tp : ∀ h, m_tuple [hv] h = .ok tw h)
    (l : hs.length = 7) (b : ∀ x ∈ hs, 0 ≤ x ∧ x ≤ 24) (s0 : hs.sum ≠ 0) (hc : h.at_ c = some (.ins 2 [] [])) (cn : c ≠ h.nx) {K : W → HS → Prop} {E : Nat → HS → Prop}
    (p : ∀ h', h'.at_ c = some (.ins 2 ["hours", "single"] [tw, .box h.nx]) → h'.at_ h.nx = some (.dic [] []) → (∀ m, m ≠ c → m ≠ h.nx → h'.at_ m = h.at_ m) → h'.nx = h.nx + 1 → K .non h') : Wp (f_Calendar___init__ [.box c, hv] h) K E := by
  refine wp_body ?_
  unfold b_Calendar___init__
  walk_at "ev"
  refine wp_len (sv h) ns ?_
  walk_at "ev"
  refine wp_neg (by simp [l]) ?_
  walk_at "ev"
  refine ⟨_, sv h, ?_⟩
  refine wp_anyW (fun _ => false) (kp h) (fun w hw => ?_) ?_
  · obtain ⟨x, hx, rfl⟩ := List.mem_map.mp hw
    have hb := b x hx
    unfold El
    walk_at "ev"
    refine ⟨rfl, rfl, fun _ => ?_⟩
    walk_at "ev"
    exact ⟨by simp [hb], rfl⟩
  · walk_at "ev"
    refine wp_neg (by simp) ?_
    walk_at "ev"
    refine wp_eq (sm h) (wp_ok ?_)
    walk_at "ev"
    refine ws_neg (by simpa using s0) ?_
    walk_at "ev"
    refine wp_eq (tp h) (wp_ok ?_)
    walk_at "ev"
    refine wp_setF hc rfl (by decide) rfl rfl ?_
    walk_at "ev"
    refine wp_setF (k := 2) (ks := ["hours"]) (ws := [tw]) (ks' := ["hours", "single"]) (ws' := [tw, .box h.nx]) (by show (if c = h.nx then _ else _) = _; rw [if_neg cn]; exact if_pos rfl) rfl (by decide) (by kernel_rfl) (by kernel_rfl) ?_
    walk_at "ev"
    refine p _ (if_pos rfl) ?_ ?_ rfl
    · show (if h.nx = c then _ else _) = _
      rw [if_neg (Ne.symm cn)]
      exact if_pos rfl
    · intro m m1 m2
      show (if m = c then _ else if m = h.nx then _ else if m = c then _ else h.at_ m) = _
      rw [if_neg m1, if_neg m2, if_neg m1]
theorem wp_set_day (C : Cal h c d0 hw hs sg) (nd : NdI sg) (l : sg.length < 1000) {d x : Int} {K : W → HS → Prop} {E : Nat → HS → Prop} (p : (0 ≤ d ∧ d ≤ 20000) ∧ 0 ≤ x ∧ x ≤ 24 → K .non (h.put d0 (.dic ((putI sg d x).map kI) ((putI sg d x).map vI)))) (q : ¬ ((0 ≤ d ∧ d ≤ 20000) ∧ 0 ≤ x ∧ x ≤ 24) → E 1 h) : Wp (f_Calendar_set_day [.box c, .int d, .int x] h) K E := by
  refine wp_body ?_
  unfold b_Calendar_set_day
  walk_at "ev"
  refine wp_eq week_day_eq ?_
  by_cases t : 0 ≤ d ∧ d ≤ 20000
  · rw [if_pos t]
    refine wp_ok ?_
    walk_at "ev"
    by_cases t2 : 0 ≤ x ∧ x ≤ 24
    · refine ws_neg (by simp [t2]) ?_
      walk_at "ev"
      refine wp_fld C.ins rfl rfl ?_
      walk_at "ev"
      refine wp_setI C.dic nd (by unfold sizeLine; omega) ?_
      exact p ⟨t, t2⟩
    · refine ws_pos (by simp; omega) ?_
      walk_at "ev"
      exact q fun z => t2 z.2
  · rw [if_neg t]
    exact q fun z => t z.1
theorem wp_clear_day (C : Cal h c d0 hw hs sg) {d : Int} {K : W → HS → Prop} {E : Nat → HS → Prop} (p : (lookI sg d).isSome = true → K .non (h.put d0 (.dic ((delI sg d).map kI) ((delI sg d).map vI)))) (q : (lookI sg d).isSome = false → E 1 h) : Wp (f_Calendar_clear_day [.box c, .int d] h) K E := by
  refine wp_body ?_
  unfold b_Calendar_clear_day
  walk_at "ev"
  refine wp_fld C.ins rfl rfl ?_
  refine wp_nin (win_I (dview_box C.dic) d) ?_
  walk_at "ev"
  cases t : (lookI sg d).isSome with
  | true =>
    refine ws_neg (by decide) ?_
    walk_at "ev"
    refine wp_fld C.ins rfl rfl ?_
    walk_at "ev"
    exact wp_delI C.dic t (p t)
  | false =>
    refine ws_pos (by decide) ?_
    walk_at "ev"
    exact q t
theorem wp_both {c2 d2 : Nat} {hw2 : W} {hs2 : List Int} {sg2 : List (Int × Int)} (C : Cal h c d0 hw hs sg) (C2 : Cal h c2 d2 hw2 hs2 sg2) {d m : Int} (hd : 0 ≤ d) (hm : 0 ≤ m) (hm2 : m ≤ 100) (hd2 : d ≤ 100) :
    f_both [.box c, .box c2, .int d, .int m] h = .ok (.tup (((iota d m.toNat).filter fun x => decide (0 < hoursOf hs sg x ∧ 0 < hoursOf hs2 sg2 x)).map W.int)) h := by
  refine eq_wp (wp_body ?_)
  unfold b_both
  refine ws_seq (ws_asgN ?_)
  walk_at "ev"
  refine ⟨C.insOf rfl, ?_⟩
  walk_at "ev"
  refine wp_eq (row_eq C hd hm hm2 hd2) (wp_ok ?_)
  walk_at "ev"
  refine ⟨C2.insOf rfl, ?_⟩
  walk_at "ev"
  refine wp_eq (row_eq C2 hd hm hm2 hd2) (wp_ok ?_)
  walk_at "ev"
  have el : enumW (((iota d m.toNat).map (fun x => W.int (hoursOf hs sg x)) |>.zip ((iota d m.toNat).map fun x => W.int (hoursOf hs2 sg2 x))).map fun p => W.tup [p.1, p.2]) = (iota d m.toNat).map fun x => W.tup [.int (x - d), .tup [.int (hoursOf hs sg x), .int (hoursOf hs2 sg2 x)]] := by
    rw [List.zip_map', List.map_map]
    unfold enumW
    refine List.ext_getElem (by simp) fun i h1 h2 => ?_
    simp [iota]
    omega
  rw [el]
  refine wp_tupX (fun x => W.tup [.int (x - d), .tup [.int (hoursOf hs sg x), .int (hoursOf hs2 sg2 x)]]) (fun x => decide (0 < hoursOf hs sg x ∧ 0 < hoursOf hs2 sg2 x)) W.int (by rw [iota_length]; unfold sizeLine; omega) rfl (fun x hx => ?_) rfl
  unfold El
  walk_at "ev"
  by_cases t : 0 < hoursOf hs sg x
  · refine wp_pos (by simpa using t) ?_
    walk_at "ev"
    refine ⟨by simp [t], rfl, fun _ => ?_⟩
    walk_at "ev"
    exact ⟨congrArg W.int (by omega), rfl⟩
  · refine wp_neg (by simpa using t) (wp_ok ?_)
    exact ⟨by simp [t], rfl, fun z => by cases z⟩
theorem every_tab : ∀ N : Nat, N < 51 → ∀ e : Nat, e < 13 → 0 < e → (List.range N).filter (fun i => decide (i / e * e = i)) = (List.range ((N + e - 1) / e)).map (· * e) := by decide +kernel
theorem nth_tab : ∀ d : Nat, d < 7 → ∀ w : Nat, w < 7 → ∀ n : Nat, n < 6 → ((List.range 60).filter (fun i => decide ((d + i) % 7 = w)))[n]? = some ((w + 7 - d) % 7 + 7 * n) := by decide +kernel
theorem every_eq {d e t : Int} (hd : 0 ≤ d) (hd2 : d ≤ 100) (he : 1 ≤ e) (he2 : e ≤ 12) (ht : 0 ≤ t) (ht2 : t ≤ 50) : f_every [.int d, .int e, .int t] h = .ok (.tup (((iota d (t - d).toNat).filter fun x => decide ((x - d) / e * e = x - d)).map W.int)) h := by
  refine eq_wp (wp_body ?_)
  unfold b_every
  walk_at "ev"
  refine wp_eq week_day_eq ?_
  rw [if_pos (by omega)]
  refine wp_ok ?_
  walk_at "ev"
  refine wp_neg (by simp; omega) ?_
  walk_at "ev"
  refine wp_div (by omega) ?_
  walk_at "ev"
  have q1 : (t - d + e - 1) / e ≤ 500 := by
    refine Int.le_trans (Int.ediv_le_ediv (by omega) (show t - d + e - 1 ≤ 200 by omega)) ?_
    refine Int.le_trans (Int.ediv_le_self _ (by decide)) (by decide)
  refine ws_neg (by simpa using q1) ?_
  walk_at "ev"
  obtain ⟨E', rfl⟩ : ∃ E' : Nat, e = E' := ⟨e.toNat, by omega⟩
  have rn : rgN d t E' = ((t - d).toNat + E' - 1) / E' := by
    unfold rgN Builtin.Range.rangeSize
    rw [if_pos (by omega)]
    split
    · rename_i lt
      obtain ⟨N, hN⟩ : ∃ N : Nat, t - d = N + 1 := ⟨(t - d - 1).toNat, by omega⟩
      rw [hN, show ((N : Int) + 1 - 1) = (N : Int) by omega, show ((N : Int) + 1).toNat = N + 1 by omega, show N + 1 + E' - 1 = N + E' by omega, Nat.add_div_right _ (by omega), ← Int.natCast_ediv]
      generalize N / E' = q
      omega
    · rename_i lt
      rw [show (t - d).toNat = 0 by omega, Nat.div_eq_of_lt (by omega)]
      rfl
  refine ⟨⟨rgOk_of (by omega) (by omega) (by omega) (by omega) (by omega) (by omega) (by omega), ?_⟩, ?_⟩
  · rw [rn]
    exact Nat.le_trans (Nat.div_le_self _ _) (by omega)
  rw [rn]
  congr 2
  have key := every_tab (t - d).toNat (by omega) E' (by omega) (by omega)
  have f1 : (iota d (t - d).toNat).filter (fun x => decide ((x - d) / (E' : Int) * E' = x - d)) = ((List.range (t - d).toNat).filter (fun i => decide (i / E' * E' = i))).map fun i => d + (i : Nat) := by
    unfold iota
    rw [List.filter_map]
    congr 1
    refine List.filter_congr fun i _ => ?_
    simp only [Function.comp_def]
    rw [show d + (i : Int) - d = (i : Int) by omega]
    refine decide_eq_decide.mpr ?_
    constructor
    · intro z; exact_mod_cast z
    · intro z; exact_mod_cast z
  rw [f1, key, List.map_map, List.map_map]
  unfold rItems
  refine List.map_congr_left fun i _ => ?_
  simp only [Function.comp_def]
  congr 1
theorem nth_in_eq {d w n : Int} (hd : 0 ≤ d) (hd2 : d ≤ 100) (w0 : 0 ≤ w) (w1 : w < 7) (n0 : 1 ≤ n) (n1 : n ≤ 6) : ∃ x, f_nth_in [.int d, .int w, .int n] h = .ok (.int x) h ∧ (((iota d 60).filter fun x => decide (x - x / 7 * 7 = w)))[(n - 1).toNat]? = some x := by
  refine ⟨d + (w - d % 7) % 7 + 7 * (n - 1), ?_, ?_⟩
  · refine eq_wp (wp_body ?_)
    unfold b_nth_in
    walk_at "ev"
    refine wp_neg (by simp; omega) ?_
    walk_at "ev"
    refine ws_neg (by simp; omega) ?_
    walk_at "ev"
    refine wp_eq week_day_eq ?_
    rw [if_pos (by omega)]
    refine wp_ok ?_
    walk_at "ev"
    refine wp_mod (by decide) ?_
    walk_at "ev"
    refine wp_mul (.inl (by decide)) ?_
    walk_at "ev"
    rfl
  · have key := nth_tab (d % 7).toNat (by omega) w.toNat (by omega) (n - 1).toNat (by omega)
    have f1 : (iota d 60).filter (fun x => decide (x - x / 7 * 7 = w)) = ((List.range 60).filter (fun i => decide (((d % 7).toNat + i) % 7 = w.toNat))).map fun i => d + (i : Nat) := by
      unfold iota
      rw [List.filter_map]
      congr 1
      refine List.filter_congr fun i _ => ?_
      simp only [Function.comp_def]
      refine decide_eq_decide.mpr ?_
      omega
    rw [f1, List.getElem?_map, key]
    simp only [Option.map_some, Option.some.injEq]
    omega

end K01
end

/-! Qe -/
section
set_option Elab.async false
set_option linter.all false
set_option maxRecDepth 100000
set_option maxHeartbeats 4000000
/-! texts -/
namespace Pk
open PySem PySem.Spec L2
open PySem.StrLaws Builtin.Str
theorem txt_ext {a b : Str} (e : a.cps.toList = b.cps.toList) : a = b := by
  cases a; cases b
  congr 1
  exact Array.toList_inj.mp e
theorem occ_first {x : Str} {c : Nat} {p q : List Nat} (e : x.cps.toList = p ++ c :: q) (hp : c ∉ p) : occurrences x ⟨#[c]⟩ 0 x.length 1 = [p.length] := by
  rw [occ_eq]
  have at_ : ∀ i : Nat, (i + (⟨#[c]⟩ : Str).length ≤ x.length ∧ subAt x ⟨#[c]⟩ i = true) ↔ x.cps.toList[i]? = some c := fun i => subAt_one x c i
  have before : ∀ i : Nat, i < p.length → x.cps.toList[i]? ≠ some c := fun i hi z => by
    rw [e, List.getElem?_append_left hi] at z
    exact hp (List.mem_of_getElem? z)
  have here : x.cps.toList[p.length]? = some c := by rw [e]; simp
  have stay : ∀ (l : List Nat) (a : Nat) (f : Nat), (forIn l ((#[a] : Array Nat), f) (occBody x ⟨#[c]⟩ x.length 1)).run.fst = #[a] := by
    intro l
    induction l with
    | nil => intro a f; rfl
    | cons i l ih =>
      intro a f
      rw [List.forIn_cons]
      unfold occBody
      rw [if_neg (by simp)]
      exact ih a f
  have run : ∀ (n i : Nat), i ≤ p.length → p.length < i + n → (forIn (List.range' i n) ((#[] : Array Nat), 0) (occBody x ⟨#[c]⟩ x.length 1)).run.fst = #[p.length] := by
    intro n
    induction n with
    | zero => intro i h1 h2; omega
    | succ n ih =>
      intro i h1 h2
      rw [List.range'_succ, List.forIn_cons]
      unfold occBody
      by_cases hi : i = p.length
      · subst hi
        have z := (at_ p.length).mpr here
        rw [if_pos ⟨⟨⟨by simp, Nat.zero_le _⟩, z.1⟩, z.2⟩]
        exact stay _ _ _
      · rw [if_neg (fun z => before i (by omega) ((at_ i).mp ⟨z.1.2, z.2⟩))]
        exact ih (i + 1) (by omega) (by omega)
  have hl : p.length < x.length := by
    have : x.cps.toList.length = x.length := Array.length_toList
    rw [← this, e]
    simp
  rw [run (x.length + 1 - 0) 0 (Nat.zero_le _) (by omega)]
theorem partition_one {x : Str} {c : Nat} {p q : List Nat} (e : x.cps.toList = p ++ c :: q) (hp : c ∉ p) : Txt.partition x ⟨#[c]⟩ = (⟨p.toArray⟩, ⟨#[c]⟩, ⟨q.toArray⟩) := by
  unfold Txt.partition
  rw [occ_first e hp]
  have hl : x.length = p.length + 1 + q.length := by
    have : x.cps.toList.length = x.length := Array.length_toList
    rw [← this, e]
    simp
    omega
  have z : (⟨#[c]⟩ : Str).length = 1 := rfl
  simp only [z]
  congr 1
  · refine txt_ext ?_
    unfold strSub
    simp [e]
  · congr 1
    refine txt_ext ?_
    unfold strSub
    simp [e, hl]
theorem startswith_one {x : Str} {c : Nat} {q : List Nat} (e : x.cps.toList = c :: q) : Txt.startswith x ⟨#[c]⟩ = true := by
  unfold Txt.startswith
  have := (subAt_one x c 0).mpr (by rw [e]; rfl)
  rw [Bool.and_eq_true, decide_eq_true_eq]
  exact this
theorem toList_app (a b : Str) : (a ++ b).cps.toList = a.cps.toList ++ b.cps.toList := by
  show (a.cps ++ b.cps).toList = _
  simp
theorem str_len (a : Str) : a.length = a.cps.toList.length := by simp [Str.length]
section
variable {K : W → HS → Prop} {E : Nat → HS → Prop} {h h1 : HS} {sl s : Sl} {c : Nat} {w x y : W} {fo fk fx fa fb fc f : Ex}
theorem wp_jsN {acc : Str} (p : K (.str acc) h) : Wp (eJs [] acc sl h) K E := p
theorem wp_jsC {fs : List Ex} {acc : Str} (p : Wp (f sl h) (fun x h1 => IsS x fun y => (acc ++ y).length ≤ sizeLine ∧ Wp (eJs fs (acc ++ y) sl h1) K E) E) : Wp (eJs (f :: fs) acc sl h) K E :=
  wp_bind (wp_mono p (fun _ _ ⟨_, e, l, q⟩ => by subst e; exact wp_pos l q) fun _ _ q => q)
theorem wp_fmt (p : Wp (fa sl h) (fun x h1 => Wp (fmtW x h1) K E) E) : Wp (eFmt fa sl h) K E := wp_bind p
theorem wp_fmtI {i : Int} (l : i.natAbs < 2 ^ 1920) (p : K (.str (toString i)) h) : Wp (fmtW (.int i) h) K E := by
  refine wp_pos (P := i.natAbs.log2 < 1920) ?_ p
  by_cases z : i.natAbs = 0
  · rw [z]; decide
  · exact (Nat.log2_lt z).mpr l
theorem wp_strI {i : Int} (l : i.natAbs < 2 ^ 1920) (p : K (.str (toString i)) h) : Wp (m_str [.int i] h) K E := by
  refine wp_pos (P := i.natAbs.log2 < 1920) ?_ p
  by_cases z : i.natAbs = 0
  · rw [z]; decide
  · exact (Nat.log2_lt z).mpr l
theorem wp_s1 {m : Str → W → HS → R W} {fe : Ex} (p : Wp (fo sl h) (fun x h1 => IsS x fun a => Wp (fe sl h1) (fun y h2 => Wp (m a y h2) K E) E) E) : Wp (eS1 m fo fe sl h) K E :=
  wp_bind (wp_mono p (fun _ _ ⟨_, e, q⟩ => by subst e; exact wp_bind q) fun _ _ q => q)
theorem wp_partition {a b : Str} (e : b.length ≠ 0 ∧ a.length ≤ sizeLine) (p : K (.tup [.str (Txt.partition a b).1, .str (Txt.partition a b).2.1, .str (Txt.partition a b).2.2]) h) : Wp (m_partition a (.str b) h) K E := wp_pos e p
theorem wp_starts {a b : Str} (p : K (.bl (Txt.startswith a b)) h) : Wp (m_startswith a (.str b) h) K E := p
theorem wp_cutStr {bx : Bool} {z : Str} {lo hi : Option Int} (e : z.length ≤ sizeLine) (p : K (.str (cutS z lo hi)) h) : Wp (wCut bx (.str z) lo hi h) K E := wp_pos e p
theorem wp_lenS {z : Str} (e : z.length ≤ sizeLine) (p : K (.int z.length) h) : Wp (m_len [.str z] h) K E := wp_pos e p
theorem wp_intS {a : Str} {n : Int} (e : PySem.intText? a = some n) (l : a.length ≤ 640) (p : K (.int n) h) : Wp (m_int [.str a] h) K E := by
  unfold m_int
  dsimp only
  rw [e]
  exact wp_pos l p
theorem wp_ixS {z : Str} {i : Int} {c : Nat} (e : z.length ≤ sizeLine) (e2 : atI z.cps.toList i = some c) (p : K (.str ⟨#[c]⟩) h) : Wp (wIx (.str z) (.int i) h) K E := by
  unfold wIx
  dsimp only
  rw [if_pos e, e2]
  exact p
theorem wp_tx {fr : Ax} {ys : List Str} (p : Wp (fr sl h) (fun ws h1 => strsOf ws = some ys ∧ ys.length ≤ sizeLine ∧ K (.tx ys) h1) E) : Wp (eTx fr sl h) K E :=
  wp_bind (wp_mono p (fun _ _ ⟨e, l, q⟩ => by rw [e]; exact wp_pos l q) fun _ _ q => q)
theorem wp_txIx {fe : Ex} (p : Wp (fo sl h) (fun x h1 => ∃ ys, x = .tx ys ∧ Wp (fe sl h1) (fun y h2 => ∃ z j, y = .str z ∧ ixOf z ys = some j ∧ K (.int (j : Nat)) h2) E) E) : Wp (eTxIx fo fe sl h) K E :=
  wp_bind (wp_mono p (fun _ _ ⟨_, e, q⟩ => by subst e; exact wp_bind (wp_mono q (fun _ _ ⟨_, _, e1, e2, q⟩ => by subst e1; unfold txIx; dsimp only; rw [e2]; exact q) fun _ _ q => q)) fun _ _ q => q)
theorem win_sign {c : Nat} {j : Str} : win h (.str ⟨#[c]⟩) (.str j) = some (decide (c ∈ j.cps.toList)) := rfl
end
end Pk
end

/-! Kn1 -/
section
set_option Elab.async false
set_option linter.all false
set_option maxRecDepth 100000
set_option maxHeartbeats 4000000
namespace Pk
open PySem PySem.Spec L2
/-- a number's text: its signs, from 1 to 2858 -/
def numOk (n : Nat) : Bool :=
  let s : Str := Str.ofString (toString (n : Int))
  decide (PySem.intText? s = some (n : Int)) && (decide (1 ≤ s.length) && (decide (s.length ≤ 4) && (s.cps.toList.all (fun c => decide (48 ≤ c) && decide (c ≤ 57)) && decide (s.cps.toList.head? ≠ some 48))))
theorem numOk_all : (List.range 2859).all (fun n => n == 0 || numOk n) = true := by kernel_rfl
theorem numOk_at {n : Nat} (h1 : 1 ≤ n) (h2 : n ≤ 2858) : numOk n = true := by
  have := List.all_eq_true.mp numOk_all n (List.mem_range.mpr (by omega))
  rw [Bool.or_eq_true] at this
  rcases this with z | z
  · rw [beq_iff_eq] at z; omega
  · exact z
structure NumS (s : Str) (n : Nat) : Prop where
  val : PySem.intText? s = some (n : Int)
  lo : 1 ≤ s.length
  hi : s.length ≤ 4
  dig : ∀ c ∈ s.cps.toList, 48 ≤ c ∧ c ≤ 57
  nz : s.cps.toList.head? ≠ some 48
theorem numS_at {n : Nat} (h1 : 1 ≤ n) (h2 : n ≤ 2858) : NumS (Str.ofString (toString (n : Int))) n := by
  have z := numOk_at h1 h2
  unfold numOk at z
  simp only [Bool.and_eq_true, decide_eq_true_eq, List.all_eq_true] at z
  exact ⟨z.1, z.2.1, z.2.2.1, z.2.2.2.1, z.2.2.2.2⟩
end Pk
end

/-! Kp7 -/
section
set_option Elab.async false
set_option linter.all false
set_option maxRecDepth 100000
set_option maxHeartbeats 4000000
namespace K01
open PySem PySem.Spec L2 Pk
local macro_rules | `(tactic| walk_at "ev1") => `(tactic| with_reducible first
  | refine wp_var rfl ?_ | refine wp_c ?_ | refine wp_bin ?_ | refine wp_un ?_ | refine wp_asB ?_ | refine wp_tval ?_ | refine wp_chain_ll ?_ | refine wp_chain_tt ?_ | refine wp_chain ?_ | refine wp_tand ?_ | refine wp_tor ?_ | refine wp_tnot ?_
  | refine wp_and ?_ | refine wp_or ?_ | refine wp_not ?_ | refine wp_if ?_ | refine wp_anil ?_ | refine wp_acons ?_ | refine wp_tup ?_ | refine wp_lst ?_ | refine wp_mkLf ?_ | refine wp_mkLt ?_ | refine wp_mkDf ?_ | refine wp_mkDt ?_
  | refine wp_add ?_ | refine wp_sub ?_ | refine wp_neg' ?_ | refine wp_kadd ?_ | refine wp_ksub ?_ | refine wp_lt ?_ | refine wp_le ?_ | refine wp_gt ?_ | refine wp_ge ?_ | refine wp_eqi ?_ | refine wp_nei ?_ | refine wp_eqs ?_ | refine wp_nes ?_ | refine wp_eqb ?_ | refine wp_neb ?_
  | refine wp_is ?_ | refine wp_isN ?_ | refine wp_callB ?_ | refine wp_call ?_ | refine wp_go rfl ?_ | refine wp_meth ?_ | refine wp_make ?_ | refine wp_told ?_ | refine wp_get2 ?_
  | refine ws_nil ?_ | refine ws_seq ?_ | refine ws_expr ?_ | refine ws_ret ?_ | refine ws_retN ?_ | refine ws_if ?_ | refine ws_raise ?_ | refine ws_asgN ?_ | refine ws_asg ?_ | refine gp_n ?_ | refine gp_tup rfl ?_ | refine gp_cons ?_ | refine gp_nil ?_
  | refine ws_par ?_ | refine ws_par3 ?_ | refine ws_aug rfl ?_ | refine ws_fld ?_ | refine ws_sub ?_ | refine ws_del ?_ | refine ws_for ?_ | refine wp_lc ?_ | refine ip_seq ?_ | refine ip_r1 ?_ | refine ip_r2 ?_ | refine ip_r3 ?_
  | refine wp_tyes ?_ | refine wp_ok ?_ | refine wp_tupR ?_ | refine wp_zipL ?_ | refine tvT ?_ | refine tvK ?_ | refine wp_cut ?_ | refine wp_pno ?_ | refine wp_psome ?_ | refine wp_cutScr ?_ | refine wp_cutL ?_ | refine wp_cutT ?_ | refine wp_lenL ?_ | refine wp_lenT ?_ | refine wp_intI ?_ | refine wp_intB ?_ | refine wp_absI ?_ | refine wp_listT ?_ | refine wp_listL ?_ | refine wp_tupleL ?_ | refine wp_tupleT ?_ | refine wp_sumL ?_ | refine wp_any ?_ | refine wp_all ?_ | refine wp_sumG ?_ | refine wp_tupG ?_ | refine wp_bind ?_ | refine is1 ?_ | refine is2 ?_ | refine is3 ?_ | refine isI ?_ | refine isS ?_ | refine svL ?_ | refine svT ?_ | refine svK ?_ | refine lvL ?_ | refine ip_enum ?_ | refine ip_txt ?_)
local macro_rules | `(tactic| walk_at "ev") => `(tactic| repeat walk_at "ev1")
variable {h : HS}
def nmL : List Str := ["mo", "tu", "we", "th", "fr", "sa", "su"]
def nmS (k : Nat) : Str := nmL.getD k Str.empty
def numT (n : Nat) : Str := Str.ofString (toString (n : Int))
/-- a day's text -/
def dayT (n k : Nat) : Str := ((("w" : Str) ++ numT n) ++ " ") ++ nmS k
theorem nmS_len : ∀ k : Nat, k < 7 → (nmS k).length = 2 := by decide +kernel
theorem nm_at : ∀ k : Nat, k < 7 → atI (nmL.map W.str) (k : Int) = some (.str (nmS k)) := by
  intro k hk
  match k, hk with
  | 0, _ => rfl
  | 1, _ => rfl
  | 2, _ => rfl
  | 3, _ => rfl
  | 4, _ => rfl
  | 5, _ => rfl
  | 6, _ => rfl
  | k + 7, h => omega
theorem len_app (a b : Str) : (a ++ b).length = a.length + b.length := by simp [str_len, toList_app]
theorem day_text_eq {n k : Nat} (h1 : 1 ≤ n) (h2 : n ≤ 2858) (hk : k < 7) (hf : 7 * (n - 1) + k ≤ 20000) : f_day_text [.int (7 * ((n : Int) - 1) + k)] h = .ok (.str (dayT n k)) h := by
  have N := numS_at h1 h2
  refine eq_wp (wp_body ?_)
  unfold b_day_text
  walk_at "ev"
  refine wp_jsC ?_
  walk_at "ev"
  refine ⟨by decide +kernel, ?_⟩
  refine wp_jsC (wp_fmt ?_)
  walk_at "ev"
  refine wp_div (by decide) ?_
  walk_at "ev"
  rw [show (7 * ((n : Int) - 1) + k) / 7 + 1 = (n : Int) by omega]
  refine wp_fmtI (by rw [Int.natAbs_natCast]; exact Nat.lt_of_le_of_lt h2 (by decide +kernel)) ?_
  walk_at "ev"
  have w0 : Str.empty ++ ("w" : Str) = ("w" : Str) := by decide +kernel
  have l1 : ("w" : Str).length = 1 := by decide +kernel
  have l2 : (" " : Str).length = 1 := by decide +kernel
  have l3 : (numT n).length ≤ 4 := N.hi
  have l4 := nmS_len k hk
  rw [w0]
  refine ⟨by show (("w" : Str) ++ numT n).length ≤ _; rw [len_app, l1]; unfold sizeLine; omega, ?_⟩
  refine wp_jsC ?_
  walk_at "ev"
  refine ⟨by show ((("w" : Str) ++ numT n) ++ (" " : Str)).length ≤ _; rw [len_app, len_app, l1, l2]; unfold sizeLine; omega, ?_⟩
  refine wp_jsN ?_
  walk_at "ev"
  refine wp_sz (by simp [sizeLine]) ?_
  walk_at "ev"
  refine wp_eq week_day_eq ?_
  rw [if_pos (by omega)]
  walk_at "ev"
  refine wp_ixL (ws := nmL.map W.str) (w := .str (nmS k)) rfl (fun _ q => by cases q) ?_ ?_
  · rw [show (7 * ((n : Int) - 1) + k) % 7 = (k : Int) by omega]
    exact nm_at k hk
  · refine wp_adds ?_ rfl
    show ((("w" : Str) ++ numT n) ++ (" " : Str)).length + (nmS k).length ≤ _
    rw [len_app, len_app, l1, l2, l4]
    unfold sizeLine; omega
theorem read_day_eq {n k : Nat} (h1 : 1 ≤ n) (h2 : n ≤ 2858) (hk : k < 7) (hf : 7 * (n - 1) + k ≤ 20000) : f_read_day [.str (dayT n k)] h = .ok (.int (7 * ((n : Int) - 1) + k)) h := by
  have N := numS_at h1 h2
  have hw : ("w" : Str).cps.toList = [119] := by decide +kernel
  have hb : (" " : Str) = ⟨#[32]⟩ := by decide +kernel
  have hbl : (" " : Str).cps.toList = [32] := by decide +kernel
  have hT : (dayT n k).cps.toList = (119 :: (numT n).cps.toList) ++ 32 :: (nmS k).cps.toList := by
    unfold dayT
    rw [toList_app, toList_app, toList_app, hw, hbl]
    simp
  have hL : (dayT n k).length ≤ 8 := by
    rw [str_len, hT]
    have := N.hi
    rw [str_len] at this
    have l4 := nmS_len k hk
    rw [str_len] at l4
    simp only [List.length_append, List.length_cons]
    show (numT n).cps.toList.length + 1 + _ ≤ 8
    have : (numT n).cps.toList.length ≤ 4 := this
    omega
  have hp : (32 : Nat) ∉ 119 :: (numT n).cps.toList := by
    intro z
    rcases List.mem_cons.mp z with z | z
    · cases z
    · have := N.dig 32 z; omega
  have P := partition_one hT hp
  have hnm : (⟨(nmS k).cps.toList.toArray⟩ : Str) = nmS k := txt_ext (by simp)
  refine eq_wp (wp_body ?_)
  unfold b_read_day
  walk_at "ev"
  refine wp_tx (ys := nmL) ?_
  walk_at "ev"
  refine ⟨rfl, by decide, ?_⟩
  walk_at "ev"
  refine wp_s1 ?_
  walk_at "ev"
  refine wp_partition ⟨by decide +kernel, by unfold sizeLine; omega⟩ ?_
  rw [hb, P, hnm]
  walk_at "ev"
  have hN : (numT n).cps.toList.length ≤ 4 := by have := N.hi; rw [str_len] at this; exact this
  have hN1 : 1 ≤ (numT n).cps.toList.length := by have := N.lo; rw [str_len] at this; exact this
  have cut : cutS (⟨(119 :: (numT n).cps.toList).toArray⟩ : Str) (some 1) none = numT n := by
    refine txt_ext ?_
    unfold cutS
    rw [show (some (1 : Int)) = some ((1 : Nat) : Int) from rfl, HT.sIx_nat, HT.sIx_none, show (⟨(119 :: (numT n).cps.toList).toArray⟩ : Str).length = (numT n).cps.toList.length + 1 from by simp [Str.length], show min 1 ((numT n).cps.toList.length + 1) = 1 by omega]
    simp
    exact List.take_of_length_le (by simp)
  refine wp_cutStr (by simp only [Str.length, List.size_toArray, List.length_cons]; unfold sizeLine; omega) ?_
  rw [cut]
  walk_at "ev"
  refine wp_s1 ?_
  walk_at "ev"
  refine wp_starts ?_
  have sw : Txt.startswith (⟨(119 :: (numT n).cps.toList).toArray⟩ : Str) "w" = true := by
    have e : ("w" : Str) = ⟨#[119]⟩ := by decide +kernel
    rw [e]
    exact startswith_one (q := (numT n).cps.toList) (by simp)
  rw [sw]
  walk_at "ev"
  refine wp_neg (by decide) ?_
  walk_at "ev"
  have inn : ∀ k : Nat, k < 7 → wNotInX (.str (nmS k)) (.tx nmL) h = .ok (.bl false) h := by
    intro k hk
    match k, hk with
    | 0, _ => kernel_rfl
    | 1, _ => kernel_rfl
    | 2, _ => kernel_rfl
    | 3, _ => kernel_rfl
    | 4, _ => kernel_rfl
    | 5, _ => kernel_rfl
    | 6, _ => kernel_rfl
    | k + 7, h => omega
  refine wp_eq (inn k hk) ?_
  walk_at "ev"
  refine wp_neg (by decide) ?_
  walk_at "ev"
  refine wp_lenS (by rw [str_len]; unfold sizeLine; omega) ?_
  walk_at "ev"
  have nl := N.lo
  have nh := N.hi
  refine ws_neg (by show ¬ (!decide (1 ≤ ((numT n).length : Int) ∧ ((numT n).length : Int) ≤ 4)) = true; rw [decide_eq_true (by show (1 : Int) ≤ ((Str.ofString (toString (n : Int))).length : Int) ∧ ((Str.ofString (toString (n : Int))).length : Int) ≤ 4; omega)]; decide) ?_
  walk_at "ev"
  refine wp_anyW (fun _ => false) rfl (fun w hw => ?_) ?_
  · obtain ⟨c, hc, rfl⟩ := List.mem_map.mp hw
    have dc := N.dig c hc
    unfold El
    walk_at "ev"
    refine ⟨rfl, rfl, fun _ => ?_⟩
    walk_at "ev"
    refine wp_nin (win_sign (c := c)) ?_
    refine ⟨?_, rfl⟩
    have dl : ("0123456789" : Str).cps.toList = [48, 49, 50, 51, 52, 53, 54, 55, 56, 57] := by decide +kernel
    have hm : c ∈ ("0123456789" : Str).cps.toList := by
      rw [dl]
      simp only [List.mem_cons, List.not_mem_nil, or_false]
      omega
    rw [decide_eq_true hm]
    rfl
  · walk_at "ev"
    refine wp_neg (by simp) ?_
    walk_at "ev"
    obtain ⟨c, q, hq⟩ : ∃ c q, (numT n).cps.toList = c :: q := by
      cases z : (numT n).cps.toList with
      | nil => rw [z] at hN1; simp at hN1
      | cons c q => exact ⟨c, q, rfl⟩
    have cn : c ≠ 48 := fun z => N.nz (by show (numT n).cps.toList.head? = _; rw [hq, z]; rfl)
    refine wp_ixS (by rw [str_len]; unfold sizeLine; omega) (c := c) (by rw [hq]; unfold atI ixN; simp) ?_
    walk_at "ev"
    have z0 : ("0" : Str) = ⟨#[48]⟩ := by decide +kernel
    refine ws_neg (by rw [z0]; simp [cn]) ?_
    walk_at "ev"
    refine wp_intS N.val (by have : (numT n).length ≤ 4 := N.hi; omega) ?_
    walk_at "ev"
    refine wp_mul (.inl (by decide)) ?_
    walk_at "ev"
    refine wp_txIx ?_
    walk_at "ev"
    have ix : ∀ k : Nat, k < 7 → ixOf (nmS k) nmL = some k := by decide +kernel
    refine ⟨nmL, rfl, ?_⟩
    walk_at "ev"
    refine ⟨nmS k, k, rfl, ix k hk, ?_⟩
    walk_at "ev"
    refine wp_eq week_day_eq ?_
    rw [if_pos (by omega)]
    walk_at "ev"
    rfl

end K01
end

/-! Kw0 -/
section
set_option Elab.async false
set_option linter.all false
set_option maxRecDepth 100000
namespace K01
open PySem PySem.Spec L2 Pk
def lw0 : Sx := (sAsg (eBin (wAdd false) (eLc false [21] (iR1 (aCons (eC (.int 6)) aNil)) (gN 21) tYesx (eBin wIx (eLst false (aCons (eC (.int 8)) (aCons (eC (.int 8)) (aCons (eC (.int 4)) (aCons (eC (.int 0)) aNil))))) (eCall 2 (n__law_roll 4) [] (aCons (eVar 2) (aCons (eC (.int 4)) aNil))))) (eLst false (aCons (eBin (wAdd false) (eC (.int 1)) (eCall 2 (n__law_roll 4) [] (aCons (eVar 2) (aCons (eC (.int 8)) aNil)))) aNil))) (gN 3))
def lw1 : Sx := (sAsg (eTup (aCons (eMake 2 2 f_Calendar___init__ [] (aCons (eVar 3) aNil)) (aCons (eDisp true [((eC (.str "hours")), (eVar 3)), ((eC (.str "single")), (eDnew false))]) aNil))) (gTupx (gConsx (gN 10) (gConsx (gN 11) gNilx))))
def lw2_0 : Sx := (sAsg (eTup (aCons (eBin wSub (eCall 2 (n__law_roll 4) [] (aCons (eVar 2) (aCons (eC (.int 40)) aNil))) (eBin (wMul false) (eCallB m_int (aCons (eBin wEq (eCall 2 (n__law_roll 4) [] (aCons (eVar 2) (aCons (eC (.int 12)) aNil))) (eC (.int 0))) aNil)) (eC (.int 40)))) (aCons (eCall 2 (n__law_roll 4) [] (aCons (eVar 2) (aCons (eC (.int 27)) aNil))) aNil))) (gTupx (gConsx (gN 12) (gConsx (gN 18) gNilx))))
def lw2_1 : Sx := (sIf (tVal (eBin wGt (eCall 2 (n__law_roll 4) [] (aCons (eVar 2) (aCons (eC (.int 4)) aNil))) (eC (.int 0)))) (sSeq (sAsg (eAnd (eBin wGe (eVar 12) (eC (.int 0))) (eBin wLt (eVar 18) (eC (.int 25)))) (gN 19)) (sSeq (sSub (eCallB (m_dict false) (aCons (eBin (wAdd false) (eItemsL false (eBin wIx (eVar 11) (eC (.str "single")))) (eBin (wMul false) (eLst false (aCons (eTup (aCons (eVar 12) (aCons (eVar 18) aNil))) aNil)) (eCallB m_int (aCons (eVar 19) aNil)))) aNil)) (eVar 11) (eC (.str "single"))) (sIf (tVal (eBin wNe (eBin wNe (eTold [1] "DayError" (eMeth 2 "set_day" 3 f_Calendar_set_day [] (eVar 10) (aCons (eVar 12) (aCons (eVar 18) aNil)))) (eC (.str "DayError"))) (eVar 19))) (sRet (eC (.bl false))) sNil))) (sSeq (sAsg (eBin wIn (eVar 12) (eBin wIx (eVar 11) (eC (.str "single")))) (gN 19)) (sSeq (sSub (eCallB (m_dict false) (aCons (eLc false [20] (iKeys (eBin wIx (eVar 11) (eC (.str "single")))) (gN 20) (tVal (eBin wNe (eVar 20) (eVar 12))) (eTup (aCons (eVar 20) (aCons (eBin wIx (eBin wIx (eVar 11) (eC (.str "single"))) (eVar 20)) aNil)))) aNil)) (eVar 11) (eC (.str "single"))) (sIf (tVal (eBin wNe (eBin wNe (eTold [1] "DayError" (eMeth 2 "clear_day" 2 f_Calendar_clear_day [] (eVar 10) (aCons (eVar 12) aNil))) (eC (.str "DayError"))) (eVar 19))) (sRet (eC (.bl false))) sNil))))
def lw2 : Sx := sFor (iR1 (aCons (eCall 2 (n__law_roll 4) [] (aCons (eVar 2) (aCons (eC (.int 13)) aNil))) aNil)) (gN 4) (sSeq lw2_0 lw2_1)
def lw3 : Sx := (sIf (tVal (eBin wNe (eLc false [12] (iR1 (aCons (eC (.int 50)) aNil)) (gN 12) tYesx (eMeth 2 "on" 2 f_Calendar_on [] (eVar 10) (aCons (eVar 12) aNil))) (eLc false [12] (iR1 (aCons (eC (.int 50)) aNil)) (gN 12) tYesx (eCall 2 f__law_hours [] (aCons (eVar 11) (aCons (eVar 12) aNil)))))) (sRet (eC (.bl false))) sNil)
def lw4 : Sx := (sIf (tOrx (tVal (eBin wNe (eUn (wFld [2] "single") (eVar 10)) (eBin wIx (eVar 11) (eC (.str "single"))))) (tVal (eBin wNe (eUn (wFld [2] "hours") (eVar 10)) (eCallB m_tuple (aCons (eVar 3) aNil))))) (sRet (eC (.bl false))) sNil)
def lw5 : Sx := (sAsg (eTup (aCons (eCall 2 (n__law_roll 4) [] (aCons (eVar 2) (aCons (eC (.int 40)) aNil))) (aCons (eCall 2 (n__law_roll 4) [] (aCons (eVar 2) (aCons (eC (.int 20)) aNil))) (aCons (eCall 2 (n__law_roll 4) [] (aCons (eVar 2) (aCons (eC (.int 50)) aNil))) aNil)))) (gTupx (gConsx (gN 12) (gConsx (gN 13) (gConsx (gN 14) gNilx)))))
def lw6 : Sx := (sAsg (eLc false [20] (iR1 (aCons (eVar 12) aNil)) (gN 20) (tVal (eBin wGt (eCall 2 f__law_hours [] (aCons (eVar 11) (aCons (eVar 20) aNil))) (eC (.int 0)))) (eVar 20)) (gN 5))
def lw7 : Sx := (sIf (tVal (eBin wNe (eMeth 2 "next_worked" 2 f_Calendar_next_worked [] (eVar 10) (aCons (eVar 12) aNil)) (eBin wIx (eCall 3 f__law_worked [] (aCons (eVar 11) (aCons (eVar 12) (aCons (eC (.int 1)) aNil)))) (eC (.int 0))))) (sRet (eC (.bl false))) sNil)
def lw8 : Sx := (sIf (tVal (eBin wNe (eMeth 2 "worked_ahead" 2 f_Calendar_worked_ahead [] (eVar 10) (aCons (eVar 12) aNil)) (eBin wIx (eBin (wAdd false) (eLst false (aCons (eC .non) aNil)) (eVar 5)) (eUn wNeg (eC (.int 1)))))) (sRet (eC (.bl false))) sNil)
def lw9 : Sx := (sIf (tVal (eBin wNe (eMeth 2 "after" 3 f_Calendar_after [] (eVar 10) (aCons (eVar 12) (aCons (eVar 13) aNil))) (eBin wIx (eCall 3 f__law_worked [] (aCons (eVar 11) (aCons (eVar 12) (aCons (eBin (wAdd false) (eVar 13) (eC (.int 1))) aNil)))) (eUn wNeg (eC (.int 1)))))) (sRet (eC (.bl false))) sNil)
def lw10 : Sx := (sAsg (eLc false [20] (iR2 (aCons (eVar 12) (aCons (eVar 14) aNil))) (gN 20) tYesx (eCall 2 f__law_hours [] (aCons (eVar 11) (aCons (eVar 20) aNil)))) (gN 6))
def lw11 : Sx := (sIf (tVal (eBin wNe (eTold [1] "DayError" (eMeth 2 "between" 3 f_Calendar_between [] (eVar 10) (aCons (eVar 12) (aCons (eVar 14) aNil)))) (eIf (tVal (eBin wGe (eVar 14) (eVar 12))) (eCallB m_len (aCons (eLc false [18] (iSeq (eVar 6)) (gN 18) (tVal (eBin wGt (eVar 18) (eC (.int 0)))) (eVar 18)) aNil)) (eC (.str "DayError"))))) (sRet (eC (.bl false))) sNil)
def lw12 : Sx := (sIf (tVal (eBin wNe (eTold [1] "DayError" (eMeth 2 "hours_between" 3 f_Calendar_hours_between [] (eVar 10) (aCons (eVar 12) (aCons (eVar 14) aNil)))) (eIf (tVal (eBin wGe (eVar 14) (eVar 12))) (eCallB m_sum (aCons (eVar 6) aNil)) (eC (.str "DayError"))))) (sRet (eC (.bl false))) sNil)
def lw13 : Sx := (sAsg (eCall 2 (n__law_roll 4) [] (aCons (eVar 2) (aCons (eC (.int 120)) aNil))) (gN 7))
def lw14 : Sx := (sIf (tVal (eBin wNe (eMeth 2 "done_on" 3 f_Calendar_done_on [] (eVar 10) (aCons (eVar 12) (aCons (eVar 7) aNil))) (eCall 3 f__law_done [] (aCons (eVar 11) (aCons (eVar 12) (aCons (eVar 7) aNil)))))) (sRet (eC (.bl false))) sNil)
def lw15 : Sx := (sIf (tVal (eBin wNe (eCallB (m_list false) (aCons (eMeth 2 "row" 3 f_Calendar_row [] (eVar 10) (aCons (eVar 12) (aCons (eVar 13) aNil))) aNil)) (eLc false [20] (iR2 (aCons (eVar 12) (aCons (eBin (wAdd false) (eVar 12) (eVar 13)) aNil))) (gN 20) tYesx (eCall 2 f__law_hours [] (aCons (eVar 11) (aCons (eVar 20) aNil)))))) (sRet (eC (.bl false))) sNil)
def lw16 : Sx := (sIf (tVal (eBin wNe (eCallB (m_list false) (aCons (eCall 4 f_both [] (aCons (eVar 10) (aCons (eMake 2 2 f_Calendar___init__ dw_Calendar___init__ aNil) (aCons (eVar 12) (aCons (eVar 13) aNil))))) aNil)) (eLc false [20] (iR2 (aCons (eVar 12) (aCons (eBin (wAdd false) (eVar 12) (eVar 13)) aNil))) (gN 20) (tAndx (tVal (eBin wGt (eCall 2 f__law_hours [] (aCons (eVar 11) (aCons (eVar 20) aNil))) (eC (.int 0)))) (tVal (eBin wLt (eBin wSub (eVar 20) (eBin (wMul false) (eBin wDiv (eVar 20) (eC (.int 7))) (eC (.int 7)))) (eC (.int 5))))) (eVar 20)))) (sRet (eC (.bl false))) sNil)
def lw17 : Sx := (sAsg (eTup (aCons (eBin (wAdd false) (eC (.int 1)) (eCall 2 (n__law_roll 4) [] (aCons (eVar 2) (aCons (eC (.int 12)) aNil)))) (aCons (eCall 2 (n__law_roll 4) [] (aCons (eVar 2) (aCons (eC (.int 7)) aNil))) (aCons (eBin (wAdd false) (eC (.int 1)) (eCall 2 (n__law_roll 4) [] (aCons (eVar 2) (aCons (eC (.int 6)) aNil)))) aNil)))) (gTupx (gConsx (gN 15) (gConsx (gN 16) (gConsx (gN 17) gNilx)))))
def lw18 : Sx := (sIf (tVal (eBin wNe (eCallB (m_list false) (aCons (eCall 3 f_every [] (aCons (eVar 12) (aCons (eVar 15) (aCons (eVar 14) aNil)))) aNil)) (eLc false [20] (iR2 (aCons (eVar 12) (aCons (eVar 14) aNil))) (gN 20) (tVal (eBin wEq (eBin (wMul false) (eBin wDiv (eBin wSub (eVar 20) (eVar 12)) (eVar 15)) (eVar 15)) (eBin wSub (eVar 20) (eVar 12)))) (eVar 20)))) (sRet (eC (.bl false))) sNil)
def lw19 : Sx := (sIf (tVal (eBin wNe (eCall 3 f_nth_in [] (aCons (eVar 12) (aCons (eVar 16) (aCons (eVar 17) aNil)))) (eBin wIx (eLc false [20] (iR2 (aCons (eVar 12) (aCons (eBin (wAdd false) (eVar 12) (eC (.int 60))) aNil))) (gN 20) (tVal (eBin wEq (eBin wSub (eVar 20) (eBin (wMul false) (eBin wDiv (eVar 20) (eC (.int 7))) (eC (.int 7)))) (eVar 16))) (eVar 20)) (eBin wSub (eVar 17) (eC (.int 1)))))) (sRet (eC (.bl false))) sNil)
def lw20 : Sx := (sAsg (eCall 2 (n__law_roll 4) [] (aCons (eVar 2) (aCons (eC (.int 20001)) aNil))) (gN 8))
def lw21 : Sx := (sAsg (eBin (wAdd false) (eBin (wAdd false) (eBin (wAdd false) (eC (.str "w")) (eCallB m_str (aCons (eBin (wAdd false) (eBin wDiv (eVar 8) (eC (.int 7))) (eC (.int 1))) aNil))) (eC (.str " "))) (eBin wIx (eVar 1) (eBin wSub (eVar 8) (eBin (wMul false) (eBin wDiv (eVar 8) (eC (.int 7))) (eC (.int 7)))))) (gN 9))
def lw22 : Sx := (sIf (tOrx (tVal (eBin wNe (eCall 1 f_day_text [] (aCons (eVar 8) aNil)) (eVar 9))) (tOrx (tVal (eBin wNe (eCall 1 f_read_day [] (aCons (eVar 9) aNil)) (eVar 8))) (tVal (eBin wNe (eCall 1 f_week_day [] (aCons (eVar 8) aNil)) (eBin wSub (eVar 8) (eBin (wMul false) (eBin wDiv (eVar 8) (eC (.int 7))) (eC (.int 7)))))))) (sRet (eC (.bl false))) sNil)
theorem b_law_eq : b_law = (sSeq (sAsg (eLst false (aCons (eC (.str "mo")) (aCons (eC (.str "tu")) (aCons (eC (.str "we")) (aCons (eC (.str "th")) (aCons (eC (.str "fr")) (aCons (eC (.str "sa")) (aCons (eC (.str "su")) aNil)))))))) (gN 1)) (sSeq (sFor (iSeq (eCall 2 f__law_rounds [] (aCons (eVar 0) (aCons (eC (.int 1)) aNil)))) (gN 2) (sSeq lw0 (sSeq lw1 (sSeq lw2 (sSeq lw3 (sSeq lw4 (sSeq lw5 (sSeq lw6 (sSeq lw7 (sSeq lw8 (sSeq lw9 (sSeq lw10 (sSeq lw11 (sSeq lw12 (sSeq lw13 (sSeq lw14 (sSeq lw15 (sSeq lw16 (sSeq lw17 (sSeq lw18 (sSeq lw19 (sSeq lw20 (sSeq lw21 lw22))))))))))))))))))))))) (sRet (eCall 0 f__law_plain [] aNil)))) := rfl
end K01
end

/-! Kp8 -/
section
set_option Elab.async false
set_option linter.all false
set_option maxRecDepth 100000
set_option maxHeartbeats 4000000
namespace K01
open PySem PySem.Spec L2 Pk
local macro_rules | `(tactic| walk_at "ev1") => `(tactic| with_reducible first
  | refine wp_var rfl ?_ | refine wp_c ?_ | refine wp_bin ?_ | refine wp_un ?_ | refine wp_asB ?_ | refine wp_tval ?_ | refine wp_chain_ll ?_ | refine wp_chain_tt ?_ | refine wp_chain ?_ | refine wp_tand ?_ | refine wp_tor ?_ | refine wp_tnot ?_
  | refine wp_and ?_ | refine wp_or ?_ | refine wp_not ?_ | refine wp_if ?_ | refine wp_anil ?_ | refine wp_acons ?_ | refine wp_tup ?_ | refine wp_lst ?_ | refine wp_mkLf ?_ | refine wp_mkLt ?_ | refine wp_mkDf ?_ | refine wp_mkDt ?_
  | refine wp_add ?_ | refine wp_sub ?_ | refine wp_neg' ?_ | refine wp_kadd ?_ | refine wp_ksub ?_ | refine wp_lt ?_ | refine wp_le ?_ | refine wp_gt ?_ | refine wp_ge ?_ | refine wp_eqi ?_ | refine wp_nei ?_ | refine wp_eqs ?_ | refine wp_nes ?_ | refine wp_eqb ?_ | refine wp_neb ?_
  | refine wp_is ?_ | refine wp_isN ?_ | refine wp_callB ?_ | refine wp_call ?_ | refine wp_go rfl ?_ | refine wp_meth ?_ | refine wp_make ?_ | refine wp_told ?_ | refine wp_get2 ?_
  | refine ws_nil ?_ | refine ws_seq ?_ | refine ws_expr ?_ | refine ws_ret ?_ | refine ws_retN ?_ | refine ws_if ?_ | refine ws_raise ?_ | refine ws_asgN ?_ | refine ws_asg ?_ | refine gp_n ?_ | refine gp_tup rfl ?_ | refine gp_cons ?_ | refine gp_nil ?_
  | refine ws_par ?_ | refine ws_par3 ?_ | refine ws_aug rfl ?_ | refine ws_fld ?_ | refine ws_sub ?_ | refine ws_del ?_ | refine ws_for ?_ | refine wp_lc ?_ | refine ip_seq ?_ | refine ip_r1 ?_ | refine ip_r2 ?_ | refine ip_r3 ?_
  | refine wp_tyes ?_ | refine wp_ok ?_ | refine wp_tupR ?_ | refine wp_zipL ?_ | refine tvT ?_ | refine tvK ?_ | refine wp_cut ?_ | refine wp_pno ?_ | refine wp_psome ?_ | refine wp_cutScr ?_ | refine wp_cutL ?_ | refine wp_cutT ?_ | refine wp_lenL ?_ | refine wp_lenT ?_ | refine wp_intI ?_ | refine wp_intB ?_ | refine wp_absI ?_ | refine wp_listT ?_ | refine wp_listL ?_ | refine wp_tupleL ?_ | refine wp_tupleT ?_ | refine wp_sumL ?_ | refine wp_any ?_ | refine wp_all ?_ | refine wp_sumG ?_ | refine wp_tupG ?_ | refine wp_bind ?_ | refine is1 ?_ | refine is2 ?_ | refine is3 ?_ | refine isI ?_ | refine isS ?_ | refine svL ?_ | refine svT ?_ | refine svK ?_ | refine lvL ?_ | refine ip_enum ?_ | refine ip_txt ?_)
local macro_rules | `(tactic| walk_at "ev") => `(tactic| repeat walk_at "ev1")
variable {h : HS} {hs : List Int} {sg : List (Int × Int)} {N : Sl → HS → Prop} {T : W → HS → Prop} {B C : Sl → HS → Prop} {E : Nat → HS → Prop} {t0 t1 t2 t3 t4 t5 t6 t7 t8 t9 t10 t11 t12 t13 t14 t15 t16 t17 t18 t19 t20 t21 : Option W}
/-- what holds of the week's hours, of single days -/
structure Gd (hs : List Int) (sg : List (Int × Int)) : Prop where
  len : hs.length = 7
  b : ∀ x ∈ hs, 0 ≤ x ∧ x ≤ 8
  su : 1 ≤ hs.getD 6 0
  nd : NdI sg
  sb : ∀ p ∈ sg, (0 ≤ p.1 ∧ p.1 < 40) ∧ 0 ≤ p.2 ∧ p.2 ≤ 24
  sl : sg.length < 100
structure LI (h : HS) (hs : List Int) (sg : List (Int × Int)) : Prop where
  dc : Dc h 0
  cal : Cal h 1 2 (.tup (hs.map W.int)) hs sg
  own : Own h 3 hs sg
  gd : Gd hs sg
theorem LI.roll (I : LI h hs sg) {h' : HS} (d : Dc h' 0) (f : ∀ m, m ≠ 0 → h'.at_ m = h.at_ m) : LI h' hs sg := by
  obtain ⟨a, b, c, g⟩ := I
  exact ⟨d, ⟨by rw [f 1 (by decide)]; exact b.ins, b.hv, by rw [f 2 (by decide)]; exact b.dic, b.len⟩, ⟨by rw [f 3 (by decide)]; exact c.at_, c.len⟩, g⟩
theorem Gd.hr (g : Gd hs sg) : Hr (hoursOf hs sg) := by
  have hb : ∀ i : Nat, 0 ≤ hs.getD i 0 ∧ hs.getD i 0 ≤ 8 := by
    intro i
    by_cases hi : i < hs.length
    · have := g.b hs[i] (List.getElem_mem hi)
      simpa [List.getD, List.getElem?_eq_getElem hi] using this
    · simp [List.getD, List.getElem?_eq_none (Nat.le_of_not_lt hi)]
  refine ⟨fun d => ?_, fun d => ?_, fun d h1 h2 => ?_⟩
  · unfold hoursOf
    cases e : lookI sg d with
    | none => exact (hb _).1
    | some x => exact (g.sb _ (lookI_mem e)).2.1
  · unfold hoursOf
    cases e : lookI sg d with
    | none => have := (hb (d % 7).toNat).2; show hs.getD (d % 7).toNat 0 ≤ 24; omega
    | some x => exact (g.sb _ (lookI_mem e)).2.2
  · unfold hoursOf
    have e : lookI sg d = none := lookI_none.mpr fun p hp z => by have := (g.sb p hp).1; omega
    rw [e, h2]
    have := g.su
    show hs.getD 6 0 ≠ 0
    omega
theorem okI (n : Nat) (l : List Int) : (l.map W.int).all (okW (n + 1)) = true := okW_ints n l
/-- the answers agree: on it goes -/
theorem wne_same {x : W} {K : W → HS → Prop} (e : weq h x x = some true) (p : K (.bl false) h) : Wp (wNe x x h) K E := wp_new (b := true) e p
theorem wne_ints {l : List Int} {K : W → HS → Prop} {E : Nat → HS → Prop} (p : K (.bl false) h) : Wp (wNe (.lst (l.map W.int)) (.lst (l.map W.int)) h) K E := wne_same (weq_lst (okI 7 l)) p

theorem w3 (I : LI h hs sg) (p : N [t0, t1, some (.box 0), some (.lst (hs.map W.int)), t4, t5, t6, t7, t8, t9, some (.box 1), some (.box 3), t12, t13, t14, t15, t16, t17, t18, t19, t20, t21] h) : Ws (lw3 [t0, t1, some (.box 0), some (.lst (hs.map W.int)), t4, t5, t6, t7, t8, t9, some (.box 1), some (.box 3), t12, t13, t14, t15, t16, t17, t18, t19, t20, t21] h) N T B C E := by
  have H := I.gd.hr
  unfold lw3
  walk_at "ev"
  refine ⟨by decide, ?_⟩
  rw [rItems_one]
  refine wp_lcI (fun _ => true) (fun x => .int (hoursOf hs sg x)) (by simp [sizeLine]) rfl (fun x hx => ?_) ?_
  · have hx := mem_iota.mp hx
    walk_at "ev"
    refine ⟨rfl, fun _ => ?_, rfl⟩
    walk_at "ev"
    refine ⟨I.cal.insOf rfl, ?_⟩
    walk_at "ev"
    exact on_wp I.cal (by omega) ⟨rfl, rfl⟩
  walk_at "ev"
  refine ⟨by decide, ?_⟩
  rw [rItems_one]
  refine wp_lcI (fun _ => true) (fun x => .int (hoursOf hs sg x)) (by simp [sizeLine]) rfl (fun x hx => ?_) ?_
  · have hx := mem_iota.mp hx
    walk_at "ev"
    refine ⟨rfl, fun _ => ?_, rfl⟩
    walk_at "ev"
    exact hours_wp I.own (by omega) ⟨rfl, rfl⟩
  walk_at "ev"
  rw [show ((iota 0 (Int.toNat 50)).filter fun _ => true).map (fun x => W.int (hoursOf hs sg x)) = (((iota 0 (Int.toNat 50)).filter fun _ => true).map (hoursOf hs sg)).map W.int from by rw [List.map_map]; rfl]
  refine wne_ints ?_
  walk_at "ev"
  refine ws_neg (by decide) ?_
  walk_at "ev"
  exact p
theorem w4 (I : LI h hs sg) (p : N [t0, t1, some (.box 0), some (.lst (hs.map W.int)), t4, t5, t6, t7, t8, t9, some (.box 1), some (.box 3), t12, t13, t14, t15, t16, t17, t18, t19, t20, t21] h) : Ws (lw4 [t0, t1, some (.box 0), some (.lst (hs.map W.int)), t4, t5, t6, t7, t8, t9, some (.box 1), some (.box 3), t12, t13, t14, t15, t16, t17, t18, t19, t20, t21] h) N T B C E := by
  unfold lw4
  walk_at "ev"
  refine wp_fld I.cal.ins rfl (w := .box 2) (by kernel_rfl) ?_
  walk_at "ev"
  refine wp_own I.own I.own.single ?_
  refine wp_new (weq_dicI I.gd.nd (dview_box I.cal.dic) rfl) ?_
  walk_at "ev"
  refine wp_neg (by decide) ?_
  walk_at "ev"
  refine wp_fld I.cal.ins rfl (w := .tup (hs.map W.int)) (by kernel_rfl) ?_
  walk_at "ev"
  refine wp_new (weq_tup (okI 7 hs)) ?_
  walk_at "ev"
  refine ws_neg (by decide) ?_
  walk_at "ev"
  exact p
theorem w5 (I : LI h hs sg) (p : ∀ (day many en : Int) h', LI h' hs sg → h'.nx = h.nx → 0 ≤ day ∧ day < 40 → 0 ≤ many ∧ many < 20 → 0 ≤ en ∧ en < 50 → N [t0, t1, some (.box 0), some (.lst (hs.map W.int)), t4, t5, t6, t7, t8, t9, some (.box 1), some (.box 3), some (.int day), some (.int many), some (.int en), t15, t16, t17, t18, t19, t20, t21] h') : Ws (lw5 [t0, t1, some (.box 0), some (.lst (hs.map W.int)), t4, t5, t6, t7, t8, t9, some (.box 1), some (.box 3), t12, t13, t14, t15, t16, t17, t18, t19, t20, t21] h) N T B C E := by
  unfold lw5
  walk_at "ev"
  refine wp_roll I.dc (by decide) (by decide) fun r h1 r0 r1 d1 f1 n1 => ?_
  have I1 := I.roll d1 f1
  walk_at "ev"
  refine wp_roll I1.dc (by decide) (by decide) fun r' h2 r0' r1' d2 f2 n2 => ?_
  have I2 := I1.roll d2 f2
  walk_at "ev"
  refine wp_roll I2.dc (by decide) (by decide) fun r'' h3 r0'' r1'' d3 f3 n3 => ?_
  have I3 := I2.roll d3 f3
  walk_at "ev"
  refine wp_sz (by simp [sizeLine]) ?_
  walk_at "ev"
  exact p _ _ _ _ I3 (by rw [n3, n2, n1]) ⟨r0, r1⟩ ⟨r0', r1'⟩ ⟨r0'', r1''⟩
variable {day many en : Int}
theorem w6 (I : LI h hs sg) (h1 : 0 ≤ day ∧ day < 40) (p : N [t0, t1, some (.box 0), some (.lst (hs.map W.int)), t4, some (.lst (((iota 0 day.toNat).filter fun x => decide (0 < hoursOf hs sg x)).map W.int)), t6, t7, t8, t9, some (.box 1), some (.box 3), some (.int day), some (.int many), some (.int en), t15, t16, t17, t18, t19, t20, t21] h) : Ws (lw6 [t0, t1, some (.box 0), some (.lst (hs.map W.int)), t4, t5, t6, t7, t8, t9, some (.box 1), some (.box 3), some (.int day), some (.int many), some (.int en), t15, t16, t17, t18, t19, t20, t21] h) N T B C E := by
  unfold lw6
  walk_at "ev"
  refine ⟨by omega, ?_⟩
  rw [rItems_one]
  refine wp_lcI (fun x => decide (0 < hoursOf hs sg x)) W.int (by rw [iota_length]; unfold sizeLine; omega) rfl (fun x hx => ?_) ?_
  · have hx := mem_iota.mp hx
    walk_at "ev"
    refine hours_wp I.own (by omega) ?_
    walk_at "ev"
    refine ⟨rfl, fun _ => ?_, rfl⟩
    walk_at "ev"
    exact ⟨rfl, rfl⟩
  walk_at "ev"
  exact p
theorem w7 (I : LI h hs sg) (h1 : 0 ≤ day ∧ day < 40) (p : N [t0, t1, some (.box 0), some (.lst (hs.map W.int)), t4, some (.lst (((iota 0 day.toNat).filter fun x => decide (0 < hoursOf hs sg x)).map W.int)), t6, t7, t8, t9, some (.box 1), some (.box 3), some (.int day), some (.int many), some (.int en), t15, t16, t17, t18, t19, t20, t21] h) : Ws (lw7 [t0, t1, some (.box 0), some (.lst (hs.map W.int)), t4, some (.lst (((iota 0 day.toNat).filter fun x => decide (0 < hoursOf hs sg x)).map W.int)), t6, t7, t8, t9, some (.box 1), some (.box 3), some (.int day), some (.int many), some (.int en), t15, t16, t17, t18, t19, t20, t21] h) N T B C E := by
  have H := I.gd.hr
  unfold lw7
  walk_at "ev"
  refine ⟨I.cal.insOf rfl, ?_⟩
  walk_at "ev"
  obtain ⟨n1, n2⟩ := H.nx h1.1
  refine wp_eq (next_eq I.cal n1 h1.1 (by omega)) ?_
  walk_at "ev"
  refine wp_eq (law_worked_eq I.own H h1.1 (by decide) (by decide) (by omega)) ?_
  walk_at "ev"
  refine wp_ixL rfl (fun _ q => by cases q) (w := .int (nx (hoursOf hs sg) day)) rfl ?_
  walk_at "ev"
  refine ws_neg (by simp) ?_
  walk_at "ev"
  exact p
theorem w8 (I : LI h hs sg) (h1 : 0 ≤ day ∧ day < 40) (p : N [t0, t1, some (.box 0), some (.lst (hs.map W.int)), t4, some (.lst (((iota 0 day.toNat).filter fun x => decide (0 < hoursOf hs sg x)).map W.int)), t6, t7, t8, t9, some (.box 1), some (.box 3), some (.int day), some (.int many), some (.int en), t15, t16, t17, t18, t19, t20, t21] h) : Ws (lw8 [t0, t1, some (.box 0), some (.lst (hs.map W.int)), t4, some (.lst (((iota 0 day.toNat).filter fun x => decide (0 < hoursOf hs sg x)).map W.int)), t6, t7, t8, t9, some (.box 1), some (.box 3), some (.int day), some (.int many), some (.int en), t15, t16, t17, t18, t19, t20, t21] h) N T B C E := by
  have H := I.gd.hr
  unfold lw8
  walk_at "ev"
  refine ⟨I.cal.insOf rfl, ?_⟩
  walk_at "ev"
  refine wp_eq (worked_ahead_eq I.cal h1.1 (by omega)) ?_
  walk_at "ev"
  refine wp_sz (by simp [sizeLine]) ?_
  walk_at "ev"
  generalize hl : (iota 0 day.toNat).filter (fun x => decide (0 < hoursOf hs sg x)) = l at p ⊢
  have ll : l.length ≤ 100 := by
    rw [← hl]
    refine Nat.le_trans (List.length_filter_le _ _) ?_
    rw [iota_length]; omega
  refine wp_addL (by simp [sizeLine]; omega) ?_
  walk_at "ev"
  refine wp_ixL rfl (fun _ q => by cases q) (w := optW l.getLast?) ?_ ?_
  · unfold atI ixN
    rw [if_neg (by decide), if_pos (by simp; omega)]
    simp only [List.length_append, List.length_cons, List.length_nil, List.length_map, Option.bind_some]
    rw [show ((-1 : Int) + ((0 + 1 + l.length : Nat) : Int)).toNat = l.length by omega]
    rcases List.eq_nil_or_concat l with e | ⟨l', x, e⟩
    · subst e; rfl
    · rw [e]; simp [List.getElem?_append, optW]
  have e : weq h (optW l.getLast?) (optW l.getLast?) = some true := by
    cases l.getLast? with
    | none => kernel_rfl
    | some x => show some (decide (x = x)) = _; simp
  refine wne_same e ?_
  walk_at "ev"
  refine ws_neg (by simp) ?_
  walk_at "ev"
  exact p
theorem w9 (I : LI h hs sg) (h1 : 0 ≤ day ∧ day < 40) (h2 : 0 ≤ many ∧ many < 20) (p : N [t0, t1, some (.box 0), some (.lst (hs.map W.int)), t4, some (.lst (((iota 0 day.toNat).filter fun x => decide (0 < hoursOf hs sg x)).map W.int)), t6, t7, t8, t9, some (.box 1), some (.box 3), some (.int day), some (.int many), some (.int en), t15, t16, t17, t18, t19, t20, t21] h) : Ws (lw9 [t0, t1, some (.box 0), some (.lst (hs.map W.int)), t4, some (.lst (((iota 0 day.toNat).filter fun x => decide (0 < hoursOf hs sg x)).map W.int)), t6, t7, t8, t9, some (.box 1), some (.box 3), some (.int day), some (.int many), some (.int en), t15, t16, t17, t18, t19, t20, t21] h) N T B C E := by
  have H := I.gd.hr
  unfold lw9
  walk_at "ev"
  refine ⟨I.cal.insOf rfl, ?_⟩
  walk_at "ev"
  refine wp_eq (after_eq I.cal H h1.1 (by omega) h2.1 (by omega)) ?_
  walk_at "ev"
  refine wp_eq (law_worked_eq I.own H h1.1 (by omega) (by omega) (by omega)) ?_
  walk_at "ev"
  refine wp_ixL rfl (fun _ q => by cases q) (w := .int (aft (hoursOf hs sg) day many.toNat)) ?_ ?_
  · unfold atI ixN
    rw [if_neg (by decide), if_pos (by rw [List.length_map, wk_length]; omega), List.length_map, wk_length]
    show (_ : List W)[((-1 : Int) + ((many + 1).toNat : Int)).toNat]? = _
    rw [show ((-1 : Int) + ((many + 1).toNat : Int)).toNat = many.toNat by omega, List.getElem?_map, show (many + 1).toNat = many.toNat + 1 by omega, wk_last]
    rfl
  walk_at "ev"
  refine ws_neg (by simp) ?_
  walk_at "ev"
  exact p
theorem w10 (I : LI h hs sg) (h1 : 0 ≤ day ∧ day < 40) (h3 : 0 ≤ en ∧ en < 50) (p : N [t0, t1, some (.box 0), some (.lst (hs.map W.int)), t4, some (.lst (((iota 0 day.toNat).filter fun x => decide (0 < hoursOf hs sg x)).map W.int)), some (.lst (((iota day (en - day).toNat).map (hoursOf hs sg)).map W.int)), t7, t8, t9, some (.box 1), some (.box 3), some (.int day), some (.int many), some (.int en), t15, t16, t17, t18, t19, t20, t21] h) : Ws (lw10 [t0, t1, some (.box 0), some (.lst (hs.map W.int)), t4, some (.lst (((iota 0 day.toNat).filter fun x => decide (0 < hoursOf hs sg x)).map W.int)), t6, t7, t8, t9, some (.box 1), some (.box 3), some (.int day), some (.int many), some (.int en), t15, t16, t17, t18, t19, t20, t21] h) N T B C E := by
  unfold lw10
  walk_at "ev"
  refine ⟨by omega, ?_⟩
  rw [rItems_one]
  refine wp_lcI (fun _ => true) (fun x => .int (hoursOf hs sg x)) (by rw [iota_length]; unfold sizeLine; omega) rfl (fun x hx => ?_) ?_
  · have hx := mem_iota.mp hx
    walk_at "ev"
    refine ⟨rfl, fun _ => ?_, rfl⟩
    walk_at "ev"
    exact hours_wp I.own (by omega) ⟨rfl, rfl⟩
  walk_at "ev"
  rw [List.filter_eq_self.mpr (fun _ _ => rfl), show (iota day (en - day).toNat).map (fun x => W.int (hoursOf hs sg x)) = ((iota day (en - day).toNat).map (hoursOf hs sg)).map W.int from by rw [List.map_map]; rfl]
  exact p
theorem w11 (I : LI h hs sg) (h1 : 0 ≤ day ∧ day < 40) (h3 : 0 ≤ en ∧ en < 50) (p : N [t0, t1, some (.box 0), some (.lst (hs.map W.int)), t4, some (.lst (((iota 0 day.toNat).filter fun x => decide (0 < hoursOf hs sg x)).map W.int)), some (.lst (((iota day (en - day).toNat).map (hoursOf hs sg)).map W.int)), t7, t8, t9, some (.box 1), some (.box 3), some (.int day), some (.int many), some (.int en), t15, t16, t17, t18, t19, t20, t21] h) : Ws (lw11 [t0, t1, some (.box 0), some (.lst (hs.map W.int)), t4, some (.lst (((iota 0 day.toNat).filter fun x => decide (0 < hoursOf hs sg x)).map W.int)), some (.lst (((iota day (en - day).toNat).map (hoursOf hs sg)).map W.int)), t7, t8, t9, some (.box 1), some (.box 3), some (.int day), some (.int many), some (.int en), t15, t16, t17, t18, t19, t20, t21] h) N T B C E := by
  have H := I.gd.hr
  unfold lw11
  walk_at "ev"
  refine ⟨I.cal.insOf rfl, ?_⟩
  walk_at "ev"
  refine wp_eq (between_eq I.cal h1.1 (by omega) (by omega)) ?_
  by_cases q : en < day
  · rw [if_pos q]
    refine wp_exc ⟨rfl, ?_⟩
    walk_at "ev"
    refine wp_neg (by simpa using q) ?_
    walk_at "ev"
    refine ws_neg (by simp) ?_
    walk_at "ev"
    exact p
  · rw [if_neg q]
    walk_at "ev"
    refine wp_pos (by simp; omega) ?_
    walk_at "ev"
    refine wp_lcI (fun x => decide (0 < x)) W.int (by rw [List.length_map, iota_length]; unfold sizeLine; omega) rfl (fun x hx => ?_) ?_
    · walk_at "ev"
      refine ⟨rfl, fun _ => ?_, rfl⟩
      walk_at "ev"
      exact ⟨rfl, rfl⟩
    walk_at "ev"
    refine ws_neg ?_ ?_
    · rw [List.filter_map]
      simp [Function.comp_def]
    walk_at "ev"
    exact p
theorem w12 (I : LI h hs sg) (h1 : 0 ≤ day ∧ day < 40) (h3 : 0 ≤ en ∧ en < 50) (p : N [t0, t1, some (.box 0), some (.lst (hs.map W.int)), t4, some (.lst (((iota 0 day.toNat).filter fun x => decide (0 < hoursOf hs sg x)).map W.int)), some (.lst (((iota day (en - day).toNat).map (hoursOf hs sg)).map W.int)), t7, t8, t9, some (.box 1), some (.box 3), some (.int day), some (.int many), some (.int en), t15, t16, t17, t18, t19, t20, t21] h) : Ws (lw12 [t0, t1, some (.box 0), some (.lst (hs.map W.int)), t4, some (.lst (((iota 0 day.toNat).filter fun x => decide (0 < hoursOf hs sg x)).map W.int)), some (.lst (((iota day (en - day).toNat).map (hoursOf hs sg)).map W.int)), t7, t8, t9, some (.box 1), some (.box 3), some (.int day), some (.int many), some (.int en), t15, t16, t17, t18, t19, t20, t21] h) N T B C E := by
  have H := I.gd.hr
  unfold lw12
  walk_at "ev"
  refine ⟨I.cal.insOf rfl, ?_⟩
  walk_at "ev"
  refine wp_eq (hours_between_eq I.cal H h1.1 (by omega) (by omega)) ?_
  by_cases q : en < day
  · rw [if_pos q]
    refine wp_exc ⟨rfl, ?_⟩
    walk_at "ev"
    refine wp_neg (by simpa using q) ?_
    walk_at "ev"
    refine ws_neg (by simp) ?_
    walk_at "ev"
    exact p
  · rw [if_neg q]
    walk_at "ev"
    refine wp_pos (by simp; omega) ?_
    walk_at "ev"
    refine ws_neg (by simp) ?_
    walk_at "ev"
    exact p
theorem w13 (I : LI h hs sg) (p : ∀ (work : Int) h', LI h' hs sg → h'.nx = h.nx → 0 ≤ work ∧ work < 120 → N [t0, t1, some (.box 0), some (.lst (hs.map W.int)), t4, some (.lst (((iota 0 day.toNat).filter fun x => decide (0 < hoursOf hs sg x)).map W.int)), some (.lst (((iota day (en - day).toNat).map (hoursOf hs sg)).map W.int)), some (.int work), t8, t9, some (.box 1), some (.box 3), some (.int day), some (.int many), some (.int en), t15, t16, t17, t18, t19, t20, t21] h') : Ws (lw13 [t0, t1, some (.box 0), some (.lst (hs.map W.int)), t4, some (.lst (((iota 0 day.toNat).filter fun x => decide (0 < hoursOf hs sg x)).map W.int)), some (.lst (((iota day (en - day).toNat).map (hoursOf hs sg)).map W.int)), t7, t8, t9, some (.box 1), some (.box 3), some (.int day), some (.int many), some (.int en), t15, t16, t17, t18, t19, t20, t21] h) N T B C E := by
  unfold lw13
  walk_at "ev"
  refine wp_roll I.dc (by decide) (by decide) fun r h1 r0 r1 d1 f1 n1 => ?_
  exact p _ _ (I.roll d1 f1) n1 ⟨r0, r1⟩
variable {work : Int}
theorem w14 (I : LI h hs sg) (h1 : 0 ≤ day ∧ day < 40) (h4 : 0 ≤ work ∧ work < 120) (p : N [t0, t1, some (.box 0), some (.lst (hs.map W.int)), t4, some (.lst (((iota 0 day.toNat).filter fun x => decide (0 < hoursOf hs sg x)).map W.int)), some (.lst (((iota day (en - day).toNat).map (hoursOf hs sg)).map W.int)), some (.int work), t8, t9, some (.box 1), some (.box 3), some (.int day), some (.int many), some (.int en), t15, t16, t17, t18, t19, t20, t21] h) : Ws (lw14 [t0, t1, some (.box 0), some (.lst (hs.map W.int)), t4, some (.lst (((iota 0 day.toNat).filter fun x => decide (0 < hoursOf hs sg x)).map W.int)), some (.lst (((iota day (en - day).toNat).map (hoursOf hs sg)).map W.int)), some (.int work), t8, t9, some (.box 1), some (.box 3), some (.int day), some (.int many), some (.int en), t15, t16, t17, t18, t19, t20, t21] h) N T B C E := by
  have H := I.gd.hr
  unfold lw14
  walk_at "ev"
  refine ⟨I.cal.insOf rfl, ?_⟩
  walk_at "ev"
  obtain ⟨q, q1, q2⟩ := done_on_eq I.cal H h1.1 (by omega) h4.1 h4.2
  refine wp_eq q2 ?_
  walk_at "ev"
  refine wp_eq (law_done_eq I.own H h1.1 (by omega)) ?_
  rw [q1]
  walk_at "ev"
  refine wne_same (x := pairW q) (weq_tup (ws := [.int q.1, .int q.2]) rfl) ?_
  walk_at "ev"
  refine ws_neg (by simp) ?_
  walk_at "ev"
  exact p
theorem w15 (I : LI h hs sg) (h1 : 0 ≤ day ∧ day < 40) (h2 : 0 ≤ many ∧ many < 20) (p : N [t0, t1, some (.box 0), some (.lst (hs.map W.int)), t4, some (.lst (((iota 0 day.toNat).filter fun x => decide (0 < hoursOf hs sg x)).map W.int)), some (.lst (((iota day (en - day).toNat).map (hoursOf hs sg)).map W.int)), some (.int work), t8, t9, some (.box 1), some (.box 3), some (.int day), some (.int many), some (.int en), t15, t16, t17, t18, t19, t20, t21] h) : Ws (lw15 [t0, t1, some (.box 0), some (.lst (hs.map W.int)), t4, some (.lst (((iota 0 day.toNat).filter fun x => decide (0 < hoursOf hs sg x)).map W.int)), some (.lst (((iota day (en - day).toNat).map (hoursOf hs sg)).map W.int)), some (.int work), t8, t9, some (.box 1), some (.box 3), some (.int day), some (.int many), some (.int en), t15, t16, t17, t18, t19, t20, t21] h) N T B C E := by
  have H := I.gd.hr
  unfold lw15
  walk_at "ev"
  refine ⟨I.cal.insOf rfl, ?_⟩
  walk_at "ev"
  refine wp_eq (row_eq I.cal h1.1 h2.1 (by omega) (by omega)) ?_
  walk_at "ev"
  refine ⟨by omega, ?_⟩
  rw [rItems_one, show (day + many - day).toNat = many.toNat by congr 1; omega]
  refine wp_lcI (fun _ => true) (fun x => .int (hoursOf hs sg x)) (by rw [iota_length]; unfold sizeLine; omega) rfl (fun x hx => ?_) ?_
  · have hx := mem_iota.mp hx
    walk_at "ev"
    refine ⟨rfl, fun _ => ?_, rfl⟩
    walk_at "ev"
    exact hours_wp I.own (by omega) ⟨rfl, rfl⟩
  walk_at "ev"
  rw [List.filter_eq_self.mpr (fun _ _ => rfl), show (iota day many.toNat).map (fun x => W.int (hoursOf hs sg x)) = ((iota day many.toNat).map (hoursOf hs sg)).map W.int from by rw [List.map_map]; rfl]
  refine wne_ints ?_
  walk_at "ev"
  refine ws_neg (by decide) ?_
  walk_at "ev"
  exact p

end K01
end

/-! Kp9 -/
section
set_option Elab.async false
set_option linter.all false
set_option maxRecDepth 100000
set_option maxHeartbeats 4000000
namespace K01
open PySem PySem.Spec L2 Pk
local macro_rules | `(tactic| walk_at "ev1") => `(tactic| with_reducible first
  | refine wp_var rfl ?_ | refine wp_c ?_ | refine wp_bin ?_ | refine wp_un ?_ | refine wp_asB ?_ | refine wp_tval ?_ | refine wp_chain_ll ?_ | refine wp_chain_tt ?_ | refine wp_chain ?_ | refine wp_tand ?_ | refine wp_tor ?_ | refine wp_tnot ?_
  | refine wp_and ?_ | refine wp_or ?_ | refine wp_not ?_ | refine wp_if ?_ | refine wp_anil ?_ | refine wp_acons ?_ | refine wp_tup ?_ | refine wp_lst ?_ | refine wp_mkLf ?_ | refine wp_mkLt ?_ | refine wp_mkDf ?_ | refine wp_mkDt ?_
  | refine wp_add ?_ | refine wp_sub ?_ | refine wp_neg' ?_ | refine wp_kadd ?_ | refine wp_ksub ?_ | refine wp_lt ?_ | refine wp_le ?_ | refine wp_gt ?_ | refine wp_ge ?_ | refine wp_eqi ?_ | refine wp_nei ?_ | refine wp_eqs ?_ | refine wp_nes ?_ | refine wp_eqb ?_ | refine wp_neb ?_
  | refine wp_is ?_ | refine wp_isN ?_ | refine wp_callB ?_ | refine wp_call ?_ | refine wp_go rfl ?_ | refine wp_meth ?_ | refine wp_make ?_ | refine wp_told ?_ | refine wp_get2 ?_
  | refine ws_nil ?_ | refine ws_seq ?_ | refine ws_expr ?_ | refine ws_ret ?_ | refine ws_retN ?_ | refine ws_if ?_ | refine ws_raise ?_ | refine ws_asgN ?_ | refine ws_asg ?_ | refine gp_n ?_ | refine gp_tup rfl ?_ | refine gp_cons ?_ | refine gp_nil ?_
  | refine ws_par ?_ | refine ws_par3 ?_ | refine ws_aug rfl ?_ | refine ws_fld ?_ | refine ws_sub ?_ | refine ws_del ?_ | refine ws_for ?_ | refine wp_lc ?_ | refine ip_seq ?_ | refine ip_r1 ?_ | refine ip_r2 ?_ | refine ip_r3 ?_
  | refine wp_tyes ?_ | refine wp_ok ?_ | refine wp_tupR ?_ | refine wp_zipL ?_ | refine tvT ?_ | refine tvK ?_ | refine wp_cut ?_ | refine wp_pno ?_ | refine wp_psome ?_ | refine wp_cutScr ?_ | refine wp_cutL ?_ | refine wp_cutT ?_ | refine wp_lenL ?_ | refine wp_lenT ?_ | refine wp_intI ?_ | refine wp_intB ?_ | refine wp_absI ?_ | refine wp_listT ?_ | refine wp_listL ?_ | refine wp_tupleL ?_ | refine wp_tupleT ?_ | refine wp_sumL ?_ | refine wp_any ?_ | refine wp_all ?_ | refine wp_sumG ?_ | refine wp_tupG ?_ | refine wp_bind ?_ | refine is1 ?_ | refine is2 ?_ | refine is3 ?_ | refine isI ?_ | refine isS ?_ | refine svL ?_ | refine svT ?_ | refine svK ?_ | refine lvL ?_ | refine ip_enum ?_ | refine ip_txt ?_)
local macro_rules | `(tactic| walk_at "ev") => `(tactic| repeat walk_at "ev1")
variable {h : HS} {hs : List Int} {sg : List (Int × Int)} {N : Sl → HS → Prop} {T : W → HS → Prop} {B C : Sl → HS → Prop} {E : Nat → HS → Prop} {t0 t1 t2 t3 t4 t5 t6 t7 t8 t9 t10 t11 t12 t13 t14 t15 t16 t17 t18 t19 t20 t21 : Option W} {day many en : Int}
def hs8 : List Int := [8, 8, 8, 8, 8, 0, 0]
theorem hours8 (x : Int) : decide (0 < hoursOf hs8 [] x) = decide (x - x / 7 * 7 < 5) := by
  have key : ∀ k : Nat, k < 7 → (0 < hs8.getD k 0 ↔ k < 5) := by decide
  refine decide_eq_decide.mpr ?_
  show 0 < hs8.getD (x % 7).toNat 0 ↔ _
  rw [key _ (by omega)]
  omega
theorem w16 (I : LI h hs sg) (hx : h.nx = 4) (h1 : 0 ≤ day ∧ day < 40) (h2 : 0 ≤ many ∧ many < 20) (p : ∀ h', LI h' hs sg → h'.nx = 6 → N [t0, t1, some (.box 0), some (.lst (hs.map W.int)), t4, t5, t6, t7, t8, t9, some (.box 1), some (.box 3), some (.int day), some (.int many), some (.int en), t15, t16, t17, t18, t19, t20, t21] h') : Ws (lw16 [t0, t1, some (.box 0), some (.lst (hs.map W.int)), t4, t5, t6, t7, t8, t9, some (.box 1), some (.box 3), some (.int day), some (.int many), some (.int en), t15, t16, t17, t18, t19, t20, t21] h) N T B C E := by
  have H := I.gd.hr
  unfold lw16
  walk_at "ev"
  rw [hx]
  refine wp_init (hs := hs8) (hv := .kt (hs8.map W.int)) (tw := .kt (hs8.map W.int)) (fun _ => rfl) (fun _ q => by cases q) (fun _ => rfl) (fun _ => by kernel_rfl) (fun _ => rfl) rfl (by decide) (by decide) (by show (if 4 = h.nx then _ else _) = _; rw [hx]; rfl) (by show 4 ≠ h.nx + 1; omega) fun h' a1 a2 a3 a4 => ?_
  have n1 : (h.new (.ins 2 [] [])).nx = 5 := by show h.nx + 1 = 5; omega
  rw [n1] at a1 a2 a3 a4
  have old : ∀ m, m < 4 → h'.at_ m = h.at_ m := fun m hm => by
    rw [a3 m (by omega) (by omega)]
    show (if m = h.nx then _ else _) = _
    rw [if_neg (by omega)]
  have I' : LI h' hs sg := by
    obtain ⟨⟨x, y, z, a⟩, b, c, g⟩ := I
    exact ⟨⟨x, y, z, by rw [old 0 (by decide)]; exact a⟩, ⟨by rw [old 1 (by decide)]; exact b.ins, b.hv, by rw [old 2 (by decide)]; exact b.dic, b.len⟩, ⟨by rw [old 3 (by decide)]; exact c.at_, c.len⟩, g⟩
  have C8 : Cal h' 4 5 (.kt (hs8.map W.int)) hs8 [] := ⟨a1, rfl, a2, rfl⟩
  refine ⟨rfl, ?_⟩
  walk_at "ev"
  refine wp_eq (wp_both I'.cal C8 h1.1 h2.1 (by omega) (by omega)) ?_
  walk_at "ev"
  refine ⟨by omega, ?_⟩
  rw [rItems_one, show (day + many - day).toNat = many.toNat by congr 1; omega]
  refine wp_lcI (fun x => decide (0 < hoursOf hs sg x ∧ 0 < hoursOf hs8 [] x)) W.int (by rw [iota_length]; unfold sizeLine; omega) rfl (fun x hx => ?_) ?_
  · have hx := mem_iota.mp hx
    walk_at "ev"
    refine hours_wp I'.own (by omega) ?_
    walk_at "ev"
    by_cases q : 0 < hoursOf hs sg x
    · refine wp_pos (by simpa using q) ?_
      walk_at "ev"
      refine wp_div (by decide) ?_
      walk_at "ev"
      refine wp_mul (.inr (by decide)) ?_
      walk_at "ev"
      refine ⟨?_, fun _ => ?_, rfl⟩
      · rw [← hours8]; simp [q]
      · walk_at "ev"
        exact ⟨rfl, rfl⟩
    · refine wp_neg (by simpa using q) ?_
      walk_at "ev"
      exact ⟨by simp [q], fun z => (by cases z), rfl⟩
  walk_at "ev"
  refine wne_ints ?_
  walk_at "ev"
  refine ws_neg (by decide) ?_
  walk_at "ev"
  exact p _ I' (by rw [a4])
theorem w17 (I : LI h hs sg) (p : ∀ (each week number : Int) h', LI h' hs sg → h'.nx = h.nx → 1 ≤ each ∧ each ≤ 12 → 0 ≤ week ∧ week < 7 → 1 ≤ number ∧ number ≤ 6 → N [t0, t1, some (.box 0), some (.lst (hs.map W.int)), t4, t5, t6, t7, t8, t9, some (.box 1), some (.box 3), some (.int day), some (.int many), some (.int en), some (.int each), some (.int week), some (.int number), t18, t19, t20, t21] h') : Ws (lw17 [t0, t1, some (.box 0), some (.lst (hs.map W.int)), t4, t5, t6, t7, t8, t9, some (.box 1), some (.box 3), some (.int day), some (.int many), some (.int en), t15, t16, t17, t18, t19, t20, t21] h) N T B C E := by
  unfold lw17
  walk_at "ev"
  refine wp_roll I.dc (by decide) (by decide) fun r h1 r0 r1 d1 f1 n1 => ?_
  have I1 := I.roll d1 f1
  walk_at "ev"
  refine wp_roll I1.dc (by decide) (by decide) fun r' h2 r0' r1' d2 f2 n2 => ?_
  have I2 := I1.roll d2 f2
  walk_at "ev"
  refine wp_roll I2.dc (by decide) (by decide) fun r'' h3 r0'' r1'' d3 f3 n3 => ?_
  have I3 := I2.roll d3 f3
  walk_at "ev"
  exact p _ _ _ _ I3 (by rw [n3, n2, n1]) ⟨by omega, by omega⟩ ⟨r0', r1'⟩ ⟨by omega, by omega⟩
variable {each week number : Int}
theorem w18 (I : LI h hs sg) (h1 : 0 ≤ day ∧ day < 40) (h3 : 0 ≤ en ∧ en < 50) (h4 : 1 ≤ each ∧ each ≤ 12) (p : N [t0, t1, some (.box 0), some (.lst (hs.map W.int)), t4, t5, t6, t7, t8, t9, some (.box 1), some (.box 3), some (.int day), some (.int many), some (.int en), some (.int each), some (.int week), some (.int number), t18, t19, t20, t21] h) : Ws (lw18 [t0, t1, some (.box 0), some (.lst (hs.map W.int)), t4, t5, t6, t7, t8, t9, some (.box 1), some (.box 3), some (.int day), some (.int many), some (.int en), some (.int each), some (.int week), some (.int number), t18, t19, t20, t21] h) N T B C E := by
  unfold lw18
  walk_at "ev"
  refine wp_eq (every_eq h1.1 (by omega) h4.1 h4.2 h3.1 (by omega)) ?_
  walk_at "ev"
  refine ⟨by omega, ?_⟩
  rw [rItems_one]
  refine wp_lcI (fun x => decide ((x - day) / each * each = x - day)) W.int (by rw [iota_length]; unfold sizeLine; omega) rfl (fun x hx => ?_) ?_
  · have hx := mem_iota.mp hx
    walk_at "ev"
    refine wp_div (by omega) ?_
    walk_at "ev"
    refine wp_mul (.inr (by omega)) ?_
    walk_at "ev"
    refine ⟨rfl, fun _ => ?_, rfl⟩
    walk_at "ev"
    exact ⟨rfl, rfl⟩
  walk_at "ev"
  refine wne_ints ?_
  walk_at "ev"
  refine ws_neg (by decide) ?_
  walk_at "ev"
  exact p
theorem w19 (I : LI h hs sg) (h1 : 0 ≤ day ∧ day < 40) (h4 : 0 ≤ week ∧ week < 7) (h5 : 1 ≤ number ∧ number ≤ 6) (p : N [t0, t1, some (.box 0), some (.lst (hs.map W.int)), t4, t5, t6, t7, t8, t9, some (.box 1), some (.box 3), some (.int day), some (.int many), some (.int en), some (.int each), some (.int week), some (.int number), t18, t19, t20, t21] h) : Ws (lw19 [t0, t1, some (.box 0), some (.lst (hs.map W.int)), t4, t5, t6, t7, t8, t9, some (.box 1), some (.box 3), some (.int day), some (.int many), some (.int en), some (.int each), some (.int week), some (.int number), t18, t19, t20, t21] h) N T B C E := by
  unfold lw19
  walk_at "ev"
  obtain ⟨x, e1, e2⟩ := nth_in_eq (h := h) h1.1 (by omega) h4.1 h4.2 h5.1 h5.2
  refine wp_eq e1 ?_
  walk_at "ev"
  refine ⟨by omega, ?_⟩
  rw [rItems_one, show (day + 60 - day).toNat = 60 by omega]
  refine wp_lcI (fun x => decide (x - x / 7 * 7 = week)) W.int (by rw [iota_length]; unfold sizeLine; omega) rfl (fun x hx => ?_) ?_
  · have hx := mem_iota.mp hx
    walk_at "ev"
    refine wp_div (by decide) ?_
    walk_at "ev"
    refine wp_mul (.inr (by decide)) ?_
    walk_at "ev"
    refine ⟨rfl, fun _ => ?_, rfl⟩
    walk_at "ev"
    exact ⟨rfl, rfl⟩
  walk_at "ev"
  refine wp_ixL rfl (fun _ q => by cases q) (w := .int x) ?_ ?_
  · have hl := (List.getElem?_eq_some_iff.mp e2).1
    unfold atI ixN
    rw [if_pos (by omega), if_pos (by rw [List.length_map]; omega)]
    show (_ : List W)[(number - 1).toNat]? = _
    rw [List.getElem?_map, e2]
    rfl
  walk_at "ev"
  refine ws_neg (by simp) ?_
  walk_at "ev"
  exact p
theorem w20 (I : LI h hs sg) (p : ∀ (far : Int) h', LI h' hs sg → h'.nx = h.nx → 0 ≤ far ∧ far < 20001 → N [t0, t1, some (.box 0), some (.lst (hs.map W.int)), t4, t5, t6, t7, some (.int far), t9, some (.box 1), some (.box 3), some (.int day), some (.int many), some (.int en), some (.int each), some (.int week), some (.int number), t18, t19, t20, t21] h') : Ws (lw20 [t0, t1, some (.box 0), some (.lst (hs.map W.int)), t4, t5, t6, t7, t8, t9, some (.box 1), some (.box 3), some (.int day), some (.int many), some (.int en), some (.int each), some (.int week), some (.int number), t18, t19, t20, t21] h) N T B C E := by
  unfold lw20
  walk_at "ev"
  refine wp_roll I.dc (by decide) (by decide) fun r h1 r0 r1 d1 f1 n1 => ?_
  exact p _ _ (I.roll d1 f1) n1 ⟨r0, r1⟩
variable {n k : Nat}
theorem w21 (h1 : 1 ≤ n) (h2 : n ≤ 2858) (hk : k < 7) (p : N [t0, some (.lst (nmL.map W.str)), some (.box 0), some (.lst (hs.map W.int)), t4, t5, t6, t7, some (.int (7 * ((n : Int) - 1) + k)), some (.str (dayT n k)), some (.box 1), some (.box 3), some (.int day), some (.int many), some (.int en), some (.int each), some (.int week), some (.int number), t18, t19, t20, t21] h) : Ws (lw21 [t0, some (.lst (nmL.map W.str)), some (.box 0), some (.lst (hs.map W.int)), t4, t5, t6, t7, some (.int (7 * ((n : Int) - 1) + k)), t9, some (.box 1), some (.box 3), some (.int day), some (.int many), some (.int en), some (.int each), some (.int week), some (.int number), t18, t19, t20, t21] h) N T B C E := by
  have N' := numS_at h1 h2
  unfold lw21
  walk_at "ev"
  refine wp_div (by decide) ?_
  walk_at "ev"
  rw [show (7 * ((n : Int) - 1) + k) / 7 + 1 = (n : Int) by omega]
  refine wp_strI (by rw [Int.natAbs_natCast]; exact Nat.lt_of_le_of_lt h2 (by decide +kernel)) ?_
  walk_at "ev"
  have l1 : ("w" : Str).length = 1 := by decide +kernel
  have l2 : (" " : Str).length = 1 := by decide +kernel
  have l3 : (numT n).length ≤ 4 := N'.hi
  have l4 := nmS_len k hk
  refine wp_adds (by show ("w" : Str).length + (numT n).length ≤ _; rw [l1]; unfold sizeLine; omega) ?_
  walk_at "ev"
  refine wp_adds (by show (("w" : Str) ++ numT n).length + (" " : Str).length ≤ _; rw [len_app, l1, l2]; unfold sizeLine; omega) ?_
  walk_at "ev"
  refine wp_div (by decide) ?_
  walk_at "ev"
  refine wp_mul (.inr (by decide)) ?_
  walk_at "ev"
  refine wp_ixL (ws := nmL.map W.str) (w := .str (nmS k)) rfl (fun _ q => by cases q) ?_ ?_
  · rw [show (7 * ((n : Int) - 1) + k) - (7 * ((n : Int) - 1) + k) / 7 * 7 = (k : Int) by omega]
    exact nm_at k hk
  refine wp_adds (by show ((("w" : Str) ++ numT n) ++ (" " : Str)).length + (nmS k).length ≤ _; rw [len_app, len_app, l1, l2, l4]; unfold sizeLine; omega) ?_
  exact p
theorem w22 (h1 : 1 ≤ n) (h2 : n ≤ 2858) (hk : k < 7) (hf : 7 * (n - 1) + k ≤ 20000) (p : N [t0, some (.lst (nmL.map W.str)), some (.box 0), some (.lst (hs.map W.int)), t4, t5, t6, t7, some (.int (7 * ((n : Int) - 1) + k)), some (.str (dayT n k)), some (.box 1), some (.box 3), some (.int day), some (.int many), some (.int en), some (.int each), some (.int week), some (.int number), t18, t19, t20, t21] h) : Ws (lw22 [t0, some (.lst (nmL.map W.str)), some (.box 0), some (.lst (hs.map W.int)), t4, t5, t6, t7, some (.int (7 * ((n : Int) - 1) + k)), some (.str (dayT n k)), some (.box 1), some (.box 3), some (.int day), some (.int many), some (.int en), some (.int each), some (.int week), some (.int number), t18, t19, t20, t21] h) N T B C E := by
  unfold lw22
  walk_at "ev"
  refine wp_eq (day_text_eq h1 h2 hk hf) ?_
  walk_at "ev"
  refine wp_neg (by simp) ?_
  walk_at "ev"
  refine wp_eq (read_day_eq h1 h2 hk hf) ?_
  walk_at "ev"
  refine wp_neg (by simp) ?_
  walk_at "ev"
  refine wp_eq week_day_eq ?_
  rw [if_pos (by omega)]
  walk_at "ev"
  refine wp_div (by decide) ?_
  walk_at "ev"
  refine wp_mul (.inr (by decide)) ?_
  walk_at "ev"
  refine ws_neg (by simp; omega) ?_
  walk_at "ev"
  exact p

end K01
end

/-! Kp10 -/
section
set_option Elab.async false
set_option linter.all false
set_option maxRecDepth 100000
set_option maxHeartbeats 4000000
namespace K01
open PySem PySem.Spec L2 Pk
local macro_rules | `(tactic| walk_at "ev1") => `(tactic| with_reducible first
  | refine wp_var rfl ?_ | refine wp_c ?_ | refine wp_bin ?_ | refine wp_un ?_ | refine wp_asB ?_ | refine wp_tval ?_ | refine wp_chain_ll ?_ | refine wp_chain_tt ?_ | refine wp_chain ?_ | refine wp_tand ?_ | refine wp_tor ?_ | refine wp_tnot ?_
  | refine wp_and ?_ | refine wp_or ?_ | refine wp_not ?_ | refine wp_if ?_ | refine wp_anil ?_ | refine wp_acons ?_ | refine wp_tup ?_ | refine wp_lst ?_ | refine wp_mkLf ?_ | refine wp_mkLt ?_ | refine wp_mkDf ?_ | refine wp_mkDt ?_
  | refine wp_add ?_ | refine wp_sub ?_ | refine wp_neg' ?_ | refine wp_kadd ?_ | refine wp_ksub ?_ | refine wp_lt ?_ | refine wp_le ?_ | refine wp_gt ?_ | refine wp_ge ?_ | refine wp_eqi ?_ | refine wp_nei ?_ | refine wp_eqs ?_ | refine wp_nes ?_ | refine wp_eqb ?_ | refine wp_neb ?_
  | refine wp_is ?_ | refine wp_isN ?_ | refine wp_callB ?_ | refine wp_call ?_ | refine wp_go rfl ?_ | refine wp_meth ?_ | refine wp_make ?_ | refine wp_told ?_ | refine wp_get2 ?_
  | refine ws_nil ?_ | refine ws_seq ?_ | refine ws_expr ?_ | refine ws_ret ?_ | refine ws_retN ?_ | refine ws_if ?_ | refine ws_raise ?_ | refine ws_asgN ?_ | refine ws_asg ?_ | refine gp_n ?_ | refine gp_tup rfl ?_ | refine gp_cons ?_ | refine gp_nil ?_
  | refine ws_par ?_ | refine ws_par3 ?_ | refine ws_aug rfl ?_ | refine ws_fld ?_ | refine ws_sub ?_ | refine ws_del ?_ | refine ws_for ?_ | refine wp_lc ?_ | refine ip_seq ?_ | refine ip_r1 ?_ | refine ip_r2 ?_ | refine ip_r3 ?_
  | refine wp_tyes ?_ | refine wp_ok ?_ | refine wp_tupR ?_ | refine wp_zipL ?_ | refine tvT ?_ | refine tvK ?_ | refine wp_cut ?_ | refine wp_pno ?_ | refine wp_psome ?_ | refine wp_cutScr ?_ | refine wp_cutL ?_ | refine wp_cutT ?_ | refine wp_lenL ?_ | refine wp_lenT ?_ | refine wp_intI ?_ | refine wp_intB ?_ | refine wp_absI ?_ | refine wp_listT ?_ | refine wp_listL ?_ | refine wp_tupleL ?_ | refine wp_tupleT ?_ | refine wp_sumL ?_ | refine wp_any ?_ | refine wp_all ?_ | refine wp_sumG ?_ | refine wp_tupG ?_ | refine wp_bind ?_ | refine is1 ?_ | refine is2 ?_ | refine is3 ?_ | refine isI ?_ | refine isS ?_ | refine svL ?_ | refine svT ?_ | refine svK ?_ | refine lvL ?_ | refine ip_enum ?_ | refine ip_txt ?_)
local macro_rules | `(tactic| walk_at "ev") => `(tactic| repeat walk_at "ev1")
variable {h : HS} {hs : List Int} {sg : List (Int × Int)} {N : Sl → HS → Prop} {T : W → HS → Prop} {B C : Sl → HS → Prop} {E : Nat → HS → Prop} {t0 t1 t2 t3 t4 t5 t6 t7 t8 t9 t10 t11 t12 t13 t14 t15 t16 t17 t18 t19 t20 t21 : Option W} {day many en : Int}
theorem menu (r : Int) (h0 : 0 ≤ r) (h1 : r < 4) : ∃ x, atI [W.int 8, W.int 8, W.int 4, W.int 0] r = some (.int x) ∧ 0 ≤ x ∧ x ≤ 8 := by
  have : r = 0 ∨ r = 1 ∨ r = 2 ∨ r = 3 := by omega
  rcases this with e | e | e | e <;> subst e <;> exact ⟨_, rfl, by decide, by decide⟩
theorem w0 (d : Dc h 0) (hx : h.nx = 1) (p : ∀ (hs : List Int) h', Dc h' 0 → h'.nx = 1 → hs.length = 7 → (∀ x ∈ hs, 0 ≤ x ∧ x ≤ 8) → 1 ≤ hs.getD 6 0 → N [t0, t1, some (.box 0), some (.lst (hs.map W.int)), t4, t5, t6, t7, t8, t9, t10, t11, t12, t13, t14, t15, t16, t17, t18, t19, t20, t21] h') : Ws (lw0 [t0, t1, some (.box 0), t3, t4, t5, t6, t7, t8, t9, t10, t11, t12, t13, t14, t15, t16, t17, t18, t19, t20, t21] h) N T B C E := by
  unfold lw0
  walk_at "ev"
  refine ⟨by decide, ?_⟩
  refine wp_lcLoopI (fun i acc h' => Dc h' 0 ∧ h'.nx = 1 ∧ ∃ l : List Int, acc = l.map W.int ∧ l.length = i ∧ ∀ x ∈ l, 0 ≤ x ∧ x ≤ 8) ⟨d, hx, [], rfl, rfl, fun x hx => by cases hx⟩ (by simp [sizeLine, rItems]) (fun _ _ _ _ _ => rfl) ?_ ?_
  · rintro i w acc h' e ⟨d', n', l, rfl, hl, hb⟩
    walk_at "ev"
    refine ⟨fun _ => ?_, fun z => by cases z⟩
    walk_at "ev"
    refine wp_sz (by simp [sizeLine]) ?_
    walk_at "ev"
    refine wp_roll d' (by decide) (by decide) fun r h1 r0 r1 d1 f1 n1 => ?_
    obtain ⟨x, x1, x2⟩ := menu r r0 r1
    refine wp_ixL rfl (fun _ q => by cases q) x1 ?_
    refine ⟨d1, by rw [n1, n'], l ++ [x], by simp, by simp [hl], fun y hy => ?_⟩
    rcases List.mem_append.mp hy with hy | hy
    · exact hb y hy
    · rw [List.mem_singleton.mp hy]; exact x2
  · rintro acc h' ⟨d', n', l, rfl, hl, hb⟩
    have hl : l.length = 6 := hl
    walk_at "ev"
    refine wp_roll d' (by decide) (by decide) fun r h1 r0 r1 d1 f1 n1 => ?_
    walk_at "ev"
    refine wp_sz (by simp [sizeLine]) ?_
    walk_at "ev"
    refine wp_addL (by rw [List.length_map, hl]; simp [sizeLine]) ?_
    walk_at "ev"
    have e : l.map W.int ++ [W.int (1 + r)] = (l ++ [1 + r]).map W.int := by simp
    rw [e]
    refine p (l ++ [1 + r]) h1 d1 (by rw [n1, n']) (by simp [hl]) (fun y hy => ?_) ?_
    · rcases List.mem_append.mp hy with hy | hy
      · exact hb y hy
      · rw [List.mem_singleton.mp hy]; omega
    · simp [List.getD, List.getElem?_append, hl]
      omega
theorem sum_pos {l : List Int} (h : ∀ x ∈ l, 0 ≤ x) : 0 ≤ l.sum := by
  induction l with
  | nil => simp
  | cons x l ih =>
    rw [List.sum_cons]
    have := h x List.mem_cons_self
    have := ih fun y hy => h y (List.mem_cons_of_mem _ hy)
    omega
theorem sum_one {l : List Int} (h : ∀ x ∈ l, 0 ≤ x) {i : Nat} (g : 1 ≤ l.getD i 0) : l.sum ≠ 0 := by
  induction l generalizing i with
  | nil => simp at g
  | cons x l ih =>
    rw [List.sum_cons]
    have h1 := h x List.mem_cons_self
    have h2 := sum_pos fun y hy => h y (List.mem_cons_of_mem _ hy)
    cases i with
    | zero => have g : 1 ≤ x := by simpa using g
              omega
    | succ i =>
      have := ih (fun y hy => h y (List.mem_cons_of_mem _ hy)) (i := i) (by simpa using g)
      omega
theorem wp_disp {bx : Bool} {prs : List (Ex × Ex)} {sl : Sl} {K : W → HS → Prop} {E : Nat → HS → Prop} (p : Wp (prsM prs sl h) (fun ps h1 => ps.length ≤ 15 ∧ Wp (mkD bx (mergeP ps ([], [])).1 (mergeP ps ([], [])).2 h1) K E) E) : Wp (eDisp bx prs sl h) K E := wp_bind (wp_mono p (fun _ _ q => wp_pos q.1 q.2) fun _ _ q => q)
theorem wp_prsN {sl : Sl} {K : List (Key × W) → HS → Prop} {E : Nat → HS → Prop} (p : K [] h) : Wp (prsM [] sl h) K E := p
theorem wp_prsC {fk fv : Ex} {r : List (Ex × Ex)} {sl : Sl} {K : List (Key × W) → HS → Prop} {E : Nat → HS → Prop} (p : Wp (fk sl h) (fun k h1 => Wp (fv sl h1) (fun v h2 => ∃ j, kOf k = some (.k j) ∧ Wp (prsM r sl h2) (fun ps h3 => K ((j, v) :: ps) h3) E) NoE) NoE) : Wp (prsM ((fk, fv) :: r) sl h) K E :=
  wp_bind (wp_noX (wp_mono p (fun _ _ q => wp_bind (wp_noX (wp_mono q (fun _ _ ⟨_, e, q⟩ => by rw [e]; exact wp_bind q) fun _ _ q => q))) fun _ _ q => q))
theorem w1 (d : Dc h 0) (hx : h.nx = 1) (l7 : hs.length = 7) (b : ∀ x ∈ hs, 0 ≤ x ∧ x ≤ 8) (g6 : 1 ≤ hs.getD 6 0) (p : ∀ h', LI h' hs [] → h'.nx = 4 → N [t0, t1, some (.box 0), some (.lst (hs.map W.int)), t4, t5, t6, t7, t8, t9, some (.box 1), some (.box 3), t12, t13, t14, t15, t16, t17, t18, t19, t20, t21] h') : Ws (lw1 [t0, t1, some (.box 0), some (.lst (hs.map W.int)), t4, t5, t6, t7, t8, t9, t10, t11, t12, t13, t14, t15, t16, t17, t18, t19, t20, t21] h) N T B C E := by
  unfold lw1
  walk_at "ev"
  rw [hx]
  refine wp_init (hs := hs) (hv := .lst (hs.map W.int)) (tw := .tup (hs.map W.int)) (fun _ => rfl) (fun _ q => by cases q) (fun _ => rfl) (fun _ => ?_) (fun _ => rfl) l7 (fun x hx => by have := b x hx; omega) (sum_one (fun x hx => (b x hx).1) g6) (by show (if 1 = h.nx then _ else _) = _; rw [hx]; rfl) (by show 1 ≠ h.nx + 1; omega) fun h' a1 a2 a3 a4 => ?_
  · exact eq_wp (wp_sumL rfl)
  have n1 : (h.new (.ins 2 [] [])).nx = 2 := by show h.nx + 1 = 2; omega
  rw [n1] at a1 a2 a3 a4
  have old : h'.at_ 0 = h.at_ 0 := by
    rw [a3 0 (by decide) (by decide)]
    show (if 0 = h.nx then _ else _) = _
    rw [if_neg (by omega)]
  refine ⟨rfl, ?_⟩
  walk_at "ev"
  refine wp_disp ?_
  refine wp_prsC ?_
  walk_at "ev"
  refine ⟨_, rfl, ?_⟩
  refine wp_prsC ?_
  walk_at "ev"
  refine wp_mkDf ?_
  refine ⟨_, rfl, wp_prsN ?_⟩
  refine ⟨by simp, ?_⟩
  have e : mergeP [(Sum.inr "hours", W.lst (hs.map W.int)), (Sum.inr "single", W.dic [] [])] ([], []) = ([.k (.inr "hours"), .k (.inr "single")], [.lst (hs.map W.int), .dic [] []]) := by kernel_rfl
  rw [e]
  walk_at "ev"
  refine wp_sz (by simp [sizeLine]) ?_
  rw [a4]
  walk_at "ev"
  refine p _ ⟨?_, ⟨?_, rfl, ?_, l7⟩, ⟨?_, l7⟩, ⟨l7, b, g6, by simp [NdI], fun p hp => (by cases hp), by simp⟩⟩ ?_
  · obtain ⟨x, y, z, d⟩ := d
    exact ⟨x, y, z, by show (if 0 = h'.nx then _ else _) = _; rw [a4, if_neg (by decide), old]; exact d⟩
  · show (if 1 = h'.nx then _ else _) = _; rw [a4, if_neg (by decide)]; exact a1
  · show (if 2 = h'.nx then _ else _) = _; rw [a4, if_neg (by decide)]; exact a2
  · show (if 3 = h'.nx then _ else _) = _; rw [a4, if_pos (by decide)]; rfl
  · show h'.nx + 1 = 4; rw [a4]
theorem w2a (I : LI h hs sg) (p : ∀ (day much : Int) h', LI h' hs sg → h'.nx = h.nx → -40 ≤ day ∧ day < 40 → 0 ≤ much ∧ much < 27 → N [t0, t1, some (.box 0), some (.lst (hs.map W.int)), t4, t5, t6, t7, t8, t9, some (.box 1), some (.box 3), some (.int day), t13, t14, t15, t16, t17, some (.int much), t19, t20, t21] h') : Ws (lw2_0 [t0, t1, some (.box 0), some (.lst (hs.map W.int)), t4, t5, t6, t7, t8, t9, some (.box 1), some (.box 3), t12, t13, t14, t15, t16, t17, t18, t19, t20, t21] h) N T B C E := by
  unfold lw2_0
  walk_at "ev"
  refine wp_roll I.dc (by decide) (by decide) fun r h1 r0 r1 d1 f1 n1 => ?_
  have I1 := I.roll d1 f1
  walk_at "ev"
  refine wp_roll I1.dc (by decide) (by decide) fun r' h2 r0' r1' d2 f2 n2 => ?_
  have I2 := I1.roll d2 f2
  walk_at "ev"
  refine wp_mul (.inr (by decide)) ?_
  walk_at "ev"
  refine wp_roll I2.dc (by decide) (by decide) fun r'' h3 r0'' r1'' d3 f3 n3 => ?_
  have I3 := I2.roll d3 f3
  walk_at "ev"
  refine wp_sz (by simp [sizeLine]) ?_
  walk_at "ev"
  exact p _ _ _ I3 (by rw [n3, n2, n1]) ⟨by split <;> omega, by split <;> omega⟩ ⟨r0'', r1''⟩
/-- own's single days are told anew -/
theorem wp_setOwn {w : W} {N : HS → Prop} (O : Own h 3 hs sg) (p : N (h.put 3 (.dic [.k (.inr "hours"), .k (.inr "single")] [.lst (hs.map W.int), w]))) : ∃ h4, setIx (.box 3) (.str "single") w h = some h4 ∧ N h4 := by
  refine ⟨_, ?_, p⟩
  unfold setIx
  simp only [O.at_]
  kernel_rfl
theorem rep_ifI {b : Bool} {x : W} : (List.replicate (if b = true then (1 : Int) else 0).toNat [x]).flatten = if b = true then [x] else [] := by cases b <;> rfl
variable {much : Int}
theorem w2b (I : LI h hs sg) (h1 : -40 ≤ day ∧ day < 40) (h2 : 0 ≤ much ∧ much < 27) (hl : sg.length < 50) (p : ∀ sg' h' g, LI h' hs sg' → h'.nx = h.nx → sg'.length ≤ sg.length + 1 → N [t0, t1, some (.box 0), some (.lst (hs.map W.int)), t4, t5, t6, t7, t8, t9, some (.box 1), some (.box 3), some (.int day), t13, t14, t15, t16, t17, some (.int much), some (.bl g), t20, t21] h') : Ws (lw2_1 [t0, t1, some (.box 0), some (.lst (hs.map W.int)), t4, t5, t6, t7, t8, t9, some (.box 1), some (.box 3), some (.int day), t13, t14, t15, t16, t17, some (.int much), t19, t20, t21] h) N T B C E := by
  unfold lw2_1
  walk_at "ev"
  refine wp_roll I.dc (by decide) (by decide) fun r h1' r0 r1 d1 f1 n1 => ?_
  have I1 := I.roll d1 f1
  walk_at "ev"
  by_cases q : 0 < r
  · refine ws_pos (by simpa using q) ?_
    refine ws_seq ?_
    refine ws_asgN (wp_mono (K := fun w h2 => w = .bl (decide (0 ≤ day ∧ much < 25)) ∧ h2 = h1') (E := NoE) ?_ (fun w hh ⟨e1, e2⟩ => ?_) (fun _ _ z => z.elim))
    · walk_at "ev"
      by_cases t : 0 ≤ day
      · refine wp_pos (by simpa using t) ?_
        walk_at "ev"
        exact ⟨by simp [t], rfl⟩
      · refine wp_neg (by simpa using t) ?_
        walk_at "ev"
        exact ⟨by simp [t], rfl⟩
    subst e1 e2
    generalize hg : decide (0 ≤ day ∧ much < 25) = g
    walk_at "ev"
    refine wp_itemsI (sg := sg) ?_
    walk_at "ev"
    refine wp_own I1.own I1.own.single ?_
    refine ⟨rfl, ?_⟩
    walk_at "ev"
    refine wp_sz (by simp [sizeLine]) ?_
    walk_at "ev"
    refine wp_sz (by simp [sizeLine]) ?_
    walk_at "ev"
    refine wp_mulL ⟨by split <;> decide, by split <;> decide, by split <;> simp [sizeLine]⟩ ?_
    walk_at "ev"
    rw [rep_ifI]
    refine wp_addL (by rw [List.length_map]; split <;> simp <;> unfold sizeLine <;> omega) ?_
    walk_at "ev"
    have eL : sg.map prI ++ (if g = true then [W.tup [.int day, .int much]] else []) = (sg ++ if g = true then [(day, much)] else []).map prI := by
      cases g <;> simp [prI]
    rw [eL]
    have eF : (sg ++ if g = true then [(day, much)] else []).foldl (fun s p => putI s p.1 p.2) [] = if g = true then putI sg day much else sg := by
      rw [List.foldl_append, fold_self sg [] I1.gd.nd]
      cases g <;> rfl
    refine wp_dictI eF ?_
    walk_at "ev"
    refine wp_setOwn I1.own ?_
    walk_at "ev"
    generalize hs' : (if g = true then putI sg day much else sg) = sg'
    have C1 : Cal (hh.put 3 (.dic [.k (.inr "hours"), .k (.inr "single")] [.lst (hs.map W.int), .dic (sg'.map kI) (sg'.map vI)])) 1 2 (.tup (hs.map W.int)) hs sg := ⟨I1.cal.ins, I1.cal.hv, I1.cal.dic, I1.cal.len⟩
    refine ⟨C1.insOf rfl, ?_⟩
    walk_at "ev"
    refine wp_set_day C1 I1.gd.nd (by omega) (fun t => ?_) (fun t => ?_)
    · have gt : g = true := by rw [← hg]; simp; omega
      subst gt
      have hs' : putI sg day much = sg' := hs'
      walk_at "ev"
      refine wp_new (b := false) (by kernel_rfl) ?_
      walk_at "ev"
      refine ws_neg (by decide) ?_
      walk_at "ev"
      rw [hs']
      refine p sg' _ true ⟨?_, ⟨?_, rfl, ?_, I1.gd.len⟩, ⟨?_, I1.gd.len⟩, ⟨I1.gd.len, I1.gd.b, I1.gd.su, by rw [← hs']; exact putI_nd I1.gd.nd, fun q hq => ?_, by rw [← hs']; exact Nat.lt_of_le_of_lt putI_length (by omega)⟩⟩ n1 (by rw [← hs']; exact putI_length)
      · exact I1.dc
      · exact I1.cal.ins
      · rfl
      · rfl
      · rw [← hs'] at hq
        rcases putI_mem hq with e | hq
        · rw [e]; exact ⟨by constructor <;> simp <;> omega, by constructor <;> simp <;> omega⟩
        · exact I1.gd.sb q hq
    · have gf : g = false := by rw [← hg]; simp; omega
      subst gf
      have hs' : sg = sg' := hs'
      subst hs'
      refine ⟨rfl, ?_⟩
      walk_at "ev"
      refine ws_neg (by decide) ?_
      walk_at "ev"
      exact p sg _ false ⟨I1.dc, ⟨I1.cal.ins, I1.cal.hv, I1.cal.dic, I1.cal.len⟩, ⟨rfl, I1.gd.len⟩, I1.gd⟩ n1 (Nat.le_succ _)
  · refine ws_neg (by simpa using q) ?_
    walk_at "ev"
    refine wp_own I1.own I1.own.single ?_
    refine wp_in (win_I rfl day) ?_
    walk_at "ev"
    generalize hg : (lookI sg day).isSome = g
    refine ip_keys ?_
    walk_at "ev"
    refine wp_own I1.own I1.own.single ?_
    refine ⟨sg.map kI, sg.map vI, rfl, ?_⟩
    rw [show (sg.map kI).map dkW = (sg.map (·.1)).map W.int from by rw [List.map_map, List.map_map]; rfl]
    show Wp (lcLoop [20] (fun _ => true) _ _ _ _ ((sg.map (·.1)).map W.int) [] h1') _ _
    have lk : ∀ x ∈ sg.map (·.1), ∃ y, lookI sg x = some y ∧ (x, y) ∈ sg := by
      intro x hx
      obtain ⟨q, hq, rfl⟩ := List.mem_map.mp hx
      exact ⟨q.2, lookI_of_mem I1.gd.nd hq, hq⟩
    refine wp_lcI (fun x => decide (x ≠ day)) (fun x => .tup [.int x, .int ((lookI sg x).getD 0)]) (by rw [List.length_map]; unfold sizeLine; omega) rfl (fun x hx => ?_) ?_
    · obtain ⟨y, y1, y2⟩ := lk x hx
      walk_at "ev"
      refine ⟨by simp, fun _ => ?_, rfl⟩
      walk_at "ev"
      refine wp_own I1.own I1.own.single ?_
      walk_at "ev"
      refine wp_ixD (w := .int y) (by simp [dview]) rfl (fun _ z => by cases z) (by rw [dget_I rfl, y1]; rfl) ?_
      walk_at "ev"
      refine wp_sz (by simp [sizeLine]) ?_
      walk_at "ev"
      exact ⟨by rw [y1]; rfl, rfl⟩
    have eL : ((sg.map (·.1)).filter fun x => decide (x ≠ day)).map (fun x => W.tup [.int x, .int ((lookI sg x).getD 0)]) = (delI sg day).map prI := by
      unfold delI
      rw [List.filter_map, List.map_map]
      refine List.map_congr_left fun q hq => ?_
      have hq := (List.mem_filter.mp hq).1
      simp only [Function.comp_def, prI]
      rw [lookI_of_mem I1.gd.nd (show (q.1, q.2) ∈ sg from hq)]
      rfl
    walk_at "ev"
    rw [eL]
    refine wp_dictI (fold_self (delI sg day) [] (delI_nd I1.gd.nd)) ?_
    walk_at "ev"
    refine wp_setOwn I1.own ?_
    walk_at "ev"
    have C1 : Cal (h1'.put 3 (.dic [.k (.inr "hours"), .k (.inr "single")] [.lst (hs.map W.int), .dic (([] ++ delI sg day).map kI) (([] ++ delI sg day).map vI)])) 1 2 (.tup (hs.map W.int)) hs sg := ⟨I1.cal.ins, I1.cal.hv, I1.cal.dic, I1.cal.len⟩
    refine ⟨C1.insOf rfl, ?_⟩
    walk_at "ev"
    have dl : (delI sg day).length ≤ sg.length := List.length_filter_le _ _
    have gd' : Gd hs (delI sg day) := ⟨I1.gd.len, I1.gd.b, I1.gd.su, delI_nd I1.gd.nd, fun q hq => I1.gd.sb q (List.mem_filter.mp hq).1, by have := I1.gd.sl; omega⟩
    refine wp_clear_day C1 (fun t => ?_) (fun t => ?_)
    · have gt : g = true := by rw [← hg]; exact t
      subst gt
      walk_at "ev"
      refine wp_new (b := false) (by kernel_rfl) ?_
      walk_at "ev"
      refine ws_neg (by decide) ?_
      walk_at "ev"
      exact p (delI sg day) _ true ⟨I1.dc, ⟨I1.cal.ins, rfl, rfl, I1.gd.len⟩, ⟨rfl, I1.gd.len⟩, gd'⟩ n1 (by omega)
    · have gf : g = false := by rw [← hg]; exact t
      subst gf
      have same : delI sg day = sg := by
        unfold delI
        refine List.filter_eq_self.mpr fun q hq => ?_
        have : lookI sg day = none := by cases z : lookI sg day with
          | none => rfl
          | some v => rw [z] at t; cases t
        simpa using lookI_none.mp this q hq
      refine ⟨rfl, ?_⟩
      walk_at "ev"
      refine ws_neg (by decide) ?_
      walk_at "ev"
      rw [same]
      exact p sg _ false ⟨I1.dc, ⟨I1.cal.ins, I1.cal.hv, I1.cal.dic, I1.cal.len⟩, ⟨rfl, I1.gd.len⟩, I1.gd⟩ n1 (Nat.le_succ _)


end K01
end

/-! Kp2 -/
section
set_option Elab.async false
set_option linter.all false
set_option maxRecDepth 100000
set_option maxHeartbeats 0
namespace K01
open PySem PySem.Spec L2 Pk
def isT : R W → Bool
  | .ok (.bl true) _ => true
  | _ => false
theorem isT_ok {r : R W} (e : isT r = true) : ∃ h, r = .ok (.bl true) h := by
  unfold isT at e
  split at e
  · exact ⟨_, rfl⟩
  · cases e
theorem plain_ok (at_ : Nat → Option Ct) : ∃ h, f__law_plain [] ⟨at_, 6⟩ = .ok (.bl true) h := isT_ok (by kernel_rfl)
end K01
end

/-! Kp11 -/
section
set_option Elab.async false
set_option linter.all false
set_option maxRecDepth 100000
set_option maxHeartbeats 4000000
namespace K01
open PySem PySem.Spec L2 Pk
local macro_rules | `(tactic| walk_at "ev1") => `(tactic| with_reducible first
  | refine wp_var rfl ?_ | refine wp_c ?_ | refine wp_bin ?_ | refine wp_un ?_ | refine wp_asB ?_ | refine wp_tval ?_ | refine wp_chain_ll ?_ | refine wp_chain_tt ?_ | refine wp_chain ?_ | refine wp_tand ?_ | refine wp_tor ?_ | refine wp_tnot ?_
  | refine wp_and ?_ | refine wp_or ?_ | refine wp_not ?_ | refine wp_if ?_ | refine wp_anil ?_ | refine wp_acons ?_ | refine wp_tup ?_ | refine wp_lst ?_ | refine wp_mkLf ?_ | refine wp_mkLt ?_ | refine wp_mkDf ?_ | refine wp_mkDt ?_
  | refine wp_add ?_ | refine wp_sub ?_ | refine wp_neg' ?_ | refine wp_kadd ?_ | refine wp_ksub ?_ | refine wp_lt ?_ | refine wp_le ?_ | refine wp_gt ?_ | refine wp_ge ?_ | refine wp_eqi ?_ | refine wp_nei ?_ | refine wp_eqs ?_ | refine wp_nes ?_ | refine wp_eqb ?_ | refine wp_neb ?_
  | refine wp_is ?_ | refine wp_isN ?_ | refine wp_callB ?_ | refine wp_call ?_ | refine wp_go rfl ?_ | refine wp_meth ?_ | refine wp_make ?_ | refine wp_told ?_ | refine wp_get2 ?_
  | refine ws_nil ?_ | refine ws_seq ?_ | refine ws_expr ?_ | refine ws_ret ?_ | refine ws_retN ?_ | refine ws_if ?_ | refine ws_raise ?_ | refine ws_asgN ?_ | refine ws_asg ?_ | refine gp_n ?_ | refine gp_tup rfl ?_ | refine gp_cons ?_ | refine gp_nil ?_
  | refine ws_par ?_ | refine ws_par3 ?_ | refine ws_aug rfl ?_ | refine ws_fld ?_ | refine ws_sub ?_ | refine ws_del ?_ | refine ws_for ?_ | refine wp_lc ?_ | refine ip_seq ?_ | refine ip_r1 ?_ | refine ip_r2 ?_ | refine ip_r3 ?_
  | refine wp_tyes ?_ | refine wp_ok ?_ | refine wp_tupR ?_ | refine wp_zipL ?_ | refine tvT ?_ | refine tvK ?_ | refine wp_cut ?_ | refine wp_pno ?_ | refine wp_psome ?_ | refine wp_cutScr ?_ | refine wp_cutL ?_ | refine wp_cutT ?_ | refine wp_lenL ?_ | refine wp_lenT ?_ | refine wp_intI ?_ | refine wp_intB ?_ | refine wp_absI ?_ | refine wp_listT ?_ | refine wp_listL ?_ | refine wp_tupleL ?_ | refine wp_tupleT ?_ | refine wp_sumL ?_ | refine wp_any ?_ | refine wp_all ?_ | refine wp_sumG ?_ | refine wp_tupG ?_ | refine wp_bind ?_ | refine is1 ?_ | refine is2 ?_ | refine is3 ?_ | refine isI ?_ | refine isS ?_ | refine svL ?_ | refine svT ?_ | refine svK ?_ | refine lvL ?_ | refine ip_enum ?_ | refine ip_txt ?_)
local macro_rules | `(tactic| walk_at "ev") => `(tactic| repeat walk_at "ev1")
variable {h : HS} {hs : List Int} {sg : List (Int × Int)} {N : Sl → HS → Prop} {T : W → HS → Prop} {B C : Sl → HS → Prop} {E : Nat → HS → Prop} {t0 t1 t2 t3 t4 t5 t6 t7 t8 t9 t10 t11 t12 t13 t14 t15 t16 t17 t18 t19 t20 t21 : Option W} {day many en : Int}
theorem w2 (I : LI h hs []) (hx : h.nx = 4) (p : ∀ sg h' t4 t12 t18 t19, LI h' hs sg → h'.nx = 4 → N [t0, t1, some (.box 0), some (.lst (hs.map W.int)), t4, t5, t6, t7, t8, t9, some (.box 1), some (.box 3), t12, t13, t14, t15, t16, t17, t18, t19, t20, t21] h') : Ws (lw2 [t0, t1, some (.box 0), some (.lst (hs.map W.int)), t4, t5, t6, t7, t8, t9, some (.box 1), some (.box 3), t12, t13, t14, t15, t16, t17, t18, t19, t20, t21] h) N T B C E := by
  unfold lw2
  walk_at "ev"
  refine wp_roll I.dc (by decide) (by decide) fun r h1 r0 r1 d1 f1 n1 => ?_
  have I1 := I.roll d1 f1
  walk_at "ev"
  refine ⟨by omega, ?_⟩
  refine ws_forL (fun i sl h' => i ≤ 13 ∧ ∃ sg t4 t12 t18 t19, sl = [t0, t1, some (.box 0), some (.lst (hs.map W.int)), t4, t5, t6, t7, t8, t9, some (.box 1), some (.box 3), t12, t13, t14, t15, t16, t17, t18, t19, t20, t21] ∧ LI h' hs sg ∧ h'.nx = 4 ∧ sg.length ≤ i) ⟨by decide, [], t4, t12, t18, t19, rfl, I1, by rw [n1, hx], Nat.le_refl _⟩ (fun _ _ _ _ _ => rfl) ?_ ?_
  · rintro i w sl h' e ⟨i1, sg, u4, u12, u18, u19, rfl, I', nx', hl⟩
    have hi := (List.getElem?_eq_some_iff.mp e).1
    simp only [rItems, List.length_map, List.length_range] at hi
    walk_at "ev"
    refine w2a I' fun day much h2 I2 n2 b1 b2 => ?_
    refine w2b I2 b1 b2 (by omega) fun sg' h3 g I3 n3 l3 => ?_
    exact ⟨by omega, sg', _, _, _, _, rfl, I3, by rw [n3, n2, nx'], by omega⟩
  · rintro sl h' ⟨i1, sg, u4, u12, u18, u19, rfl, I', nx', hl⟩
    exact p sg h' u4 u12 u18 u19 I' nx'
theorem law_wp (ns : List Int) : Wp (f_law [.scr ns] h0) (fun w _ => w = .bl true) NoE := by
  refine wp_body ?_
  rw [b_law_eq]
  walk_at "ev"
  refine wp_sz (by simp [sizeLine]) ?_
  walk_at "ev"
  refine wp_rounds fun h1 d1 n1 => ?_
  walk_at "ev"
  refine ws_forL (fun i sl h' => (i = 0 ∧ sl = [some (.scr ns), some (.lst (nmL.map W.str)), none, none, none, none, none, none, none, none, none, none, none, none, none, none, none, none, none, none, none, none] ∧ h' = h1) ∨ (i = 1 ∧ h'.nx = 6)) (.inl ⟨rfl, rfl, rfl⟩) (fun _ _ _ _ _ => rfl) ?_ ?_
  · rintro i w sl h' e (⟨rfl, rfl, rfl⟩ | ⟨rfl, n⟩)
    · cases e
      refine gp_n ?_
      refine ws_seq (w0 d1 n1 fun hs h2 d2 n2 l7 hb g6 => ?_)
      refine ws_seq (w1 d2 n2 l7 hb g6 fun h3 I3 n3 => ?_)
      refine ws_seq (w2 I3 n3 fun sg h4 u4 u12 u18 u19 I4 n4 => ?_)
      refine ws_seq (w3 I4 ?_)
      refine ws_seq (w4 I4 ?_)
      refine ws_seq (w5 I4 fun day many en h5 I5 n5 b1 b2 b3 => ?_)
      refine ws_seq (w6 I5 b1 ?_)
      refine ws_seq (w7 I5 b1 ?_)
      refine ws_seq (w8 I5 b1 ?_)
      refine ws_seq (w9 I5 b1 b2 ?_)
      refine ws_seq (w10 I5 b1 b3 ?_)
      refine ws_seq (w11 I5 b1 b3 ?_)
      refine ws_seq (w12 I5 b1 b3 ?_)
      refine ws_seq (w13 I5 fun work h6 I6 n6 b4 => ?_)
      refine ws_seq (w14 I6 b1 b4 ?_)
      refine ws_seq (w15 I6 b1 b2 ?_)
      refine ws_seq (w16 I6 (by rw [n6, n5, n4]) b1 b2 fun h7 I7 n7 => ?_)
      refine ws_seq (w17 I7 fun each week number h8 I8 n8 b5 b6 b7 => ?_)
      refine ws_seq (w18 I8 b1 b3 b5 ?_)
      refine ws_seq (w19 I8 b1 b6 b7 ?_)
      refine ws_seq (w20 I8 fun far h9 I9 n9 b8 => ?_)
      have fe : far = 7 * (((far / 7 + 1).toNat : Int) - 1) + ((far % 7).toNat : Int) := by omega
      rw [fe]
      refine ws_seq (w21 (by omega) (by omega) (by omega) ?_)
      refine w22 (by omega) (by omega) (by omega) (by omega) ?_
      exact .inr ⟨rfl, by rw [n9, n8, n7]⟩
    · cases e
  · rintro sl h' (⟨z, _⟩ | ⟨_, n⟩)
    · cases z
    · walk_at "ev"
      obtain ⟨a, m⟩ := h'
      have n : m = 6 := n
      subst n
      obtain ⟨h2, e⟩ := plain_ok a
      refine wp_eq e ?_
      walk_at "ev"
      rfl
theorem law_true (ns : List Int) : ∃ h', f_law [.scr ns] h0 = .ok (.bl true) h' := by
  have z := law_wp ns
  unfold Wp at z
  split at z
  · rename_i e
    rw [z] at e
    exact ⟨_, e⟩
  · exact z.elim
  · exact z.elim

end K01
end

set_option Elab.async false
set_option maxRecDepth 100000 in
set_option maxHeartbeats 8000000 in
theorem PySem.Challenge.cw_planstack_k01_days_that_are_worked_holds : PySem.Challenge.rw_planstack_k01_days_that_are_worked.Holds := by
  exact fin fun ns _ => K01.law_true ns
