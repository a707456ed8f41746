import PyProof.Rows.All
import Wide.All
import OpenK.AllK
import Wide.FinOn
import HandS.ForMost
import HandS.Exc
import HandS.ExcOwn
import HandS.TryOnly
import HandS.WordsExc
import HandS.Lambda
import HandS.TupAny
import HandS.TupMul
import HandS.Codes
import HandS.DictComp
import HandS.Wide
import HandS.CallSlots
import HandS.TupLen
import HandS.Conv
import HandS.Zip
import HandS.GenOver
import HandS.AnyAll
import HandS.FStr
import HandS.Strs
import HandS.ListItems
import PyProof.SumWalk
import KE.KIndexWalk
import HandS.Defaults
import HandS.HeadHook1
import HandS.HeadHook2
import HandS.HeadHook4
import HandS.EndTab
import HandS.HeadWalk
import HandS.Style
import HandS.Head0
import HandS.Head1
import HandS.Head2
import HandS.EndOwn
import HandS.SortInts
import HandS.SortRule
import HandS.SortOrd
import HandS.DictTup
import HandS.SetFor
import HandS.Words
import PySem.Challenge.RW_planstack_k03_guesses_of_lengths
/-! PkA -/
section
set_option Elab.async false
set_option linter.all false
set_option maxRecDepth 100000
namespace Pk
open PySem PySem.Spec L2

/-! ### values by trees, cells -/
inductive DK where
  | k (x : Key) | t (l : List Key)
  deriving DecidableEq
inductive W where
  | non | bl (b : Bool) | int (i : Int) | str (x : Str)
  | tup (ws : List W) | lst (ws : List W) | dic (ks : List DK) (ws : List W)
  | box (n : Nat)
  /-- the script: a list of ints that is read alone -/
  | scr (ns : List Int)
  /-- a tuple of the module's own top -/
  | kt (ws : List W)
  /-- a tuple of texts, told by its one object (its methods may be called) -/
  | tx (ys : List Str)
inductive Ct where
  | lst (ws : List W) | dic (ks : List DK) (ws : List W) | ins (c : Nat) (ks : List Str) (ws : List W)
  | lck (ks : List DK) (ws : List W)
structure HS where
  at_ : Nat → Option Ct
  nx : Nat
def HS.put (h : HS) (n : Nat) (c : Ct) : HS := ⟨fun m => if m = n then some c else h.at_ m, h.nx⟩
def HS.new (h : HS) (c : Ct) : HS := ⟨fun m => if m = h.nx then some c else h.at_ m, h.nx + 1⟩
def HS.del (h : HS) (n : Nat) : HS := ⟨fun m => if m = n then none else h.at_ m, h.nx⟩
inductive R (α : Type) where
  | ok (a : α) (h : HS) | exc (c : Nat) (h : HS) | no
def R.bind {α β : Type} (r : R α) (k : α → HS → R β) : R β := match r with
  | .ok a h => k a h | .exc c h => .exc c h | .no => .no
abbrev Sl := List (Option W)
inductive RS where
  | nx (s : Sl) (h : HS) | rt (w : W) (h : HS) | bk (s : Sl) (h : HS) | ct (s : Sl) (h : HS) | exc (c : Nat) (s : Sl) (h : HS) | no
abbrev Ex := Sl → HS → R W
abbrev Tx := Sl → HS → R Bool
abbrev Ax := Sl → HS → R (List W)
abbrev Sx := Sl → HS → RS
def R.st {α : Type} (r : R α) (s : Sl) (k : α → HS → RS) : RS := match r with
  | .ok a h => k a h | .exc c h => .exc c s h | .no => .no

/-! ### what stands for them in the abstract heap -/
structure G where
  nx : Nat
  ρ : Nat → Addr
  F : Hp
  /-- what is being made: pinned, not to be seen -/
  hid : Hp
  /-- dicts that are being walked -/
  lk : Hp
structure G.le (g g' : G) : Prop where
  nx : g.nx ≤ g'.nx
  ρ : ∀ n, n < g.nx → g'.ρ n = g.ρ n
  F : Same g.F g'.F
  hid : Same g.hid g'.hid
  lk : Same g.lk g'.lk
theorem G.le.refl (g : G) : g.le g := ⟨Nat.le_refl _, fun _ _ => rfl, Same.refl _, Same.refl _, Same.refl _⟩
theorem G.le.trans {a b c : G} (x : a.le b) (y : b.le c) : a.le c :=
  ⟨Nat.le_trans x.nx y.nx, fun n h => (y.ρ n (Nat.lt_of_lt_of_le h x.nx)).trans (x.ρ n h), x.F.trans y.F, x.hid.trans y.hid, x.lk.trans y.lk⟩

def DctH (H : Hp) (a : Addr) (ks : List DK) (vs : List V) : Prop :=
  (∃ kvs : List (Key × V), H a = some (.dK kvs) ∧ ks = kvs.map (fun p => DK.k p.1) ∧ vs = kvs.map (·.2)) ∨
  (∃ kvs : List (List Key × V), H a = some (.dT kvs) ∧ (ks = kvs.map (fun p => DK.t p.1) ∧ kvs ≠ []) ∧ vs = kvs.map (·.2))
def DctL (H : Hp) (a : Addr) (ks : List DK) (vs : List V) : Prop :=
  (∃ (o : Obj) (kvs : List (Key × V)), H a = some (.frz o (.dK kvs)) ∧ ks = kvs.map (fun p => DK.k p.1) ∧ vs = kvs.map (·.2)) ∨
  (∃ (o : Obj) (kvs : List (List Key × V)), H a = some (.frz o (.dT kvs)) ∧ (ks = kvs.map (fun p => DK.t p.1) ∧ kvs ≠ []) ∧ vs = kvs.map (·.2))

/-- the object at a: a tuple of the texts ys, without a dict -/
def TxO (a : Addr) (ys : List Str) : HO := .ext fun h => ∃ (o : Obj) (n : Nat) (its : Array Value), h.get? a = some o ∧ o.cls = .type "tuple" ∧ o.dict = none ∧ o.data = .seq its n ∧ L2.Vals (ys.map V.str) its.toList
mutual
def RW (K : PySem.W.Frag) (g : G) : W → V → Prop
  | .non, v => v = .non
  | .bl b, v => v = .bl b
  | .int i, v => v = .int i
  | .str x, v => v = .str x
  | .tup ws, v => ∃ a vs, v = .ref a ∧ g.F a = some (.tup vs) ∧ RWs K g ws vs
  | .lst ws, v => ∃ a vs, v = .ref a ∧ g.F a = some (.lst vs) ∧ RWs K g ws vs
  | .dic ks ws, v => ∃ a vs, v = .ref a ∧ DctH g.F a ks vs ∧ RWs K g ws vs
  | .box n, v => n < g.nx ∧ v = .ref (g.ρ n)
  | .scr ns, v => ∃ a, v = .ref a ∧ SqL K g.F a (ns.map V.int)
  | .kt ws, v => ∃ a vs, v = .ref a ∧ SqT K g.F a vs ∧ RWs K g ws vs
  | .tx ys, v => ∃ a, v = .ref a ∧ g.F a = some (TxO a ys)
def RWs (K : PySem.W.Frag) (g : G) : List W → List V → Prop
  | [], vs => vs = []
  | w :: ws, vs => ∃ v vr, vs = v :: vr ∧ RW K g w v ∧ RWs K g ws vr
end
theorem sqT_mono {K : PySem.W.Frag} {H H' : Hp} {a : Addr} {xs : List V} (e : Same H H') (h : SqT K H a xs) : SqT K H' a xs := by
  rcases h with (h | ⟨o, h⟩) | h
  · exact .inl (.inl (e _ _ h))
  · exact .inl (.inr ⟨o, e _ _ h⟩)
  · exact .inr h
theorem dctH_mono {H H' : Hp} {a : Addr} {ks : List DK} {vs : List V} (e : Same H H') (h : DctH H a ks vs) : DctH H' a ks vs := by
  rcases h with ⟨kvs, h, q⟩ | ⟨kvs, h, q⟩
  · exact .inl ⟨kvs, e _ _ h, q⟩
  · exact .inr ⟨kvs, e _ _ h, q⟩
mutual
theorem RW.mono {K : PySem.W.Frag} {g g' : G} (l : g.le g') : ∀ (w : W) (v : V), RW K g w v → RW K g' w v
  | .non, _, h => by unfold RW at h ⊢; exact h
  | .bl _, _, h => by unfold RW at h ⊢; exact h
  | .int _, _, h => by unfold RW at h ⊢; exact h
  | .str _, _, h => by unfold RW at h ⊢; exact h
  | .tup ws, _, h => by
    unfold RW at h ⊢
    obtain ⟨a, vs, e, s, r⟩ := h
    exact ⟨a, vs, e, l.F _ _ s, RWs.mono l ws vs r⟩
  | .kt ws, _, h => by
    unfold RW at h ⊢
    obtain ⟨a, vs, e, s, r⟩ := h
    exact ⟨a, vs, e, sqT_mono l.F s, RWs.mono l ws vs r⟩
  | .lst ws, _, h => by
    unfold RW at h ⊢
    obtain ⟨a, vs, e, s, r⟩ := h
    exact ⟨a, vs, e, l.F _ _ s, RWs.mono l ws vs r⟩
  | .dic ks ws, _, h => by
    unfold RW at h ⊢
    obtain ⟨a, vs, e, s, r⟩ := h
    exact ⟨a, vs, e, dctH_mono l.F s, RWs.mono l ws vs r⟩
  | .box n, _, h => by
    unfold RW at h ⊢
    exact ⟨Nat.lt_of_lt_of_le h.1 l.nx, by rw [l.ρ n h.1]; exact h.2⟩
  | .scr ns, _, h => by
    unfold RW at h ⊢
    obtain ⟨a, e, s⟩ := h
    exact ⟨a, e, l.F.seq s⟩
  | .tx ys, _, h => by
    unfold RW at h ⊢
    obtain ⟨a, e, s⟩ := h
    exact ⟨a, e, l.F _ _ s⟩
theorem RWs.mono {K : PySem.W.Frag} {g g' : G} (l : g.le g') : ∀ (ws : List W) (vs : List V), RWs K g ws vs → RWs K g' ws vs
  | [], _, h => by unfold RWs at h ⊢; exact h
  | w :: ws, _, h => by
    unfold RWs at h ⊢
    obtain ⟨v, vr, e, r, rs⟩ := h
    exact ⟨v, vr, e, RW.mono l w v r, RWs.mono l ws vr rs⟩
end
theorem RWs.cons {K : PySem.W.Frag} {g : G} {w : W} {v : V} {ws : List W} {vs : List V} (a : RW K g w v) (b : RWs K g ws vs) : RWs K g (w :: ws) (v :: vs) := by
  unfold RWs; exact ⟨v, vs, rfl, a, b⟩
theorem RWs.nil {K : PySem.W.Frag} {g : G} : RWs K g [] [] := by unfold RWs; rfl
theorem RWs.len {K : PySem.W.Frag} {g : G} : ∀ {ws : List W} {vs : List V}, RWs K g ws vs → ws.length = vs.length
  | [], _, h => by unfold RWs at h; rw [h]; rfl
  | w :: ws, _, h => by
    unfold RWs at h
    obtain ⟨v, vr, e, _, rs⟩ := h
    rw [e, List.length_cons, List.length_cons, RWs.len rs]
theorem RWs.get {K : PySem.W.Frag} {g : G} : ∀ {ws : List W} {vs : List V} {i : Nat} {w : W}, RWs K g ws vs → ws[i]? = some w → ∃ v, vs[i]? = some v ∧ RW K g w v
  | [], _, _, _, _, e => by simp at e
  | w :: ws, _, i, w', h, e => by
    unfold RWs at h
    obtain ⟨v, vr, e1, r, rs⟩ := h
    subst e1
    cases i with
    | zero => simp at e; subst e; exact ⟨v, rfl, r⟩
    | succ i => simpa using RWs.get (i := i) rs (by simpa using e)
theorem RWs.getV {K : PySem.W.Frag} {g : G} : ∀ {ws : List W} {vs : List V} {i : Nat} {v : V}, RWs K g ws vs → vs[i]? = some v → ∃ w, ws[i]? = some w ∧ RW K g w v
  | [], _, _, _, h, e => by unfold RWs at h; subst h; simp at e
  | w :: ws, _, i, v', h, e => by
    unfold RWs at h
    obtain ⟨v, vr, e1, r, rs⟩ := h
    subst e1
    cases i with
    | zero => simp at e; subst e; exact ⟨w, rfl, r⟩
    | succ i => simpa using RWs.getV (i := i) rs (by simpa using e)
theorem RWs.app {K : PySem.W.Frag} {g : G} : ∀ {ws : List W} {vs : List V} {ws' : List W} {vs' : List V}, RWs K g ws vs → RWs K g ws' vs' → RWs K g (ws ++ ws') (vs ++ vs')
  | [], _, _, _, h, r => by unfold RWs at h; subst h; exact r
  | w :: ws, _, _, _, h, r => by
    unfold RWs at h
    obtain ⟨v, vr, e1, r1, rs⟩ := h
    subst e1
    exact .cons r1 (RWs.app rs r)
theorem RWs.set {K : PySem.W.Frag} {g : G} {w : W} {v : V} (r : RW K g w v) : ∀ {ws : List W} {vs : List V} (i : Nat), RWs K g ws vs → RWs K g (ws.set i w) (vs.set i v)
  | [], _, _, h => by unfold RWs at h; subst h; exact .nil
  | w' :: ws, _, i, h => by
    unfold RWs at h
    obtain ⟨v', vr, e1, r1, rs⟩ := h
    subst e1
    cases i with
    | zero => exact .cons r rs
    | succ i => exact .cons r1 (RWs.set r i rs)
theorem RWs.ints {K : PySem.W.Frag} {g : G} : ∀ (ns : List Int), RWs K g (ns.map W.int) (ns.map V.int)
  | [] => .nil
  | n :: ns => .cons (by unfold RW; rfl) (RWs.ints ns)

/-! ### the program's context -/
structure Γ where
  K : PySem.W.Frag
  cls : Nat → Addr
  /-- the tables of code objects, the names of theirs -/
  tabs : List (Addr × Str)
/-- what is frozen stands -/
def IsDct : HO → Prop
  | .dK _ => True | .dT _ => True | _ => False
def Below (F H : Hp) : Prop := ∀ a u, F a = some u → H a = some u ∨ (IsDct u ∧ ∃ o, H a = some (.frz o u))
def CellOk (Γ : Γ) (g : G) (H : Hp) (a : Addr) : Ct → Prop
  | .lst ws => ∃ vs, H a = some (.lst vs) ∧ RWs Γ.K g ws vs
  | .dic ks ws => ∃ vs, DctH H a ks vs ∧ RWs Γ.K g ws vs
  | .lck ks ws => ∃ vs, DctL H a ks vs ∧ RWs Γ.K g ws vs
  | .ins c ks ws => ∃ dx vs, ks.length = vs.length ∧ H a = some (.ins (Γ.cls c) dx (ks.zip vs)) ∧ RWs Γ.K g ws vs
/-- no table of code objects, nothing told by what is true of it -/
def NT : HO → Prop
  | .tbl _ => False | .ext _ => False | _ => True
def NB : HO → Prop
  | .tbl _ => False | _ => True
def NH : HO → Prop
  | .tbl _ => False | .ext _ => False | .frz _ _ => False | .tup _ => False | _ => True
theorem NH.nt {o : HO} (h : NH o) : NT o := by
  cases o <;> first | exact h | trivial
def IsFrz : HO → Prop
  | .frz _ u => IsDct u | _ => False
theorem IsFrz.nt {o : HO} (h : IsFrz o) : NT o := by
  cases o <;> first | exact h.elim | trivial
theorem NT.nb {o : HO} (h : NT o) : NB o := by
  cases o <;> first | exact h | trivial
theorem tabs_upd {T : List (Addr × Str)} {H : Hp} {a : Addr} {o' : HO} (t : LamX.Tabs T H) (ha : ∀ o, H a = some o → NT o) : LamX.Tabs T (upd H a o') := fun P hP => by
  obtain ⟨ps, h1, h2, h3⟩ := t P hP
  have ne : ∀ (b : Addr) (o : HO), H b = some o → ¬ NT o → upd H a o' b = some o := fun b o e n => by
    rw [upd_ne (fun z => n (ha o (by rw [← z]; exact e)))]
    exact e
  refine ⟨ps, ne _ _ h1 (fun z => z), h2, fun pos cv hc => ?_⟩
  obtain ⟨c, e1, e2⟩ := h3 pos cv hc
  exact ⟨c, e1, ne _ _ e2 (fun z => by unfold LamX.CodeO at z; exact z)⟩
theorem live {h : HS} {n : Nat} {c : Ct} (e : h.at_ n = some c) : h.at_ n ≠ none := fun z => by rw [e] at z; cases z
theorem put_live {h : HS} {n m : Nat} {c c' : Ct} (e : h.at_ n = some c) (z : (h.put n c').at_ m ≠ none) : h.at_ m ≠ none := fun q => by
  have z : (if m = n then some c' else h.at_ m) ≠ none := z
  by_cases b : m = n
  · rw [b, e] at q; cases q
  · rw [if_neg b] at z; exact z q
theorem del_live {h : HS} {n m : Nat} (z : (h.del n).at_ m ≠ none) : h.at_ m ≠ none := fun q => by
  have z : (if m = n then none else h.at_ m) ≠ none := z
  by_cases b : m = n
  · rw [if_pos b] at z; exact z rfl
  · rw [if_neg b] at z; exact z q
structure RH (Γ : Γ) (g : G) (h : HS) (H : Hp) : Prop where
  fr : Below g.F H
  nx : g.nx = h.nx
  inj : ∀ m n, h.at_ m ≠ none → h.at_ n ≠ none → g.ρ m = g.ρ n → m = n
  tr : ∀ n, h.at_ n ≠ none → ∃ o, H (g.ρ n) = some o ∧ NT o
  cell : ∀ n c, h.at_ n = some c → n < g.nx ∧ g.F (g.ρ n) = none ∧ CellOk Γ g H (g.ρ n) c
  tab : LamX.Tabs Γ.tabs H
  nt : ∀ a o, g.F a = some o → NB o
  hd : ∀ a o, g.hid a = some o → H a = some o ∧ NH o ∧ g.F a = none ∧ ∀ n, h.at_ n ≠ none → g.ρ n ≠ a
  lks : ∀ a o, g.lk a = some o → H a = some o ∧ IsFrz o
  lkc : ∀ n ks ws, h.at_ n = some (.lck ks ws) → ∃ o, g.lk (g.ρ n) = some o
def SLk (Γ : Γ) (g : G) (sl : Sl) (σ : St) : Prop := ∀ (i : Nat) (w : W), sl[i]? = some (some w) → ∃ v, σ[i]? = some (some v) ∧ RW Γ.K g w v
theorem SLk.mono {Γ : Γ} {g g' : G} {sl : Sl} {σ : St} (l : g.le g') (h : SLk Γ g sl σ) : SLk Γ g' sl σ := fun i w e => by
  obtain ⟨v, e1, r⟩ := h i w e
  exact ⟨v, e1, RW.mono l _ _ r⟩
theorem SLk.set {Γ : Γ} {g : G} {sl : Sl} {σ : St} {i : Nat} {w : W} {v : V} (h : SLk Γ g sl σ) (r : RW Γ.K g w v) (hi : i < σ.length) : SLk Γ g (sl.set i (some w)) (σ.set i (some v)) := fun j w' e => by
  by_cases hj : i = j
  · subst hj
    by_cases hl : i < sl.length
    · rw [List.getElem?_set_self hl] at e
      cases e
      exact ⟨v, List.getElem?_set_self hi, r⟩
    · rw [List.getElem?_eq_none_iff.mpr (by rw [List.length_set]; omega)] at e
      cases e
  · rw [List.getElem?_set_ne hj] at e
    obtain ⟨v', e1, r1⟩ := h j w' e
    exact ⟨v', by rw [List.getElem?_set_ne hj]; exact e1, r1⟩

/-! ### readings -/
abbrev WX := L2.WX
def Rz {α β : Type} (Γ : Γ) (Wx : WX) (Rl : G → α → β → Prop) (g : G) (r : R α) (σ : St) (Q : β → Hp → Prop) : Prop := match r with
  | .ok w h' => ∀ g' v H', g.le g' → RH Γ g' h' H' → Rl g' w v → Q v H'
  | .exc c h' => ∀ g' H', g.le g' → RH Γ g' h' H' → Wx (.ref (Γ.cls c)) none σ H'
  | .no => False
def RDE (Γ : Γ) (Wx : WX) (f : Ex) : TE := fun σ H Q => ∃ g sl h, RH Γ g h H ∧ SLk Γ g sl σ ∧ Rz Γ Wx (RW Γ.K) g (f sl h) σ Q
def RDT (Γ : Γ) (Wx : WX) (f : Tx) : TT := fun σ H Q => ∃ g sl h, RH Γ g h H ∧ SLk Γ g sl σ ∧ Rz Γ Wx (fun _ (a b : Bool) => a = b) g (f sl h) σ Q
def RDA (Γ : Γ) (Wx : WX) (f : Ax) : TA := fun σ H Q => ∃ g sl h, RH Γ g h H ∧ SLk Γ g sl σ ∧ Rz Γ Wx (RWs Γ.K) g (f sl h) σ Q
def RzS (Γ : Γ) (Wx : WX) (g : G) (n : Nat) (r : RS) (D : Ends) : Prop := match r with
  | .nx sl h => ∀ g' σ' H', g.le g' → RH Γ g' h H' → SLk Γ g' sl σ' → σ'.length = n → D.nx σ' H'
  | .bk sl h => ∀ g' σ' H', g.le g' → RH Γ g' h H' → SLk Γ g' sl σ' → σ'.length = n → D.bk σ' H'
  | .ct sl h => ∀ g' σ' H', g.le g' → RH Γ g' h H' → SLk Γ g' sl σ' → σ'.length = n → D.ct σ' H'
  | .rt w h => ∀ g' v H', g.le g' → RH Γ g' h H' → RW Γ.K g' w v → D.rt v H'
  | .exc c sl h => ∀ g' σ' H', g.le g' → RH Γ g' h H' → SLk Γ g' sl σ' → σ'.length = n → Wx (.ref (Γ.cls c)) none σ' H'
  | .no => False
def RDS (Γ : Γ) (Wx : WX) (f : Sx) : TS := fun D σ H => ∃ g sl h, RH Γ g h H ∧ SLk Γ g sl σ ∧ RzS Γ Wx g σ.length (f sl h) D

section
variable {Γ : Γ} {Wx : WX} {g : G} {h : HS} {H : Hp} {sl : Sl} {σ : St}
theorem Rz.le {α β : Type} {Rl : G → α → β → Prop} {g g' : G} {r : R α} {Q : β → Hp → Prop} (l : g.le g') (x : Rz Γ Wx Rl g r σ Q) : Rz Γ Wx Rl g' r σ Q := by
  cases r with
  | ok w h => exact fun g2 v H' l2 => x g2 v H' (l.trans l2)
  | exc c h => exact fun g2 H' l2 => x g2 H' (l.trans l2)
  | no => exact x
theorem Rz.mono {α β : Type} {Rl : G → α → β → Prop} {g : G} {r : R α} {Q Q' : β → Hp → Prop} (q : ∀ v H, Q v H → Q' v H) (x : Rz Γ Wx Rl g r σ Q) : Rz Γ Wx Rl g r σ Q' := by
  cases r with
  | ok w h => exact fun g2 v H' l2 a b => q _ _ (x g2 v H' l2 a b)
  | exc c h => exact x
  | no => exact x
theorem RDE.mono {f : Ex} {Q Q' : VK} (q : ∀ v H, Q v H → Q' v H) : RDE Γ Wx f σ H Q → RDE Γ Wx f σ H Q' := fun ⟨g, sl, h, a, b, c⟩ => ⟨g, sl, h, a, b, c.mono q⟩
theorem RDA.mono {f : Ax} {Q Q' : List V → Hp → Prop} (q : ∀ v H, Q v H → Q' v H) : RDA Γ Wx f σ H Q → RDA Γ Wx f σ H Q' := fun ⟨g, sl, h, a, b, c⟩ => ⟨g, sl, h, a, b, c.mono q⟩
theorem RDT.mono {f : Tx} {Q Q' : Bool → Hp → Prop} (q : ∀ v H, Q v H → Q' v H) : RDT Γ Wx f σ H Q → RDT Γ Wx f σ H Q' := fun ⟨g, sl, h, a, b, c⟩ => ⟨g, sl, h, a, b, c.mono q⟩
/-- a part runs, the rest is still to come -/
theorem rz_step {α β α' β' : Type} {Rl : G → α → β → Prop} {Rl' : G → α' → β' → Prop} {r : R α} {k : α → HS → R α'} {Q : β' → Hp → Prop} (x : Rz Γ Wx Rl' g (r.bind k) σ Q) :
    Rz Γ Wx Rl g r σ fun v H1 => ∃ g1 h1 w, g.le g1 ∧ RH Γ g1 h1 H1 ∧ Rl g1 w v ∧ Rz Γ Wx Rl' g1 (k w h1) σ Q := by
  cases r with
  | ok w h => exact fun g' v H' l a b => ⟨g', h, w, l, a, b, Rz.le l x⟩
  | exc c h => exact x
  | no => exact x
theorem RDE.step {f : Ex} {α' β' : Type} {Rl' : G → α' → β' → Prop} {k : W → HS → R α'} {Q : β' → Hp → Prop} (a : RH Γ g h H) (b : SLk Γ g sl σ) (x : Rz Γ Wx Rl' g ((f sl h).bind k) σ Q) :
    RDE Γ Wx f σ H fun v H1 => ∃ g1 h1 w, g.le g1 ∧ RH Γ g1 h1 H1 ∧ RW Γ.K g1 w v ∧ Rz Γ Wx Rl' g1 (k w h1) σ Q := ⟨g, sl, h, a, b, rz_step x⟩
theorem RDA.step {f : Ax} {α' β' : Type} {Rl' : G → α' → β' → Prop} {k : List W → HS → R α'} {Q : β' → Hp → Prop} (a : RH Γ g h H) (b : SLk Γ g sl σ) (x : Rz Γ Wx Rl' g ((f sl h).bind k) σ Q) :
    RDA Γ Wx f σ H fun v H1 => ∃ g1 h1 w, g.le g1 ∧ RH Γ g1 h1 H1 ∧ RWs Γ.K g1 w v ∧ Rz Γ Wx Rl' g1 (k w h1) σ Q := ⟨g, sl, h, a, b, rz_step x⟩
theorem RDT.step {f : Tx} {α' β' : Type} {Rl' : G → α' → β' → Prop} {k : Bool → HS → R α'} {Q : β' → Hp → Prop} (a : RH Γ g h H) (b : SLk Γ g sl σ) (x : Rz Γ Wx Rl' g ((f sl h).bind k) σ Q) :
    RDT Γ Wx f σ H fun v H1 => ∃ g1 h1 w, g.le g1 ∧ RH Γ g1 h1 H1 ∧ w = v ∧ Rz Γ Wx Rl' g1 (k w h1) σ Q := ⟨g, sl, h, a, b, rz_step x⟩
theorem rzS_le {g g' : G} {n : Nat} {r : RS} {D : Ends} (l : g.le g') (x : RzS Γ Wx g n r D) : RzS Γ Wx g' n r D := by
  cases r with
  | nx s h => exact fun g2 σ' H' l2 => x g2 σ' H' (l.trans l2)
  | bk s h => exact fun g2 σ' H' l2 => x g2 σ' H' (l.trans l2)
  | ct s h => exact fun g2 σ' H' l2 => x g2 σ' H' (l.trans l2)
  | rt w h => exact fun g2 v H' l2 => x g2 v H' (l.trans l2)
  | exc c s h => exact fun g2 σ' H' l2 => x g2 σ' H' (l.trans l2)
  | no => exact x
theorem rz_st {α β : Type} {Rl : G → α → β → Prop} {r : R α} {k : α → HS → RS} {D : Ends} (s : SLk Γ g sl σ) (x : RzS Γ Wx g σ.length (r.st sl k) D) :
    Rz Γ Wx Rl g r σ fun v H1 => ∃ g1 h1 w, g.le g1 ∧ RH Γ g1 h1 H1 ∧ Rl g1 w v ∧ RzS Γ Wx g1 σ.length (k w h1) D := by
  cases r with
  | ok w h => exact fun g' v H' l a b => ⟨g', h, w, l, a, b, rzS_le l x⟩
  | exc c h => exact fun g' H' l a => x g' σ H' l a (SLk.mono l s) rfl
  | no => exact x
end
theorem PE.imp {X : Cx} {e : Expr} {t t' : TE} (a : PE X e t) (q : ∀ σ H Q, t' σ H Q → t σ H Q) : PE X e t' := ⟨fun pins s σ H Q I h => a.run pins s σ H Q I (q _ _ _ h)⟩
theorem PT.imp {X : Cx} {e : Expr} {t t' : TT} (a : PT X e t) (q : ∀ σ H Q, t' σ H Q → t σ H Q) : PT X e t' := ⟨fun pins s σ H Q I h => a.run pins s σ H Q I (q _ _ _ h)⟩
theorem PA.imp {X : Cx} {e : List Expr} {t t' : TA} (a : PA X e t) (q : ∀ σ H Q, t' σ H Q → t σ H Q) : PA X e t' := ⟨fun pos pins s σ H Q I h => a.run pos pins s σ H Q I (q _ _ _ h)⟩
theorem PS.imp {X : Cx} {e : Stmt} {t t' : TS} (a : PS X e t) (q : ∀ D σ H, t' D σ H → t D σ H) : PS X e t' := ⟨fun pins s σ H D I h => a.run pins s σ H D I (q _ _ _ h)⟩
theorem PSs.imp {X : Cx} {e : List Stmt} {t t' : TS} (a : PSs X e t) (q : ∀ D σ H, t' D σ H → t D σ H) : PSs X e t' := ⟨fun pins s σ H D I h => a.run pins s σ H D I (q _ _ _ h)⟩
end Pk
end

/-! PkB -/
section
set_option Elab.async false
set_option linter.all false
set_option maxRecDepth 100000
namespace Pk
open PySem PySem.Spec L2
section
variable {Γ : Γ} {Wx : WX} {g : G} {h : HS} {H : Hp} {sl : Sl} {σ : L2.St}

theorem DctH.ne {H : Hp} {a : Addr} {ks : List DK} {vs : List V} (d : DctH H a ks vs) : ∃ o, H a = some o ∧ NT o := by
  rcases d with ⟨kvs, e, _⟩ | ⟨kvs, e, _⟩
  · exact ⟨_, e, trivial⟩
  · exact ⟨_, e, trivial⟩
theorem CellOk.at {g : G} {H : Hp} {a : Addr} {c : Ct} (x : CellOk Γ g H a c) : ∃ o, H a = some o ∧ NT o := by
  cases c with
  | lst ws => obtain ⟨vs, e, _⟩ := x; exact ⟨_, e, trivial⟩
  | dic ks ws => obtain ⟨vs, d, _⟩ := x; exact d.ne
  | lck ks ws =>
    obtain ⟨vs, d, _⟩ := x
    rcases d with ⟨o, kvs, e, _⟩ | ⟨o, kvs, e, _⟩
    · exact ⟨_, e, trivial⟩
    · exact ⟨_, e, trivial⟩
  | ins c ks ws => obtain ⟨dx, vs, _, e, _⟩ := x; exact ⟨_, e, trivial⟩
theorem CellOk.mono {g g' : G} {H H' : Hp} {a : Addr} {c : Ct} (l : g.le g') (e : H' a = H a) (x : CellOk Γ g H a c) : CellOk Γ g' H' a c := by
  cases c with
  | lst ws => obtain ⟨vs, q, r⟩ := x; exact ⟨vs, e.trans q, RWs.mono l _ _ r⟩
  | dic ks ws =>
    obtain ⟨vs, d, r⟩ := x
    refine ⟨vs, ?_, RWs.mono l _ _ r⟩
    rcases d with ⟨kvs, q, z⟩ | ⟨kvs, q, z⟩
    · exact .inl ⟨kvs, e.trans q, z⟩
    · exact .inr ⟨kvs, e.trans q, z⟩
  | lck ks ws =>
    obtain ⟨vs, d, r⟩ := x
    refine ⟨vs, ?_, RWs.mono l _ _ r⟩
    rcases d with ⟨o, kvs, q, z⟩ | ⟨o, kvs, q, z⟩
    · exact .inl ⟨o, kvs, e.trans q, z⟩
    · exact .inr ⟨o, kvs, e.trans q, z⟩
  | ins c ks ws => obtain ⟨dx, vs, z, q, r⟩ := x; exact ⟨dx, vs, z, e.trans q, RWs.mono l _ _ r⟩

mutual
theorem rw_hid {K : PySem.W.Frag} {g g' : G} (e1 : g'.nx = g.nx) (e2 : g'.ρ = g.ρ) (e3 : g'.F = g.F) : ∀ {w : W} {v : V}, RW K g w v → RW K g' w v
  | .non, _, h => by unfold RW at h ⊢; exact h
  | .bl _, _, h => by unfold RW at h ⊢; exact h
  | .int _, _, h => by unfold RW at h ⊢; exact h
  | .str _, _, h => by unfold RW at h ⊢; exact h
  | .tup ws, _, h => by
    unfold RW at h ⊢
    obtain ⟨a, vs, e, s, r⟩ := h
    exact ⟨a, vs, e, by rw [e3]; exact s, rws_hid e1 e2 e3 r⟩
  | .kt ws, _, h => by
    unfold RW at h ⊢
    obtain ⟨a, vs, e, s, r⟩ := h
    exact ⟨a, vs, e, by rw [e3]; exact s, rws_hid e1 e2 e3 r⟩
  | .lst ws, _, h => by
    unfold RW at h ⊢
    obtain ⟨a, vs, e, s, r⟩ := h
    exact ⟨a, vs, e, by rw [e3]; exact s, rws_hid e1 e2 e3 r⟩
  | .dic ks ws, _, h => by
    unfold RW at h ⊢
    obtain ⟨a, vs, e, s, r⟩ := h
    exact ⟨a, vs, e, by rw [e3]; exact s, rws_hid e1 e2 e3 r⟩
  | .box n, _, h => by
    unfold RW at h ⊢
    rw [e1, e2]; exact h
  | .scr ns, _, h => by
    unfold RW at h ⊢
    obtain ⟨a, e, s⟩ := h
    exact ⟨a, e, by rw [e3]; exact s⟩
  | .tx ys, _, h => by
    unfold RW at h ⊢
    obtain ⟨a, e, s⟩ := h
    exact ⟨a, e, by rw [e3]; exact s⟩
theorem rws_hid {K : PySem.W.Frag} {g g' : G} (e1 : g'.nx = g.nx) (e2 : g'.ρ = g.ρ) (e3 : g'.F = g.F) : ∀ {ws : List W} {vs : List V}, RWs K g ws vs → RWs K g' ws vs
  | [], _, h => by unfold RWs at h ⊢; exact h
  | w :: ws, _, h => by
    unfold RWs at h ⊢
    obtain ⟨v, vr, e, r, rs⟩ := h
    exact ⟨v, vr, e, rw_hid e1 e2 e3 r, rws_hid e1 e2 e3 rs⟩
end
theorem RH.noF (x : RH Γ g h H) {p : Addr} (hp : H p = none) : g.F p = none := by
  cases q : g.F p with
  | none => rfl
  | some u =>
    rcases x.fr p u q with z | ⟨_, o, z⟩
    · rw [hp] at z; cases z
    · rw [hp] at z; cases z
theorem RH.rneq (x : RH Γ g h H) {p : Addr} (hp : H p = none) {n : Nat} (hn : h.at_ n ≠ none) : g.ρ n ≠ p := fun e => by
  obtain ⟨o, q, _⟩ := x.tr n hn
  rw [e, hp] at q
  cases q
/-- a new object that is tracked, no more -/
theorem RH.aux (x : RH Γ g h H) {p : Addr} (hp : H p = none) (o : HO) : RH Γ g h (upd H p o) := by
  have keep : ∀ a u, H a = some u → upd H p o a = some u := fun a u e => by rw [upd_ne (ne_of_none e hp)]; exact e
  refine ⟨fun a u e => ?_, x.nx, x.inj, fun n hn => ?_, fun n c e => ?_, tabs_upd x.tab (fun o e => by rw [hp] at e; cases e), x.nt, fun a o' e => ?_, fun a o' e => ⟨keep _ _ (x.lks a o' e).1, (x.lks a o' e).2⟩, x.lkc⟩
  · rcases x.fr a u e with z | ⟨d, o', z⟩
    · exact .inl (keep _ _ z)
    · exact .inr ⟨d, o', keep _ _ z⟩
  · obtain ⟨o', q, no⟩ := x.tr n hn
    exact ⟨o', keep _ _ q, no⟩
  · obtain ⟨a, b, c'⟩ := x.cell n c e
    exact ⟨a, b, c'.mono (.refl g) (upd_ne (x.rneq hp (live e)))⟩
  · obtain ⟨h1, h2⟩ := x.hd a o' e
    exact ⟨keep _ _ h1, h2⟩
theorem nt_frz {F : Hp} {p : Addr} {o : HO} (h : ∀ a u, F a = some u → NB u) (no : NB o) : ∀ a u, upd F p o a = some u → NB u := fun a u e => by
  by_cases ha : a = p
  · rw [ha, upd_same] at e
    cases e
    exact no
  · rw [upd_ne ha] at e
    exact h a u e
/-- the tables grow -/
theorem RH.tabs {H1 : Hp} (x : RH Γ g h H) (e : LamX.ExtN H H1) (t : LamX.Tabs Γ.tabs H1) : RH Γ g h H1 := by
  have ex : ∀ a o, H a = some o → NB o → H1 a = some o := fun a o q n => e a o q fun ps z => by rw [z] at n; exact n
  refine ⟨fun a u q => ?_, x.nx, x.inj, fun n hn => ?_, fun n c q => ?_, t, x.nt, fun a o q => ?_, fun a o e => ⟨ex _ _ (x.lks a o e).1 (x.lks a o e).2.nt.nb, (x.lks a o e).2⟩, x.lkc⟩
  · rcases x.fr a u q with z | ⟨d, o', z⟩
    · exact .inl (ex _ _ z (x.nt _ _ q))
    · exact .inr ⟨d, o', ex _ _ z trivial⟩
  · obtain ⟨o, q, n⟩ := x.tr n hn
    exact ⟨o, ex _ _ q n.nb, n⟩
  · obtain ⟨q1, q2, q3⟩ := x.cell n c q
    obtain ⟨o, e1, n1⟩ := q3.at
    exact ⟨q1, q2, q3.mono (.refl g) ((ex _ _ e1 n1.nb).trans e1.symm)⟩
  · obtain ⟨h1, h2, h3, h4⟩ := x.hd a o q
    exact ⟨ex _ _ h1 h2.nt.nb, h2, h3, h4⟩
/-- a new object that is frozen -/
def G.frz (g : G) (p : Addr) (o : HO) : G := { g with F := upd g.F p o }
theorem RH.frz (x : RH Γ g h H) {p : Addr} (hp : H p = none) (o : HO) (no : NB o := by trivial) : g.le (g.frz p o) ∧ RH Γ (g.frz p o) h (upd H p o) ∧ (g.frz p o).F p = some o := by
  have hF := x.noF hp
  have l : g.le (g.frz p o) := ⟨Nat.le_refl _, fun _ _ => rfl, fun a u e => by
    show upd g.F p o a = some u
    rw [upd_ne (ne_of_none e hF)]; exact e, Same.refl _, Same.refl _⟩
  have y := x.aux hp o
  refine ⟨l, ⟨fun a u e => ?_, x.nx, x.inj, y.tr, fun n c e => ?_, y.tab, nt_frz x.nt no, fun a o' e => ?_, y.lks, y.lkc⟩, upd_same⟩
  · by_cases ha : a = p
    · subst ha
      have e' : upd g.F a o a = some u := e
      rw [upd_same] at e'
      cases e'
      exact .inl upd_same
    · have e' : upd g.F p o a = some u := e
      rw [upd_ne ha] at e'
      exact y.fr a u e'
  · obtain ⟨a, b, c'⟩ := y.cell n c e
    refine ⟨a, ?_, c'.mono l rfl⟩
    show upd g.F p o (g.ρ n) = none
    rw [upd_ne (x.rneq hp (live e))]
    exact b
  · obtain ⟨h1, h2, h3, h4⟩ := y.hd a o' e
    refine ⟨h1, h2, ?_, h4⟩
    show upd g.F p o a = none
    rw [upd_ne (ne_of_none (x.hd a o' e).1 hp)]
    exact h3
/-- a thing told by what is true of its one object is kept from now on -/
theorem RH.ext (x : RH Γ g h H) {p : Addr} {φ : Heap → Prop} (e : H p = some (.ext φ)) : ∃ g2 : G, g.le g2 ∧ RH Γ g2 h H ∧ g2.F p = some (.ext φ) := by
  cases q : g.F p with
  | some u =>
    refine ⟨g, .refl g, x, ?_⟩
    rcases x.fr p u q with z | ⟨d, o', z⟩
    · rw [e] at z; cases z; exact q
    · rw [e] at z; cases z
  | none =>
    have l : g.le (g.frz p (.ext φ)) := ⟨Nat.le_refl _, fun _ _ => rfl, fun a u z => by
      show upd g.F p (.ext φ) a = some u
      rw [upd_ne (ne_of_none z q)]; exact z, Same.refl _, Same.refl _⟩
    refine ⟨g.frz p (.ext φ), l, ⟨fun a u z => ?_, x.nx, x.inj, x.tr, fun n c z => ?_, x.tab, nt_frz x.nt trivial, fun a o z => ?_, x.lks, x.lkc⟩, upd_same⟩
    · have z : upd g.F p (.ext φ) a = some u := z
      by_cases ha : a = p
      · rw [ha, upd_same] at z
        cases z
        exact .inl (by rw [ha]; exact e)
      · rw [upd_ne ha] at z
        exact x.fr a u z
    · obtain ⟨q1, q2, q3⟩ := x.cell n c z
      obtain ⟨o, e1, n1⟩ := q3.at
      refine ⟨q1, ?_, q3.mono l rfl⟩
      show upd g.F p (.ext φ) (g.ρ n) = none
      rw [upd_ne (fun z => by rw [z, e] at e1; cases e1; exact n1)]
      exact q2
    · obtain ⟨h1, h2, h3, h4⟩ := x.hd a o z
      refine ⟨h1, h2, ?_, h4⟩
      show upd g.F p (.ext φ) a = none
      rw [upd_ne (fun z => by rw [z, e] at h1; cases h1; exact h2.nt)]
      exact h3
/-- a new box -/
def G.box (g : G) (p : Addr) : G := { g with nx := g.nx + 1, ρ := fun n => if n = g.nx then p else g.ρ n }
theorem G.box_le (g : G) (p : Addr) : g.le (g.box p) := ⟨Nat.le_succ _, fun n hn => if_neg (Nat.ne_of_lt hn), Same.refl _, Same.refl _, Same.refl _⟩
theorem RH.box (x : RH Γ g h H) {p : Addr} {o : HO} {c : Ct} (hp : H p = none) (hc : CellOk Γ g (upd H p o) p c) (nl : ∀ ks ws, c ≠ .lck ks ws := by intro _ _ z; cases z) : g.le (g.box p) ∧ RH Γ (g.box p) (h.new c) (upd H p o) ∧ RW Γ.K (g.box p) (.box h.nx) (.ref p) := by
  have l := g.box_le p
  have y := x.aux hp o
  have hnx := x.nx
  have r0 : (g.box p).ρ g.nx = p := if_pos rfl
  have rl : ∀ n, n < g.nx → (g.box p).ρ n = g.ρ n := l.ρ
  have lt : ∀ {n}, h.at_ n ≠ none → n < g.nx := fun {n} ln => by
    cases q : h.at_ n with
    | none => exact absurd q ln
    | some c => exact (x.cell n c q).1
  have old : ∀ {n}, (h.new c).at_ n ≠ none → n ≠ g.nx → h.at_ n ≠ none := fun {n} z b q => by
    have z : (if n = h.nx then some c else h.at_ n) ≠ none := z
    rw [← hnx, if_neg b] at z
    exact z q
  refine ⟨l, ⟨y.fr, by show g.nx + 1 = h.nx + 1; rw [hnx], fun m n hm hn e => ?_, fun n hn => ?_, fun n c' e => ?_, y.tab, y.nt, fun a o' e => ?_, y.lks, fun n ks ws e => by
    have e' : (if n = h.nx then some c else h.at_ n) = some (.lck ks ws) := e
    by_cases b : n = h.nx
    · rw [if_pos b] at e'
      exact absurd (Option.some.inj e') (nl ks ws)
    · rw [if_neg b] at e'
      rw [show (g.box p).ρ n = g.ρ n from rl n (x.cell n _ e').1]
      exact x.lkc n ks ws e'⟩, ?_⟩
  · by_cases a : m = g.nx
    · by_cases b : n = g.nx
      · rw [a, b]
      · have ln := old hn b
        rw [a, r0, rl n (lt ln)] at e
        exact absurd e.symm (x.rneq hp ln)
    · have lm := old hm a
      by_cases b : n = g.nx
      · rw [b, r0, rl m (lt lm)] at e
        exact absurd e (x.rneq hp lm)
      · have ln := old hn b
        rw [rl m (lt lm), rl n (lt ln)] at e
        exact x.inj m n lm ln e
  · by_cases b : n = g.nx
    · rw [b, r0]; exact ⟨o, upd_same, (by obtain ⟨o1, e1, n1⟩ := hc.at; rw [upd_same] at e1; cases e1; exact n1)⟩
    · have ln := old hn b
      rw [rl n (lt ln)]; exact y.tr n ln
  · have e' : (if n = h.nx then some c else h.at_ n) = some c' := e
    by_cases b : n = h.nx
    · rw [if_pos b] at e'
      cases e'
      rw [b, ← hnx, r0]
      exact ⟨Nat.lt_succ_self _, x.noF hp, hc.mono l rfl⟩
    · rw [if_neg b] at e'
      obtain ⟨q1, q2, q3⟩ := y.cell n c' e'
      rw [rl n q1]
      exact ⟨Nat.lt_succ_of_lt q1, q2, q3.mono l rfl⟩
  · obtain ⟨h1, h2, h3, h4⟩ := y.hd a o' e
    refine ⟨h1, h2, h3, fun n hn => ?_⟩
    by_cases b : n = g.nx
    · rw [b, r0]
      exact (ne_of_none (x.hd a o' e).1 hp).symm
    · have ln := old hn b
      rw [rl n (lt ln)]
      exact h4 n ln
  · unfold RW
    rw [← hnx, r0]
    exact ⟨Nat.lt_succ_self _, rfl⟩
/-- numbers of boxes are left out -/
def G.pad (g : G) (N : Nat) : G := { g with nx := N }
theorem RH.pad (x : RH Γ g h H) {N : Nat} (hN : h.nx ≤ N) : g.le (g.pad N) ∧ RH Γ (g.pad N) ⟨h.at_, N⟩ H := by
  have hN' : g.nx ≤ N := by rw [x.nx]; exact hN
  have l : g.le (g.pad N) := ⟨hN', fun _ _ => rfl, Same.refl _, Same.refl _, Same.refl _⟩
  refine ⟨l, ⟨x.fr, rfl, x.inj, x.tr, fun n c e => ?_, x.tab, x.nt, x.hd, x.lks, x.lkc⟩⟩
  obtain ⟨q1, q2, q3⟩ := x.cell n c e
  exact ⟨Nat.lt_of_lt_of_le q1 hN', q2, q3.mono l rfl⟩
theorem nh_nf {o : HO} (h : NH o) (f : IsFrz o) : False := by
  cases o <;> first | exact f | exact h
theorem nofrz {H : Hp} {a : Addr} {c : Ct} {o : HO} (ok : CellOk Γ g H a c) (nl : ∀ ks ws, c ≠ .lck ks ws) (e : H a = some o) (f : IsFrz o) : False := by
  cases c with
  | lst ws => obtain ⟨vs, q, _⟩ := ok; rw [q] at e; cases e; exact f
  | ins c ks ws => obtain ⟨dx, vs, _, q, _⟩ := ok; rw [q] at e; cases e; exact f
  | lck ks ws => exact nl ks ws rfl
  | dic ks ws =>
    obtain ⟨vs, d, _⟩ := ok
    rcases d with ⟨kvs, q, _⟩ | ⟨kvs, q, _⟩
    · rw [q] at e; cases e; exact f
    · rw [q] at e; cases e; exact f
/-- a box is written -/
theorem RH.put (x : RH Γ g h H) {n : Nat} {c c' : Ct} {o : HO} (e : h.at_ n = some c) (hc : CellOk Γ g (upd H (g.ρ n) o) (g.ρ n) c') (nl : ∀ ks ws, c ≠ .lck ks ws := by intro _ _ z; cases z) (nl' : ∀ ks ws, c' ≠ .lck ks ws := by intro _ _ z; cases z) : RH Γ g (h.put n c') (upd H (g.ρ n) o) := by
  obtain ⟨hn, hF, ok⟩ := x.cell n c e
  obtain ⟨o0, ho, nt⟩ := ok.at
  refine ⟨fun a u q => ?_, x.nx, fun m k hm hk => x.inj m k (put_live e hm) (put_live e hk), fun m hm => ?_, fun m c2 q => ?_, tabs_upd x.tab (fun o e => by rw [ho] at e; cases e; exact nt), x.nt, fun a o' q => ?_, fun a o' q => ?_, fun m ks ws q => ?_⟩
  · have na : a ≠ g.ρ n := fun z => by rw [z, hF] at q; cases q
    rcases x.fr a u q with z | ⟨d, o', z⟩
    · exact .inl (by rw [upd_ne na]; exact z)
    · exact .inr ⟨d, o', by rw [upd_ne na]; exact z⟩
  · by_cases b : g.ρ m = g.ρ n
    · rw [b]; exact ⟨o, upd_same, (by obtain ⟨o1, e1, n1⟩ := hc.at; rw [upd_same] at e1; cases e1; exact n1)⟩
    · rw [upd_ne b]; exact x.tr m (put_live e hm)
  · have q' : (if m = n then some c' else h.at_ m) = some c2 := q
    by_cases b : m = n
    · rw [if_pos b] at q'
      cases q'
      rw [b]
      exact ⟨hn, hF, hc⟩
    · rw [if_neg b] at q'
      obtain ⟨q1, q2, q3⟩ := x.cell m c2 q'
      exact ⟨q1, q2, q3.mono (.refl g) (upd_ne fun z => b (x.inj m n (live q') (live e) z))⟩
  · obtain ⟨h1, h2, h3, h4⟩ := x.hd a o' q
    exact ⟨by rw [upd_ne (h4 n (live e)).symm]; exact h1, h2, h3, fun m hm => h4 m (put_live e hm)⟩
  · have na : a ≠ g.ρ n := fun z => by
      have q2 := (x.lks a o' q).1
      rw [z] at q2
      exact nofrz ok nl q2 (x.lks a o' q).2
    exact ⟨by rw [upd_ne na]; exact (x.lks a o' q).1, (x.lks a o' q).2⟩
  · have q' : (if m = n then some c' else h.at_ m) = some (.lck ks ws) := q
    by_cases b : m = n
    · rw [if_pos b] at q'
      exact absurd (Option.some.inj q') (nl' ks ws)
    · rw [if_neg b] at q'
      exact x.lkc m ks ws q'
/-- a box is frozen -/
theorem RH.ice (x : RH Γ g h H) {n : Nat} {c : Ct} {o : HO} (e : h.at_ n = some c) (ho : H (g.ρ n) = some o) : g.le (g.frz (g.ρ n) o) ∧ RH Γ (g.frz (g.ρ n) o) (h.del n) H ∧ (g.frz (g.ρ n) o).F (g.ρ n) = some o := by
  obtain ⟨hn, hF, ok⟩ := x.cell n c e
  have l : g.le (g.frz (g.ρ n) o) := ⟨Nat.le_refl _, fun _ _ => rfl, fun a u q => by
    show upd g.F (g.ρ n) o a = some u
    rw [upd_ne (ne_of_none q hF)]; exact q, Same.refl _, Same.refl _⟩
  refine ⟨l, ⟨fun a u q => ?_, x.nx, fun m k hm hk => x.inj m k (del_live hm) (del_live hk), fun m hm => x.tr m (del_live hm), fun m c2 q => ?_, x.tab, nt_frz x.nt (by obtain ⟨o1, e1, n1⟩ := ok.at; rw [ho] at e1; cases e1; exact n1.nb), fun a o' q => ?_, x.lks, fun m ks ws q => ?_⟩, upd_same⟩
  · by_cases ha : a = g.ρ n
    · have q' : upd g.F (g.ρ n) o a = some u := q
      rw [ha, upd_same] at q'
      cases q'
      exact .inl (by rw [ha]; exact ho)
    · have q' : upd g.F (g.ρ n) o a = some u := q
      rw [upd_ne ha] at q'
      exact x.fr a u q'
  · have q' : (if m = n then none else h.at_ m) = some c2 := q
    by_cases b : m = n
    · rw [if_pos b] at q'; cases q'
    · rw [if_neg b] at q'
      obtain ⟨q1, q2, q3⟩ := x.cell m c2 q'
      refine ⟨q1, ?_, q3.mono l rfl⟩
      show upd g.F (g.ρ n) o (g.ρ m) = none
      rw [upd_ne fun z => b (x.inj m n (live q') (live e) z)]
      exact q2
  · obtain ⟨h1, h2, h3, h4⟩ := x.hd a o' q
    refine ⟨h1, h2, ?_, fun m hm => h4 m (del_live hm)⟩
    show upd g.F (g.ρ n) o a = none
    rw [upd_ne (h4 n (live e)).symm]
    exact h3
  · have q' : (if m = n then none else h.at_ m) = some (.lck ks ws) := q
    by_cases b : m = n
    · rw [if_pos b] at q'; cases q'
    · rw [if_neg b] at q'
      exact x.lkc m ks ws q'
/-- something new is pinned, not to be seen -/
def G.hide (g : G) (p : Addr) (o : HO) : G := { g with hid := upd g.hid p o }
theorem RH.noHid (x : RH Γ g h H) {p : Addr} (hp : H p = none) : g.hid p = none := by
  cases q : g.hid p with
  | none => rfl
  | some u =>
    have := (x.hd p u q).1
    rw [hp] at this; cases this
theorem RH.hide (x : RH Γ g h H) {p : Addr} (hp : H p = none) {o : HO} (nt : NH o) : g.le (g.hide p o) ∧ RH Γ (g.hide p o) h (upd H p o) ∧ (g.hide p o).hid p = some o := by
  have hF := x.noHid hp
  have l : g.le (g.hide p o) := ⟨Nat.le_refl _, fun _ _ => rfl, Same.refl _, fun a u e => by
    show upd g.hid p o a = some u
    rw [upd_ne (ne_of_none e hF)]; exact e, Same.refl _⟩
  have y := x.aux hp o
  refine ⟨l, ⟨y.fr, y.nx, y.inj, y.tr, fun n c e => ?_, y.tab, y.nt, fun a o' e => ?_, y.lks, y.lkc⟩, upd_same⟩
  · obtain ⟨a, b, c'⟩ := y.cell n c e
    exact ⟨a, b, c'.mono l rfl⟩
  · have e' : upd g.hid p o a = some o' := e
    by_cases ha : a = p
    · rw [ha, upd_same] at e'
      cases e'
      rw [ha]
      exact ⟨upd_same, nt, x.noF hp, fun n hn => x.rneq hp hn⟩
    · rw [upd_ne ha] at e'
      exact y.hd a o' e'
/-- what is pinned is changed: the same to all but to who pinned it -/
theorem RH.rehide (x : RH Γ g h H) {p : Addr} {o o' : HO} (e : g.hid p = some o) (nt : NH o') : RH Γ (g.hide p o') h (upd H p o') ∧ (g.hide p o').hid p = some o' := by
  obtain ⟨h1, h2, h3, h4⟩ := x.hd p o e
  refine ⟨⟨fun a u q => ?_, x.nx, x.inj, fun m hm => ?_, fun m c q => ?_, tabs_upd x.tab (fun o e => by rw [h1] at e; cases e; exact h2.nt), x.nt, fun a u q => ?_, fun a u q => ?_, x.lkc⟩, upd_same⟩
  · have q : g.F a = some u := q
    have na : a ≠ p := fun z => by rw [z, h3] at q; cases q
    rcases x.fr a u q with z | ⟨d, o', z⟩
    · exact .inl (by rw [upd_ne na]; exact z)
    · exact .inr ⟨d, o', by rw [upd_ne na]; exact z⟩
  · show ∃ o, upd H p o' (g.ρ m) = some o ∧ NT o
    rw [upd_ne (h4 m hm)]; exact x.tr m hm
  · obtain ⟨q1, q2, q3⟩ := x.cell m c q
    have e2 : upd H p o' (g.ρ m) = H (g.ρ m) := upd_ne (h4 m (live q))
    refine ⟨q1, q2, ?_⟩
    have z : CellOk Γ g (upd H p o') (g.ρ m) c := q3.mono (.refl g) e2
    cases c with
    | lst ws => obtain ⟨vs, a, b⟩ := z; exact ⟨vs, a, rws_hid (g := g) (by rfl) (by rfl) (by rfl) b⟩
    | dic ks ws => obtain ⟨vs, a, b⟩ := z; exact ⟨vs, a, rws_hid (g := g) (by rfl) (by rfl) (by rfl) b⟩
    | lck ks ws => obtain ⟨vs, a, b⟩ := z; exact ⟨vs, a, rws_hid (g := g) (by rfl) (by rfl) (by rfl) b⟩
    | ins c ks ws => obtain ⟨dx, vs, a, a2, b⟩ := z; exact ⟨dx, vs, a, a2, rws_hid (g := g) (by rfl) (by rfl) (by rfl) b⟩
  · have q' : upd g.hid p o' a = some u := q
    by_cases ha : a = p
    · rw [ha, upd_same] at q'
      cases q'
      rw [ha]
      exact ⟨upd_same, nt, h3, h4⟩
    · rw [upd_ne ha] at q'
      obtain ⟨a1, a2⟩ := x.hd a u q'
      exact ⟨by rw [upd_ne ha]; exact a1, a2⟩
  · have na : a ≠ p := fun z => by
      have q2 := x.lks a u q
      rw [z, h1] at q2
      obtain ⟨q2, q3⟩ := q2
      cases q2
      exact nh_nf h2 q3
    exact ⟨by rw [upd_ne na]; exact (x.lks a u q).1, (x.lks a u q).2⟩
/-- it is pinned no more: frozen instead -/
theorem RH.show_ (x : RH Γ g h H) {p : Addr} {o : HO} (e : g.hid p = some o) {g0 : G} (l0 : g0.le g) (n0 : g0.hid p = none) : ∃ g2 : G, g0.le g2 ∧ RH Γ g2 h H ∧ g2.F p = some o ∧ (∀ w v, RW Γ.K g w v → RW Γ.K g2 w v) ∧ ∀ w v, RWs Γ.K g w v → RWs Γ.K g2 w v := by
  obtain ⟨h1, h2, h3, h4⟩ := x.hd p o e
  let gm : G := { g with hid := fun a => if a = p then none else g.hid a }
  have lm : g0.le gm := ⟨l0.nx, l0.ρ, l0.F, fun a u q => by
    show (if a = p then none else g.hid a) = some u
    rw [if_neg (fun z => by rw [z, n0] at q; cases q)]
    exact l0.hid a u q, l0.lk⟩
  have lf : gm.le (gm.frz p o) := ⟨Nat.le_refl _, fun _ _ => rfl, fun a u q => by
    show upd g.F p o a = some u
    have q : g.F a = some u := q
    rw [upd_ne (ne_of_none q h3)]; exact q, Same.refl _, Same.refl _⟩
  have m1 : ∀ w v, RW Γ.K g w v → RW Γ.K gm w v := fun w v r => rw_hid (g := g) (by rfl) (by rfl) (by rfl) r
  have m2 : ∀ w v, RWs Γ.K g w v → RWs Γ.K gm w v := fun w v r => rws_hid (g := g) (by rfl) (by rfl) (by rfl) r
  refine ⟨gm.frz p o, lm.trans lf, ⟨fun a u q => ?_, x.nx, x.inj, x.tr, fun m c q => ?_, x.tab, nt_frz x.nt h2.nt.nb, fun a u q => ?_, x.lks, x.lkc⟩, upd_same, fun w v r => RW.mono lf _ _ (m1 w v r), fun w v r => RWs.mono lf _ _ (m2 w v r)⟩
  · by_cases ha : a = p
    · have q' : upd g.F p o a = some u := q
      rw [ha, upd_same] at q'
      cases q'
      exact .inl (by rw [ha]; exact h1)
    · have q' : upd g.F p o a = some u := q
      rw [upd_ne ha] at q'
      exact x.fr a u q'
  · obtain ⟨q1, q2, z⟩ := x.cell m c q
    refine ⟨q1, ?_, ?_⟩
    · show upd g.F p o (g.ρ m) = none
      rw [upd_ne (h4 m (live q))]
      exact q2
    · cases c with
      | lst ws => obtain ⟨vs, a, b⟩ := z; exact ⟨vs, a, RWs.mono lf _ _ (m2 _ _ b)⟩
      | dic ks ws => obtain ⟨vs, a, b⟩ := z; exact ⟨vs, a, RWs.mono lf _ _ (m2 _ _ b)⟩
      | lck ks ws => obtain ⟨vs, a, b⟩ := z; exact ⟨vs, a, RWs.mono lf _ _ (m2 _ _ b)⟩
      | ins c ks ws => obtain ⟨dx, vs, a, a2, b⟩ := z; exact ⟨dx, vs, a, a2, RWs.mono lf _ _ (m2 _ _ b)⟩
  · have q' : (if a = p then none else g.hid a) = some u := q
    by_cases ha : a = p
    · rw [if_pos ha] at q'; cases q'
    · rw [if_neg ha] at q'
      obtain ⟨a1, a2, a3, a4⟩ := x.hd a u q'
      refine ⟨a1, a2, ?_, a4⟩
      show upd g.F p o a = none
      rw [upd_ne ha]; exact a3
/-- .. a box instead -/
theorem RH.showB (x : RH Γ g h H) {p : Addr} {o : HO} {c : Ct} (e : g.hid p = some o) (hc : CellOk Γ g H p c) {g0 : G} (l0 : g0.le g) (n0 : g0.hid p = none) (nl : ∀ ks ws, c ≠ .lck ks ws := by intro _ _ z; cases z) : ∃ g2 : G, g0.le g2 ∧ RH Γ g2 (h.new c) H ∧ RW Γ.K g2 (.box h.nx) (.ref p) := by
  obtain ⟨h1, h2, h3, h4⟩ := x.hd p o e
  let gm : G := { g with hid := fun a => if a = p then none else g.hid a }
  have lm : g0.le gm := ⟨l0.nx, l0.ρ, l0.F, fun a u q => by
    show (if a = p then none else g.hid a) = some u
    rw [if_neg (fun z => by rw [z, n0] at q; cases q)]
    exact l0.hid a u q, l0.lk⟩
  have lf := gm.box_le p
  have m2 : ∀ w v, RWs Γ.K g w v → RWs Γ.K gm w v := fun w v r => rws_hid (g := g) (by rfl) (by rfl) (by rfl) r
  have mc : ∀ {c : Ct} {a : Addr}, CellOk Γ g H a c → CellOk Γ (gm.box p) H a c := fun {c a} z => by
    cases c with
    | lst ws => obtain ⟨vs, a, b⟩ := z; exact ⟨vs, a, RWs.mono lf _ _ (m2 _ _ b)⟩
    | dic ks ws => obtain ⟨vs, a, b⟩ := z; exact ⟨vs, a, RWs.mono lf _ _ (m2 _ _ b)⟩
    | lck ks ws => obtain ⟨vs, a, b⟩ := z; exact ⟨vs, a, RWs.mono lf _ _ (m2 _ _ b)⟩
    | ins c ks ws => obtain ⟨dx, vs, a, a2, b⟩ := z; exact ⟨dx, vs, a, a2, RWs.mono lf _ _ (m2 _ _ b)⟩
  have hnx := x.nx
  have r0 : (gm.box p).ρ g.nx = p := if_pos rfl
  have rl : ∀ n, n < g.nx → (gm.box p).ρ n = g.ρ n := fun n hn => if_neg (Nat.ne_of_lt hn)
  have lt : ∀ {n}, h.at_ n ≠ none → n < g.nx := fun {n} ln => by
    cases q : h.at_ n with
    | none => exact absurd q ln
    | some c => exact (x.cell n c q).1
  have old : ∀ {n}, (h.new c).at_ n ≠ none → n ≠ g.nx → h.at_ n ≠ none := fun {n} z b q => by
    have z : (if n = h.nx then some c else h.at_ n) ≠ none := z
    rw [← hnx, if_neg b] at z
    exact z q
  refine ⟨gm.box p, lm.trans lf, ⟨x.fr, by show g.nx + 1 = h.nx + 1; rw [hnx], fun m n hm hn e => ?_, fun n hn => ?_, fun n c' q => ?_, x.tab, x.nt, fun a u q => ?_, x.lks, fun n ks ws e => by
    have e' : (if n = h.nx then some c else h.at_ n) = some (.lck ks ws) := e
    by_cases b : n = h.nx
    · rw [if_pos b] at e'
      exact absurd (Option.some.inj e') (nl ks ws)
    · rw [if_neg b] at e'
      rw [show (gm.box p).ρ n = g.ρ n from rl n (x.cell n _ e').1]
      exact x.lkc n ks ws e'⟩, ?_⟩
  · by_cases a : m = g.nx
    · by_cases b : n = g.nx
      · rw [a, b]
      · have ln := old hn b
        rw [a, r0, rl n (lt ln)] at e
        exact absurd e.symm (h4 n ln)
    · have lm := old hm a
      by_cases b : n = g.nx
      · rw [b, r0, rl m (lt lm)] at e
        exact absurd e (h4 m lm)
      · have ln := old hn b
        rw [rl m (lt lm), rl n (lt ln)] at e
        exact x.inj m n lm ln e
  · by_cases b : n = g.nx
    · rw [b, r0]; exact ⟨o, h1, h2.nt⟩
    · have ln := old hn b
      rw [rl n (lt ln)]; exact x.tr n ln
  · have q' : (if n = h.nx then some c else h.at_ n) = some c' := q
    by_cases b : n = h.nx
    · rw [if_pos b] at q'
      cases q'
      rw [b, ← hnx, r0]
      exact ⟨Nat.lt_succ_self _, h3, mc hc⟩
    · rw [if_neg b] at q'
      obtain ⟨q1, q2, q3⟩ := x.cell n c' q'
      rw [rl n q1]
      exact ⟨Nat.lt_succ_of_lt q1, q2, mc q3⟩
  · have q' : (if a = p then none else g.hid a) = some u := q
    by_cases ha : a = p
    · rw [if_pos ha] at q'; cases q'
    · rw [if_neg ha] at q'
      obtain ⟨a1, a2, a3, a4⟩ := x.hd a u q'
      refine ⟨a1, a2, a3, fun n hn => ?_⟩
      by_cases b : n = g.nx
      · rw [b, r0]; exact fun z => ha z.symm
      · have ln := old hn b
        rw [rl n (lt ln)]; exact a4 n ln
  · unfold RW
    rw [← hnx, r0]
    exact ⟨Nat.lt_succ_self _, rfl⟩

/-! ### views -/
/-- a list's items, in the cells or frozen -/
def lview (h : HS) : W → Option (List W)
  | .lst ws => some ws
  | .box n => match h.at_ n with
    | some (.lst ws) => some ws
    | _ => none
  | _ => none
theorem lview_ok (x : RH Γ g h H) {w : W} {v : V} {ws : List W} (r : RW Γ.K g w v) (e : lview h w = some ws) : ∃ a vs, v = .ref a ∧ H a = some (.lst vs) ∧ RWs Γ.K g ws vs := by
  cases w with
  | lst us =>
    cases e
    unfold RW at r
    obtain ⟨a, vs, rfl, q, rs⟩ := r
    rcases x.fr a _ q with z | ⟨d, _⟩
    · exact ⟨a, vs, rfl, z, rs⟩
    · exact d.elim
  | box n =>
    unfold RW at r
    obtain ⟨hn, rfl⟩ := r
    unfold lview at e
    simp only at e
    cases q : h.at_ n with
    | none => rw [q] at e; cases e
    | some c =>
      rw [q] at e
      cases c with
      | lst us =>
        cases e
        obtain ⟨_, _, vs, z, rs⟩ := x.cell n _ q
        exact ⟨_, vs, rfl, z, rs⟩
      | dic _ _ => cases e
      | ins _ _ _ => cases e
      | lck _ _ => cases e
  | _ => cases e
/-- a list or a tuple -/
def sview (h : HS) : W → Option (List W)
  | .tup ws => some ws
  | .kt ws => some ws
  | w => lview h w
theorem below_T (x : RH Γ g h H) {K : PySem.W.Frag} {a : Addr} {vs : List V} (q : SqT K g.F a vs) : SqT K H a vs := by
  rcases q with (q | ⟨o, q⟩) | q
  · rcases x.fr a _ q with z | ⟨d, _⟩
    · exact .inl (.inl z)
    · exact d.elim
  · rcases x.fr a _ q with z | ⟨d, _⟩
    · exact .inl (.inr ⟨o, z⟩)
    · exact d.elim
  · exact .inr q
theorem below_L (x : RH Γ g h H) {K : PySem.W.Frag} {a : Addr} {vs : List V} (q : SqL K g.F a vs) : SqL K H a vs := by
  rcases q with (q | ⟨o, q⟩) | q
  · rcases x.fr a _ q with z | ⟨d, _⟩
    · exact .inl (.inl z)
    · exact d.elim
  · rcases x.fr a _ q with z | ⟨d, _⟩
    · exact .inl (.inr ⟨o, z⟩)
    · exact d.elim
  · exact .inr q
theorem tup_at (x : RH Γ g h H) {v : V} {ws : List W} (r : RW Γ.K g (.tup ws) v) : ∃ a vs, v = .ref a ∧ H a = some (.tup vs) ∧ RWs Γ.K g ws vs := by
  unfold RW at r
  obtain ⟨a, vs, rfl, q, rs⟩ := r
  rcases x.fr a _ q with z | ⟨d, _⟩
  · exact ⟨a, vs, rfl, z, rs⟩
  · exact d.elim
theorem tup_ok (x : RH Γ g h H) {v : V} {ws : List W} (r : RW Γ.K g (.tup ws) v) : ∃ a vs, v = .ref a ∧ SqT Γ.K H a vs ∧ RWs Γ.K g ws vs := by
  obtain ⟨a, vs, e, q, rs⟩ := tup_at x r
  exact ⟨a, vs, e, SqT.of q, rs⟩
theorem kt_ok (x : RH Γ g h H) {v : V} {ws : List W} (r : RW Γ.K g (.kt ws) v) : ∃ a vs, v = .ref a ∧ SqT Γ.K H a vs ∧ RWs Γ.K g ws vs := by
  unfold RW at r
  obtain ⟨a, vs, rfl, q, rs⟩ := r
  exact ⟨a, vs, rfl, below_T x q, rs⟩
theorem sview_ok (x : RH Γ g h H) {w : W} {v : V} {ws : List W} (r : RW Γ.K g w v) (e : sview h w = some ws) : ∃ a vs, v = .ref a ∧ (SqL Γ.K H a vs ∨ SqT Γ.K H a vs) ∧ RWs Γ.K g ws vs := by
  cases w with
  | tup us =>
    cases e
    obtain ⟨a, vs, e1, q, rs⟩ := tup_ok x r
    exact ⟨a, vs, e1, .inr q, rs⟩
  | kt us =>
    cases e
    obtain ⟨a, vs, e1, q, rs⟩ := kt_ok x r
    exact ⟨a, vs, e1, .inr q, rs⟩
  | lst us =>
    obtain ⟨a, vs, e1, q, rs⟩ := lview_ok x r e
    exact ⟨a, vs, e1, .inl (SqL.of q), rs⟩
  | box n =>
    obtain ⟨a, vs, e1, q, rs⟩ := lview_ok x r e
    exact ⟨a, vs, e1, .inl (SqL.of q), rs⟩
  | _ => cases e
/-- a dict's entries -/
def dview (h : HS) : W → Option (List DK × List W)
  | .dic ks ws => some (ks, ws)
  | .box n => match h.at_ n with
    | some (.dic ks ws) => some (ks, ws)
    | some (.lck ks ws) => some (ks, ws)
    | _ => none
  | _ => none
def DctR (H : Hp) (a : Addr) (ks : List DK) (vs : List V) : Prop :=
  (∃ kvs : List (Key × V), Rd H a (.dK kvs) ∧ ks = kvs.map (fun p => DK.k p.1) ∧ vs = kvs.map (·.2)) ∨
  (∃ kvs : List (List Key × V), Rd H a (.dT kvs) ∧ ks = kvs.map (fun p => DK.t p.1) ∧ vs = kvs.map (·.2))
theorem dview_ok (x : RH Γ g h H) {w : W} {v : V} {ks : List DK} {ws : List W} (r : RW Γ.K g w v) (e : dview h w = some (ks, ws)) : ∃ a vs, v = .ref a ∧ DctR H a ks vs ∧ RWs Γ.K g ws vs := by
  cases w with
  | dic ks' ws' =>
    cases e
    unfold RW at r
    obtain ⟨a, vs, rfl, q, rs⟩ := r
    refine ⟨a, vs, rfl, ?_, rs⟩
    rcases q with ⟨kvs, q, z⟩ | ⟨kvs, q, z⟩
    · exact .inl ⟨kvs, (x.fr a _ q).imp id fun ⟨_, o, z⟩ => ⟨o, z⟩, z⟩
    · exact .inr ⟨kvs, (x.fr a _ q).imp id fun ⟨_, o, z⟩ => ⟨o, z⟩, z.1.1, z.2⟩
  | box n =>
    unfold RW at r
    obtain ⟨hn, rfl⟩ := r
    unfold dview at e
    simp only at e
    cases q : h.at_ n with
    | none => rw [q] at e; cases e
    | some c =>
      rw [q] at e
      cases c with
      | lst us => cases e
      | ins _ _ _ => cases e
      | dic ks' ws' =>
        cases e
        obtain ⟨_, _, vs, z, rs⟩ := x.cell n _ q
        refine ⟨_, vs, rfl, ?_, rs⟩
        rcases z with ⟨kvs, q, z⟩ | ⟨kvs, q, z⟩
        · exact .inl ⟨kvs, .inl q, z⟩
        · exact .inr ⟨kvs, .inl q, z.1.1, z.2⟩
      | lck ks' ws' =>
        cases e
        obtain ⟨_, _, vs, z, rs⟩ := x.cell n _ q
        refine ⟨_, vs, rfl, ?_, rs⟩
        rcases z with ⟨o, kvs, q, z⟩ | ⟨o, kvs, q, z⟩
        · exact .inl ⟨kvs, .inr ⟨o, q⟩, z⟩
        · exact .inr ⟨kvs, .inr ⟨o, q⟩, z.1.1, z.2⟩
  | _ => cases e

/-! ### new lists, tuples, dicts: frozen or in a box -/
def mkL (bx : Bool) (ws : List W) (h : HS) : R W := if bx then .ok (.box h.nx) (h.new (.lst ws)) else .ok (.lst ws) h
def mkD (bx : Bool) (ks : List DK) (ws : List W) (h : HS) : R W := if bx then .ok (.box h.nx) (h.new (.dic ks ws)) else .ok (.dic ks ws) h
theorem mkL_ok {bx : Bool} {ws : List W} {vs : List V} {p : Addr} {Q : VK} (x : RH Γ g h H) (hp : H p = none) (r : RWs Γ.K g ws vs) (q : Rz Γ Wx (RW Γ.K) g (mkL bx ws h) σ Q) : Q (.ref p) (upd H p (.lst vs)) := by
  cases bx with
  | true =>
    obtain ⟨l, y, z⟩ := x.box (c := .lst ws) (o := .lst vs) hp ⟨vs, upd_same, r⟩
    exact q _ _ _ l y z
  | false =>
    obtain ⟨l, y, z⟩ := x.frz hp (.lst vs)
    refine q _ _ _ l y ?_
    unfold RW
    exact ⟨p, vs, rfl, z, RWs.mono l _ _ r⟩
theorem mkT_ok {ws : List W} {vs : List V} {p : Addr} {Q : VK} (x : RH Γ g h H) (hp : H p = none) (r : RWs Γ.K g ws vs) (q : Rz Γ Wx (RW Γ.K) g (.ok (.tup ws) h) σ Q) : Q (.ref p) (upd H p (.tup vs)) := by
  obtain ⟨l, y, z⟩ := x.frz hp (.tup vs)
  refine q _ _ _ l y ?_
  unfold RW
  exact ⟨p, vs, rfl, z, RWs.mono l _ _ r⟩
theorem mkD_ok {bx : Bool} {ks : List DK} {ws : List W} {vs : List V} {p : Addr} {o : HO} {Q : VK} (x : RH Γ g h H) (hp : H p = none) (hd : DctH (upd H p o) p ks vs) (r : RWs Γ.K g ws vs) (q : Rz Γ Wx (RW Γ.K) g (mkD bx ks ws h) σ Q) : Q (.ref p) (upd H p o) := by
  cases bx with
  | true =>
    obtain ⟨l, y, z⟩ := x.box (c := .dic ks ws) (o := o) hp ⟨vs, hd, r⟩
    exact q _ _ _ l y z
  | false =>
    obtain ⟨l, y, z⟩ := x.frz hp o (by obtain ⟨o1, e1, n1⟩ := hd.ne; rw [upd_same] at e1; cases e1; exact n1.nb)
    refine q _ _ _ l y ?_
    unfold RW
    refine ⟨p, vs, rfl, ?_, RWs.mono l _ _ r⟩
    rcases hd with ⟨kvs, e, d⟩ | ⟨kvs, e, d⟩
    · rw [upd_same] at e; cases e
      exact .inl ⟨kvs, z, d⟩
    · rw [upd_same] at e; cases e
      exact .inr ⟨kvs, z, d⟩
end
end Pk
end

/-! PkC -/
section
set_option Elab.async false
set_option linter.all false
set_option maxRecDepth 100000
namespace Pk
open PySem PySem.Spec L2

/-! ### the combinators -/
def eVar (i : Nat) : Ex := fun sl h => match sl[i]? with
  | some (some w) => .ok w h
  | _ => .no
def eC (w : W) : Ex := fun _ h => .ok w h
def eBin (m : W → W → HS → R W) (fa fb : Ex) : Ex := fun sl h => (fa sl h).bind fun x h1 => (fb sl h1).bind fun y h2 => m x y h2
def eUn (m : W → HS → R W) (fa : Ex) : Ex := fun sl h => (fa sl h).bind fun x h1 => m x h1
def asB (w : W) (h : HS) : R Bool := match w with
  | .bl b => .ok b h
  | _ => .no
def tVal (f : Ex) : Tx := fun sl h => (f sl h).bind asB
def eChain (m m' : W → W → HS → R W) (fa fb fc : Ex) : Ex := fun sl h => (fa sl h).bind fun x h1 => (fb sl h1).bind fun y h2 => (m x y h2).bind fun z h3 => (asB z h3).bind fun k h3 =>
  if k then (fc sl h3).bind fun w h4 => m' y w h4 else .ok (.bl false) h3
def tAndx (a b : Tx) : Tx := fun sl h => (a sl h).bind fun k h1 => if k then b sl h1 else .ok false h1
def tOrx (a b : Tx) : Tx := fun sl h => (a sl h).bind fun k h1 => if k then .ok true h1 else b sl h1
def tNotx (a : Tx) : Tx := fun sl h => (a sl h).bind fun k h1 => .ok (!k) h1
def eAnd (a b : Ex) : Ex := fun sl h => (a sl h).bind fun x h1 => (asB x h1).bind fun k h1 => if k then b sl h1 else .ok (.bl false) h1
def eOr (a b : Ex) : Ex := fun sl h => (a sl h).bind fun x h1 => (asB x h1).bind fun k h1 => if k then .ok (.bl true) h1 else b sl h1
def eNot (a : Ex) : Ex := fun sl h => (a sl h).bind fun x h1 => (asB x h1).bind fun k h1 => .ok (.bl (!k)) h1
def eIf (t : Tx) (a b : Ex) : Ex := fun sl h => (t sl h).bind fun k h1 => if k then a sl h1 else b sl h1
def aNil : Ax := fun _ h => .ok [] h
def aCons (f : Ex) (r : Ax) : Ax := fun sl h => (f sl h).bind fun x h1 => (r sl h1).bind fun xs h2 => .ok (x :: xs) h2
def eTup (a : Ax) : Ex := fun sl h => (a sl h).bind fun xs h1 => if xs.length ≤ sizeLine then .ok (.tup xs) h1 else .no
def eLst (bx : Bool) (a : Ax) : Ex := fun sl h => (a sl h).bind fun xs h1 => if xs.length ≤ sizeLine then mkL bx xs h1 else .no

/-- what an operation on two values is -/
def OpS (Γ : Γ) (Wx : WX) (X : Cx) (f : Value → Value → Sem Value) (m : W → W → HS → R W) : Prop :=
  ∃ r : R2, OpR X f r ∧ ∀ {g : G} {h : HS} {H : Hp} {σ : L2.St} {x y : W} {vx vy : V} {Q : VK}, RH Γ g h H → RW Γ.K g x vx → RW Γ.K g y vy → Rz Γ Wx (RW Γ.K) g (m x y h) σ Q → r vx vy H Q
def UnS (Γ : Γ) (Wx : WX) (X : Cx) (f : Value → Sem Value) (m : W → HS → R W) : Prop :=
  ∃ r : V → Hp → VK → Prop, UnR X f r ∧ ∀ {g : G} {h : HS} {H : Hp} {σ : L2.St} {x : W} {vx : V} {Q : VK}, RH Γ g h H → RW Γ.K g x vx → Rz Γ Wx (RW Γ.K) g (m x h) σ Q → r vx H Q

section
variable {Γ : Γ} {Wx : WX} {X : Cx} {a b c : Expr} {fa fb fc : Ex} {pos : Pos} {m m' : W → W → HS → R W}
theorem e_var {x : Str} (i : Nat) (hN : X.N[i]? = some x := by rfl) (hv : Vis X.env.scope x := by first | exact Or.inl rfl | exact Or.inr (Or.inl rfl) | exact Or.inr (Or.inr rfl)) (hd : (x == ("__debug__" : Str)) = false := by decide)
    (hcd : (x == ("__classdict__" : Str)) = false := by decide) : PE X (.Name x pos) (RDE Γ Wx (eVar i)) := by
  refine PE.imp (pe_var (i := i) hN hv hd hcd) fun σ H Q ⟨g, sl, h, hH, hS, q⟩ => ?_
  unfold eVar at q
  cases e : sl[i]? with
  | none => simp only [e] at q; exact q.elim
  | some o =>
    cases o with
    | none => simp only [e] at q; exact q.elim
    | some w =>
      simp only [e] at q
      obtain ⟨v, e1, r⟩ := hS i w e
      exact ⟨v, e1, q g v H (.refl g) hH r⟩
theorem e_c {e : Expr} {v : V} {w : W} (p : PE X e (tC v)) (r : ∀ g, RW Γ.K g w v) : PE X e (RDE Γ Wx (eC w)) :=
  PE.imp p fun σ H Q ⟨g, sl, h, hH, hS, q⟩ => q g v H (.refl g) hH (r g)
theorem e_int {i : Int} {j} : PE X (.Constant (.int i) j pos) (RDE Γ Wx (eC (.int i))) := e_c pe_int fun g => by unfold RW; rfl
theorem e_bl {i : Bool} {j} : PE X (.Constant (.bool i) j pos) (RDE Γ Wx (eC (.bl i))) := e_c pe_bl fun g => by unfold RW; rfl
theorem e_non {j} : PE X (.Constant .none j pos) (RDE Γ Wx (eC .non)) := e_c pe_non fun g => by unfold RW; rfl
theorem e_str {x : Str} {j} : PE X (.Constant (.str x) j pos) (RDE Γ Wx (eC (.str x))) := e_c pe_str fun g => by unfold RW; rfl

theorem bin_rd {r : R2} {f : Value → Value → Sem Value} (hm : ∀ {g : G} {h : HS} {H : Hp} {σ : L2.St} {x y : W} {vx vy : V} {Q : VK}, RH Γ g h H → RW Γ.K g x vx → RW Γ.K g y vy → Rz Γ Wx (RW Γ.K) g (m x y h) σ Q → r vx vy H Q) {σ : L2.St} {H : Hp} {Q : VK}
    (x : RDE Γ Wx (eBin m fa fb) σ H Q) : tOp r (RDE Γ Wx fa) (RDE Γ Wx fb) σ H Q := by
  obtain ⟨g, sl, h, hH, hS, q⟩ := x
  refine RDE.mono (fun v H1 ⟨g1, h1, w1, l1, hH1, r1, q1⟩ => ?_) (RDE.step hH hS q)
  refine RDE.mono (fun v2 H2 ⟨g2, h2, w2, l2, hH2, r2, q2⟩ => ?_) (RDE.step hH1 (SLk.mono l1 hS) q1)
  exact hm hH2 (RW.mono l2 _ _ r1) r2 q2
theorem e_bin {op : Operator} (o : OpS Γ Wx X (binaryOp op) m) (ha : PE X a (RDE Γ Wx fa)) (hb : PE X b (RDE Γ Wx fb)) : PE X (.BinOp a op b pos) (RDE Γ Wx (eBin m fa fb)) := by
  obtain ⟨r, o1, o2⟩ := o
  exact PE.imp (pe_op o1 ha hb) fun σ H Q x => bin_rd (f := binaryOp op) o2 x
theorem e_cmp {op : CmpOp} (o : OpS Γ Wx X (compareOp op) m) (ha : PE X a (RDE Γ Wx fa)) (hb : PE X b (RDE Γ Wx fb)) (hm : behindInMarks op b = false := by first | exact nomark _ (by decide) (by decide) | rfl | with_unfolding_all rfl) : PE X (.Compare a [op] [b] pos) (RDE Γ Wx (eBin m fa fb)) := by
  obtain ⟨r, o1, o2⟩ := o
  exact PE.imp (pe_cmpR o1 ha hb hm) fun σ H Q x => bin_rd (f := compareOp op) o2 x
theorem rz_asB {g : G} {h : HS} {H : Hp} {σ : L2.St} {w : W} {v : V} {Q : Bool → Hp → Prop} (hH : RH Γ g h H) (r : RW Γ.K g w v) (q : Rz Γ Wx (fun _ (a b : Bool) => a = b) g (asB w h) σ Q) : ∃ k, v = .bl k ∧ Q k H := by
  cases w with
  | bl k => unfold RW at r; exact ⟨k, r, q g k H (.refl g) hH rfl⟩
  | _ => exact q.elim
theorem t_val {e : Expr} {f : Ex} (p : PE X e (RDE Γ Wx f)) (he : ∀ whole, isTrue e X.env whole = (do let v ← whole; standAt e.pos; holding [v] (truthy v)) := by intro _; rfl) : PT X e (RDT Γ Wx (tVal f)) := by
  refine PT.imp (pt_val p he) fun σ H Q ⟨g, sl, h, hH, hS, q⟩ => ?_
  refine RDE.mono (fun v H1 ⟨g1, h1, w1, l1, hH1, r1, q1⟩ => ?_) (RDE.step hH hS q)
  exact rz_asB hH1 r1 q1
theorem t_cmp {op : CmpOp} (o : OpS Γ Wx X (compareOp op) m) (ha : PE X a (RDE Γ Wx fa)) (hb : PE X b (RDE Γ Wx fb)) (hm : behindInMarks op b = false := by first | exact nomark _ (by decide) (by decide) | rfl | with_unfolding_all rfl) : PT X (.Compare a [op] [b] pos) (RDT Γ Wx (tVal (eBin m fa fb))) := by
  obtain ⟨r, o1, o2⟩ := o
  refine PT.imp (pt_cmpR o1 ha hb hm) fun σ H Q ⟨g, sl, h, hH, hS, q⟩ => ?_
  refine bin_rd (f := compareOp op) o2 ⟨g, sl, h, hH, hS, ?_⟩
  refine Rz.mono (fun v H1 ⟨g1, h1, w1, l1, hH1, r1, q1⟩ => ?_) (rz_step q)
  exact rz_asB hH1 r1 q1
theorem chain_rd {r r' : R2} (hm : ∀ {g : G} {h : HS} {H : Hp} {σ : L2.St} {x y : W} {vx vy : V} {Q : VK}, RH Γ g h H → RW Γ.K g x vx → RW Γ.K g y vy → Rz Γ Wx (RW Γ.K) g (m x y h) σ Q → r vx vy H Q)
    (hm' : ∀ {g : G} {h : HS} {H : Hp} {σ : L2.St} {x y : W} {vx vy : V} {Q : VK}, RH Γ g h H → RW Γ.K g x vx → RW Γ.K g y vy → Rz Γ Wx (RW Γ.K) g (m' x y h) σ Q → r' vx vy H Q) {σ : L2.St} {H : Hp} {Q : VK}
    (x : RDE Γ Wx (eChain m m' fa fb fc) σ H Q) : tChain r r' (RDE Γ Wx fa) (RDE Γ Wx fb) (RDE Γ Wx fc) σ H Q := by
  obtain ⟨g, sl, h, hH, hS, q⟩ := x
  refine RDE.mono (fun v H1 ⟨g1, h1, w1, l1, hH1, r1, q1⟩ => ?_) (RDE.step hH hS q)
  refine RDE.mono (fun v2 H2 ⟨g2, h2, w2, l2, hH2, r2, q2⟩ => ?_) (RDE.step hH1 (SLk.mono l1 hS) q1)
  refine hm hH2 (RW.mono l2 _ _ r1) r2 (Rz.mono (fun v3 H3 ⟨g3, h3, w3, l3, hH3, r3, q3⟩ => ?_) (rz_step q2))
  cases w3 with
  | bl k =>
    unfold RW at r3
    refine ⟨k, r3, ?_⟩
    have q3' : Rz Γ Wx (RW Γ.K) g3 (if k = true then (fc sl h3).bind fun w h4 => m' w2 w h4 else .ok (.bl false) h3) σ Q := q3
    by_cases hk : k = true
    · rw [if_pos hk] at q3' ⊢
      refine RDE.mono (fun v4 H4 ⟨g4, h4, w4, l4, hH4, r4, q4⟩ => ?_) (RDE.step hH3 (SLk.mono (l1.trans (l2.trans l3)) hS) q3')
      exact hm' hH4 (RW.mono (l3.trans l4) _ _ r2) r4 q4
    · rw [if_neg hk] at q3' ⊢
      exact q3' g3 _ _ (.refl _) hH3 (by unfold RW; rfl)
  | _ => exact q3.elim
theorem e_chain {op op' : CmpOp} (o : OpS Γ Wx X (compareOp op) m) (o' : OpS Γ Wx X (compareOp op') m') (ha : PE X a (RDE Γ Wx fa)) (hb : PE X b (RDE Γ Wx fb)) (hc : PE X c (RDE Γ Wx fc))
    (hm : lastMarks [op, op'] [b, c] = false := by with_unfolding_all rfl) : PE X (.Compare a [op, op'] [b, c] pos) (RDE Γ Wx (eChain m m' fa fb fc)) := by
  obtain ⟨r, o1, o2⟩ := o
  obtain ⟨r', o1', o2'⟩ := o'
  exact PE.imp (pe_chain o1 o1' ha hb hc hm) fun σ H Q x => chain_rd o2 o2' x
theorem t_chain {op op' : CmpOp} (o : OpS Γ Wx X (compareOp op) m) (o' : OpS Γ Wx X (compareOp op') m') (ha : PE X a (RDE Γ Wx fa)) (hb : PE X b (RDE Γ Wx fb)) (hc : PE X c (RDE Γ Wx fc))
    (hm : lastMarks [op, op'] [b, c] = false := by with_unfolding_all rfl) : PT X (.Compare a [op, op'] [b, c] pos) (RDT Γ Wx (tVal (eChain m m' fa fb fc))) := by
  obtain ⟨r, o1, o2⟩ := o
  obtain ⟨r', o1', o2'⟩ := o'
  refine PT.imp (pt_chain o1 o1' ha hb hc hm) fun σ H Q ⟨g, sl, h, hH, hS, q⟩ => ?_
  refine chain_rd o2 o2' ⟨g, sl, h, hH, hS, ?_⟩
  refine Rz.mono (fun v H1 ⟨g1, h1, w1, l1, hH1, r1, q1⟩ => ?_) (rz_step q)
  exact rz_asB hH1 r1 q1

/-! tests -/
variable {ta tb : Tx} {rest : List Expr}
theorem t_and1 (ha : PT X a (RDT Γ Wx ta)) : PW X (.BoolOp .And [a] pos) (RDT Γ Wx ta) := pw_and1 ha
theorem t_or1 (ha : PT X a (RDT Γ Wx ta)) : PW X (.BoolOp .Or [a] pos) (RDT Γ Wx ta) := pw_or1 ha
theorem t_andC (ha : PT X a (RDT Γ Wx ta)) (hb : PW X (.BoolOp .And (b :: rest) pos) (RDT Γ Wx tb)) : PW X (.BoolOp .And (a :: b :: rest) pos) (RDT Γ Wx (tAndx ta tb)) := by
  refine ⟨fun whole pins s σ H Q I x => (pw_and ha hb).run whole pins s σ H Q I ?_⟩
  obtain ⟨g, sl, h, hH, hS, q⟩ := x
  refine RDT.mono (fun v H1 ⟨g1, h1, w1, l1, hH1, r1, q1⟩ => ?_) (RDT.step hH hS q)
  subst r1
  by_cases hk : w1 = true
  · rw [if_pos hk] at q1 ⊢
    exact ⟨g1, sl, h1, hH1, SLk.mono l1 hS, q1⟩
  · rw [if_neg hk] at q1 ⊢
    exact q1 g1 _ _ (.refl _) hH1 rfl
theorem t_orC (ha : PT X a (RDT Γ Wx ta)) (hb : PW X (.BoolOp .Or (b :: rest) pos) (RDT Γ Wx tb)) : PW X (.BoolOp .Or (a :: b :: rest) pos) (RDT Γ Wx (tOrx ta tb)) := by
  refine ⟨fun whole pins s σ H Q I x => (pw_or ha hb).run whole pins s σ H Q I ?_⟩
  obtain ⟨g, sl, h, hH, hS, q⟩ := x
  refine RDT.mono (fun v H1 ⟨g1, h1, w1, l1, hH1, r1, q1⟩ => ?_) (RDT.step hH hS q)
  subst r1
  by_cases hk : w1 = true
  · rw [if_pos hk] at q1 ⊢
    exact q1 g1 _ _ (.refl _) hH1 rfl
  · rw [if_neg hk] at q1 ⊢
    exact ⟨g1, sl, h1, hH1, SLk.mono l1 hS, q1⟩
theorem t_not (ha : PT X a (RDT Γ Wx ta)) : PT X (.UnaryOp .Not a pos) (RDT Γ Wx (tNotx ta)) := by
  refine PT.imp (pt_not ha) fun σ H Q ⟨g, sl, h, hH, hS, q⟩ => ?_
  refine RDT.mono (fun v H1 ⟨g1, h1, w1, l1, hH1, r1, q1⟩ => ?_) (RDT.step hH hS q)
  subst r1
  exact q1 g1 _ _ (.refl _) hH1 rfl
theorem e_one {op} (ha : PE X a (RDE Γ Wx fa)) : PE X (.BoolOp op [a] pos) (RDE Γ Wx fa) := pe_one ha
theorem e_and (ha : PE X a (RDE Γ Wx fa)) (hb : PE X (.BoolOp .And (b :: rest) pos) (RDE Γ Wx fb)) : PE X (.BoolOp .And (a :: b :: rest) pos) (RDE Γ Wx (eAnd fa fb)) := by
  refine PE.imp (pe_and ha hb) fun σ H Q ⟨g, sl, h, hH, hS, q⟩ => ?_
  refine RDE.mono (fun v H1 ⟨g1, h1, w1, l1, hH1, r1, q1⟩ => ?_) (RDE.step hH hS q)
  cases w1 with
  | bl k =>
    unfold RW at r1
    refine ⟨k, r1, ?_⟩
    have q1' : Rz Γ Wx (RW Γ.K) g1 (if k = true then fb sl h1 else .ok (.bl false) h1) σ Q := q1
    by_cases hk : k = true
    · rw [if_pos hk] at q1' ⊢
      exact ⟨g1, sl, h1, hH1, SLk.mono l1 hS, q1'⟩
    · rw [if_neg hk] at q1' ⊢
      exact q1' g1 _ _ (.refl _) hH1 (by unfold RW; rfl)
  | _ => exact q1.elim
theorem e_or (ha : PE X a (RDE Γ Wx fa)) (hb : PE X (.BoolOp .Or (b :: rest) pos) (RDE Γ Wx fb)) : PE X (.BoolOp .Or (a :: b :: rest) pos) (RDE Γ Wx (eOr fa fb)) := by
  refine PE.imp (pe_or ha hb) fun σ H Q ⟨g, sl, h, hH, hS, q⟩ => ?_
  refine RDE.mono (fun v H1 ⟨g1, h1, w1, l1, hH1, r1, q1⟩ => ?_) (RDE.step hH hS q)
  cases w1 with
  | bl k =>
    unfold RW at r1
    refine ⟨k, r1, ?_⟩
    have q1' : Rz Γ Wx (RW Γ.K) g1 (if k = true then .ok (.bl true) h1 else fb sl h1) σ Q := q1
    by_cases hk : k = true
    · rw [if_pos hk] at q1' ⊢
      exact q1' g1 _ _ (.refl _) hH1 (by unfold RW; rfl)
    · rw [if_neg hk] at q1' ⊢
      exact ⟨g1, sl, h1, hH1, SLk.mono l1 hS, q1'⟩
  | _ => exact q1.elim
theorem e_not (ha : PE X a (RDE Γ Wx fa)) : PE X (.UnaryOp .Not a pos) (RDE Γ Wx (eNot fa)) := by
  refine PE.imp (pe_not ha) fun σ H Q ⟨g, sl, h, hH, hS, q⟩ => ?_
  refine RDE.mono (fun v H1 ⟨g1, h1, w1, l1, hH1, r1, q1⟩ => ?_) (RDE.step hH hS q)
  cases w1 with
  | bl k =>
    unfold RW at r1
    exact ⟨k, r1, q1 g1 _ _ (.refl _) hH1 (by unfold RW; rfl)⟩
  | _ => exact q1.elim
theorem e_if (hc : PT X c (RDT Γ Wx ta)) (ha : PE X a (RDE Γ Wx fa)) (hb : PE X b (RDE Γ Wx fb)) : PE X (.IfExp c a b pos) (RDE Γ Wx (eIf ta fa fb)) := by
  refine PE.imp (pe_ifExp hc ha hb) fun σ H Q ⟨g, sl, h, hH, hS, q⟩ => ?_
  refine RDT.mono (fun v H1 ⟨g1, h1, w1, l1, hH1, r1, q1⟩ => ?_) (RDT.step hH hS q)
  subst r1
  by_cases hk : w1 = true
  · rw [if_pos hk] at q1 ⊢
    exact ⟨g1, sl, h1, hH1, SLk.mono l1 hS, q1⟩
  · rw [if_neg hk] at q1 ⊢
    exact ⟨g1, sl, h1, hH1, SLk.mono l1 hS, q1⟩
theorem e_un {op : UnaryOp} {mu : W → HS → R W} (o : UnS Γ Wx X (unaryOp op) mu) (ha : PE X a (RDE Γ Wx fa)) : PE X (.UnaryOp op a pos) (RDE Γ Wx (eUn mu fa)) := by
  obtain ⟨r, o1, o2⟩ := o
  refine PE.imp (pe_un o1 ha) fun σ H Q ⟨g, sl, h, hH, hS, q⟩ => ?_
  refine RDE.mono (fun v H1 ⟨g1, h1, w1, l1, hH1, r1, q1⟩ => ?_) (RDE.step hH hS q)
  exact o2 hH1 r1 q1

/-! arguments, displays -/
variable {es : List Expr} {fr : Ax}
theorem a_nil : PA X [] (RDA Γ Wx aNil) := PA.imp pa_nil fun σ H Q ⟨g, sl, h, hH, hS, q⟩ => q g _ _ (.refl _) hH .nil
theorem a_cons (ha : PE X a (RDE Γ Wx fa)) (hr : PA X es (RDA Γ Wx fr)) (hs : starEach (a :: es) X.env = (false, eval a X.env) :: starEach es X.env := by rfl) : PA X (a :: es) (RDA Γ Wx (aCons fa fr)) := by
  refine PA.imp (pa_cons ha hr hs) fun σ H Q ⟨g, sl, h, hH, hS, q⟩ => ?_
  refine RDE.mono (fun v H1 ⟨g1, h1, w1, l1, hH1, r1, q1⟩ => ?_) (RDE.step hH hS q)
  refine RDA.mono (fun v2 H2 ⟨g2, h2, w2, l2, hH2, r2, q2⟩ => ?_) (RDA.step hH1 (SLk.mono l1 hS) q1)
  exact q2 g2 _ _ (.refl _) hH2 (.cons (RW.mono l2 _ _ r1) r2)
theorem e_tup {x1} (ha : PA X es (RDA Γ Wx fr)) : PE X (.Tuple es x1 pos) (RDE Γ Wx (eTup fr)) := by
  refine PE.imp (pe_tup ha) fun σ H Q ⟨g, sl, h, hH, hS, q⟩ => ?_
  refine RDA.mono (fun v H1 ⟨g1, h1, w1, l1, hH1, r1, q1⟩ => ?_) (RDA.step hH hS q)
  by_cases hl : w1.length ≤ sizeLine
  · rw [if_pos hl] at q1
    exact ⟨by rw [← r1.len]; exact hl, fun p hp => mkT_ok hH1 hp r1 q1⟩
  · rw [if_neg hl] at q1
    exact q1.elim
theorem e_lst (bx : Bool) (ha : PA X es (RDA Γ Wx fr)) : PE X (.List es pos) (RDE Γ Wx (eLst bx fr)) := by
  refine PE.imp (pe_lst ha) fun σ H Q ⟨g, sl, h, hH, hS, q⟩ => ?_
  refine RDA.mono (fun v H1 ⟨g1, h1, w1, l1, hH1, r1, q1⟩ => ?_) (RDA.step hH hS q)
  by_cases hl : w1.length ≤ sizeLine
  · rw [if_pos hl] at q1
    exact ⟨by rw [← r1.len]; exact hl, fun p hp => mkL_ok hH1 hp r1 q1⟩
  · rw [if_neg hl] at q1
    exact q1.elim
end
end Pk
end

/-! PkD -/
section
set_option Elab.async false
set_option linter.all false
set_option maxRecDepth 100000
namespace Pk
open PySem PySem.Spec L2

/-! ### arithmetic -/
def catL (bx : Bool) (x y : W) (h : HS) : R W := match lview h x, lview h y with
  | some a, some b => if a.length + b.length ≤ sizeLine then mkL bx (a ++ b) h else .no
  | _, _ => .no
def wAdd (bx : Bool) (x y : W) (h : HS) : R W := match x, y with
  | .int a, .int b => .ok (.int (a + b)) h
  | .str a, .str b => if a.length + b.length ≤ sizeLine then .ok (.str (a ++ b)) h else .no
  | .tup a, .tup b => if a.length + b.length ≤ sizeLine then .ok (.tup (a ++ b)) h else .no
  | x, y => catL bx x y h
def wSub (x y : W) (h : HS) : R W := match x, y with
  | .int a, .int b => .ok (.int (a - b)) h
  | _, _ => .no
def wMul (bx : Bool) (x y : W) (h : HS) : R W := match x, y with
  | .int a, .int b => if (-(2 ^ 64) < a ∧ a < 2 ^ 64) ∨ (-(2 ^ 64) < b ∧ b < 2 ^ 64) then .ok (.int (a * b)) h else .no
  | .tup a, .int k => if a ≠ [] ∧ 2 ≤ k ∧ k ≤ 1000 ∧ a.length ≤ 1000 then .ok (.tup (List.replicate k.toNat a).flatten) h else .no
  | x, .int k => match lview h x with
    | some a => if -(2 ^ 63) ≤ k ∧ k < 2 ^ 63 ∧ a.length * k.toNat ≤ sizeLine then mkL bx (List.replicate k.toNat a).flatten h else .no
    | none => .no
  | _, _ => .no
def wDiv (x y : W) (h : HS) : R W := match x, y with
  | .int a, .int b => if 0 < b ∧ b < 1073741824 then .ok (.int (a / b)) h else .no
  | _, _ => .no
def wMod (x y : W) (h : HS) : R W := match x, y with
  | .int a, .int b => if 0 < b then .ok (.int (a % b)) h else .no
  | _, _ => .no
def wPow (x y : W) (h : HS) : R W := match x, y with
  | .int a, .int b => if 0 ≤ b ∧ b ≤ 1000000 ∧ a.natAbs < 2 ^ 64 then .ok (.int (a ^ b.toNat)) h else .no
  | _, _ => .no
def wNeg (x : W) (h : HS) : R W := match x with
  | .int a => .ok (.int (-a)) h
  | _ => .no

instance instDecNe (a : List W) : Decidable (a ≠ []) := match a with
  | [] => .isFalse fun h => h rfl
  | _ :: _ => .isTrue fun h => by cases h

section
variable {Γ : Γ} {Wx : WX} {X : Cx}
theorem rint {K : PySem.W.Frag} {g : G} {a : Int} {v : V} (r : RW K g (.int a) v) : v = .int a := by unfold RW at r; exact r
theorem rbl {K : PySem.W.Frag} {g : G} {a : Bool} {v : V} (r : RW K g (.bl a) v) : v = .bl a := by unfold RW at r; exact r
theorem rstr {K : PySem.W.Frag} {g : G} {a : Str} {v : V} (r : RW K g (.str a) v) : v = .str a := by unfold RW at r; exact r
theorem rnon {K : PySem.W.Frag} {g : G} {v : V} (r : RW K g .non v) : v = .non := by unfold RW at r; exact r
theorem mint {K : PySem.W.Frag} {g : G} (a : Int) : RW K g (.int a) (.int a) := by unfold RW; rfl
theorem mbl {K : PySem.W.Frag} {g : G} (a : Bool) : RW K g (.bl a) (.bl a) := by unfold RW; rfl
theorem mstr {K : PySem.W.Frag} {g : G} (a : Str) : RW K g (.str a) (.str a) := by unfold RW; rfl
theorem mnon {K : PySem.W.Frag} {g : G} : RW K g .non .non := by unfold RW; rfl
/-- the end is there at once -/
theorem rz_now {g : G} {h : HS} {H : Hp} {σ : L2.St} {w : W} {v : V} {Q : VK} (q : Rz Γ Wx (RW Γ.K) g (.ok w h) σ Q) (hH : RH Γ g h H) (r : RW Γ.K g w v) : Q v H := q g v H (.refl g) hH r

theorem o_add (bx : Bool) (hK : X.K = Γ.K) : OpS Γ Wx X (binaryOp .Add) (wAdd bx) := by
  refine ⟨_, op_add.or (op_add_str.or (op_catA.or op_cat)), fun {g h H σ x y vx vy Q} hH rx ry q => ?_⟩
  unfold wAdd at q
  split at q
  · cases rint rx; cases rint ry
    exact .inl ⟨_, _, rfl, rfl, rz_now q hH (mint _)⟩
  · cases rstr rx; cases rstr ry
    split at q
    · rename_i hl
      exact .inr (.inl ⟨_, _, rfl, rfl, hl, rz_now q hH (mstr _)⟩)
    · exact q.elim
  · rename_i a b
    split at q
    · rename_i hl
      obtain ⟨p1, vs1, e1, s1, rs1⟩ := tup_ok hH rx
      obtain ⟨p2, vs2, e2, s2, rs2⟩ := tup_ok hH ry
      rw [← hK] at s1 s2
      have l1 := rs1.len
      have l2 := rs2.len
      refine .inr (.inr (.inl ⟨p1, p2, vs1, vs2, e1, e2, s1, s2, by omega, fun z => ?_, fun _ z => ?_, fun _ _ p hp => ?_⟩))
      · subst z
        have ea : a = [] := List.length_eq_zero_iff.mp (by simpa using l1)
        subst ea
        rw [← e2]
        exact rz_now q hH ry
      · subst z
        have eb : b = [] := List.length_eq_zero_iff.mp (by simpa using l2)
        subst eb
        rw [List.append_nil] at q
        rw [← e1]
        exact rz_now q hH rx
      · exact mkT_ok hH hp (rs1.app rs2) q
    · exact q.elim
  · unfold catL at q
    split at q
    · rename_i a b ea eb
      split at q
      · rename_i hl
        obtain ⟨p1, vs1, e1, s1, rs1⟩ := lview_ok hH rx ea
        obtain ⟨p2, vs2, e2, s2, rs2⟩ := lview_ok hH ry eb
        exact .inr (.inr (.inr ⟨p1, p2, vs1, vs2, e1, e2, s1, s2, by rw [← rs1.len, ← rs2.len]; exact hl, fun p hp => mkL_ok hH hp (rs1.app rs2) q⟩))
      · exact q.elim
    · exact q.elim
theorem o_sub : OpS Γ Wx X (binaryOp .Sub) wSub := by
  refine ⟨_, op_sub, fun {g h H σ x y vx vy Q} hH rx ry q => ?_⟩
  unfold wSub at q
  split at q
  · cases rint rx; cases rint ry
    exact ⟨_, _, rfl, rfl, rz_now q hH (mint _)⟩
  · exact q.elim
theorem rws_rep {K : PySem.W.Frag} {g : G} {ws : List W} {vs : List V} (r : RWs K g ws vs) : ∀ n : Nat, RWs K g (List.replicate n ws).flatten (List.replicate n vs).flatten
  | 0 => .nil
  | n + 1 => by
    rw [List.replicate_succ, List.replicate_succ, List.flatten_cons, List.flatten_cons]
    exact r.app (rws_rep r n)
theorem o_mul (bx : Bool) (hK : X.K = Γ.K) : OpS Γ Wx X (binaryOp .Mult) (wMul bx) := by
  refine ⟨_, op_mul.or (op_repT.or op_rep), fun {g h H σ x y vx vy Q} hH rx ry q => ?_⟩
  unfold wMul at q
  split at q
  · cases rint rx; cases rint ry
    split at q
    · rename_i hc
      exact .inl ⟨_, _, rfl, rfl, hc, rz_now q hH (mint _)⟩
    · exact q.elim
  · cases rint ry
    rename_i a k
    split at q
    · rename_i hc
      obtain ⟨h1, h2, h3, h4⟩ := hc
      obtain ⟨p1, vs1, e1, s1, rs1⟩ := tup_ok hH rx
      rw [← hK] at s1
      refine .inr (.inl ⟨p1, k, vs1, e1, rfl, s1, fun z => h1 ?_, h2, h3, by rw [← rs1.len]; exact h4, fun p hp => mkT_ok hH hp (rws_rep rs1 _) q⟩)
      subst z
      exact List.length_eq_zero_iff.mp (by simpa using rs1.len)
    · exact q.elim
  · cases rint ry
    rename_i k _ _
    split at q
    · rename_i a ea
      split at q
      · rename_i hc
        obtain ⟨h1, h2, h3⟩ := hc
        obtain ⟨p1, vs1, e1, s1, rs1⟩ := lview_ok hH rx ea
        exact .inr (.inr ⟨p1, k, vs1, e1, rfl, s1, h1, h2, by rw [← rs1.len]; exact h3, fun p hp => mkL_ok hH hp (rws_rep rs1 _) q⟩)
      · exact q.elim
    · exact q.elim
  · exact q.elim
theorem o_div : OpS Γ Wx X (binaryOp .FloorDiv) wDiv := by
  refine ⟨_, op_fdiv, fun {g h H σ x y vx vy Q} hH rx ry q => ?_⟩
  unfold wDiv at q
  split at q
  · cases rint rx; cases rint ry
    split at q
    · rename_i hc
      exact ⟨_, _, rfl, rfl, hc, rz_now q hH (mint _)⟩
    · exact q.elim
  · exact q.elim
theorem o_mod : OpS Γ Wx X (binaryOp .Mod) wMod := by
  refine ⟨_, op_mod, fun {g h H σ x y vx vy Q} hH rx ry q => ?_⟩
  unfold wMod at q
  split at q
  · cases rint rx; cases rint ry
    split at q
    · rename_i hc
      exact ⟨_, _, rfl, rfl, hc, rz_now q hH (mint _)⟩
    · exact q.elim
  · exact q.elim
theorem o_pow : OpS Γ Wx X (binaryOp .Pow) wPow := by
  refine ⟨_, op_pow, fun {g h H σ x y vx vy Q} hH rx ry q => ?_⟩
  unfold wPow at q
  split at q
  · cases rint rx; cases rint ry
    split at q
    · rename_i hc
      exact ⟨_, _, rfl, rfl, hc, rz_now q hH (mint _)⟩
    · exact q.elim
  · exact q.elim
theorem u_neg : UnS Γ Wx X (unaryOp .USub) wNeg := by
  refine ⟨_, un_neg, fun {g h H σ x vx Q} hH rx q => ?_⟩
  unfold wNeg at q
  split at q
  · cases rint rx
    exact ⟨_, rfl, rz_now q hH (mint _)⟩
  · exact q.elim
end

/-! ### order -/
def wLt (x y : W) (h : HS) : R W := match x, y with
  | .int a, .int b => .ok (.bl (decide (a < b))) h
  | _, _ => .no
def wLe (x y : W) (h : HS) : R W := match x, y with
  | .int a, .int b => .ok (.bl (decide (a ≤ b))) h
  | _, _ => .no
def wGt (x y : W) (h : HS) : R W := match x, y with
  | .int a, .int b => .ok (.bl (decide (b < a))) h
  | _, _ => .no
def wGe (x y : W) (h : HS) : R W := match x, y with
  | .int a, .int b => .ok (.bl (decide (b ≤ a))) h
  | _, _ => .no
def isNon : W → Bool
  | .non => true
  | _ => false
def wIs (x y : W) (h : HS) : R W := if isNon y then .ok (.bl (isNon x)) h else .no
def wIsN (x y : W) (h : HS) : R W := if isNon y then .ok (.bl (!isNon x)) h else .no
section
variable {Γ : Γ} {Wx : WX} {X : Cx}
theorem o_lt : OpS Γ Wx X (compareOp .Lt) wLt := by
  refine ⟨_, op_lt, fun {g h H σ x y vx vy Q} hH rx ry q => ?_⟩
  unfold wLt at q
  split at q
  · cases rint rx; cases rint ry
    exact ⟨_, _, rfl, rfl, rz_now q hH (mbl _)⟩
  · exact q.elim
theorem o_le : OpS Γ Wx X (compareOp .LtE) wLe := by
  refine ⟨_, op_le, fun {g h H σ x y vx vy Q} hH rx ry q => ?_⟩
  unfold wLe at q
  split at q
  · cases rint rx; cases rint ry
    exact ⟨_, _, rfl, rfl, rz_now q hH (mbl _)⟩
  · exact q.elim
theorem o_gt : OpS Γ Wx X (compareOp .Gt) wGt := by
  refine ⟨_, op_gt, fun {g h H σ x y vx vy Q} hH rx ry q => ?_⟩
  unfold wGt at q
  split at q
  · cases rint rx; cases rint ry
    exact ⟨_, _, rfl, rfl, rz_now q hH (mbl _)⟩
  · exact q.elim
theorem o_ge : OpS Γ Wx X (compareOp .GtE) wGe := by
  refine ⟨_, op_ge, fun {g h H σ x y vx vy Q} hH rx ry q => ?_⟩
  unfold wGe at q
  split at q
  · cases rint rx; cases rint ry
    exact ⟨_, _, rfl, rfl, rz_now q hH (mbl _)⟩
  · exact q.elim
theorem isNon_ok {K : PySem.W.Frag} {g : G} {x : W} {v : V} (r : RW K g x v) : isNon x = decide (v = V.non) := by
  cases x with
  | non => cases rnon r; rfl
  | bl _ => cases rbl r; rfl
  | int _ => cases rint r; rfl
  | str _ => cases rstr r; rfl
  | tup _ => unfold RW at r; obtain ⟨a, vs, rfl, _⟩ := r; rfl
  | lst _ => unfold RW at r; obtain ⟨a, vs, rfl, _⟩ := r; rfl
  | dic _ _ => unfold RW at r; obtain ⟨a, vs, rfl, _⟩ := r; rfl
  | box _ => unfold RW at r; obtain ⟨_, rfl⟩ := r; rfl
  | scr _ => unfold RW at r; obtain ⟨a, rfl, _⟩ := r; rfl
  | kt _ => unfold RW at r; obtain ⟨a, vs, rfl, _⟩ := r; rfl
  | tx _ => unfold RW at r; obtain ⟨a, rfl, _⟩ := r; rfl
theorem o_is : OpS Γ Wx X (compareOp .Is) wIs := by
  refine ⟨_, op_isN, fun {g h H σ x y vx vy Q} hH rx ry q => ?_⟩
  unfold wIs at q
  split at q
  · rename_i e
    rw [isNon_ok ry, decide_eq_true_eq] at e
    refine ⟨e, ?_⟩
    rw [← isNon_ok rx]
    exact rz_now q hH (mbl _)
  · exact q.elim
theorem o_isN : OpS Γ Wx X (compareOp .IsNot) wIsN := by
  refine ⟨_, op_notN, fun {g h H σ x y vx vy Q} hH rx ry q => ?_⟩
  unfold wIsN at q
  split at q
  · rename_i e
    rw [isNon_ok ry, decide_eq_true_eq] at e
    refine ⟨e, ?_⟩
    rw [← isNon_ok rx]
    exact rz_now q hH (mbl _)
  · exact q.elim
end

/-! ### == -/
def pdl (f : W → Option PyData) : List W → Option (List PyData)
  | [] => some []
  | w :: ws => match f w, pdl f ws with
    | some d, some ds => some (d :: ds)
    | _, _ => none
def pd (h : HS) : Nat → W → Option PyData
  | 0, _ => none
  | n + 1, w => match w with
    | .non => some .none
    | .bl b => some (.bool b)
    | .int i => some (.int i)
    | .str x => some (.str x)
    | .tup ws => (pdl (pd h n) ws).map .tuple
    | .kt ws => (pdl (pd h n) ws).map .tuple
    | w => match lview h w with
      | some ws => (pdl (pd h n) ws).map .list
      | none => none
def flV : W → Option V
  | .non => some .non
  | .bl b => some (.bl b)
  | .int i => some (.int i)
  | .str x => some (.str x)
  | _ => none
def dlook : List DK → List W → DK → Option W
  | k :: ks, w :: ws, j => if k = j then some w else dlook ks ws j
  | _, _, _ => none
def isK : DK → Bool
  | .k _ => true
  | .t _ => false
/-- two dicts are equal: the same keys, the same flat values -/
def dEqT (ks' : List DK) (ws' : List W) : List DK → List W → Bool
  | [], [] => true
  | k :: ks, w :: ws => isK k && (match flV w, dlook ks' ws' k with
    | some v, some w' => decide (flV w' = some v)
    | _, _ => false) && dEqT ks' ws' ks ws
  | _, _ => false
def weq (h : HS) (x y : W) : Option Bool := match x, y with
  | .int a, .int b => some (decide (a = b))
  | .str a, .str b => some (decide (a = b))
  | .bl a, .bl b => some (decide (a = b))
  | x, y => match dview h x, dview h y with
    | some (ks, ws), some (ks', ws') => if ks.length = ks'.length ∧ ks'.all isK = true ∧ dEqT ks' ws' ks ws = true then some true else none
    | _, _ => match pd h 9 x, pd h 9 y with
      | some d, some e => if SeqAt.shaped d = true ∧ SeqAt.shaped e = true then some (PyData.eqv d e) else none
      | _, _ => none
def wEq (x y : W) (h : HS) : R W := match weq h x y with
  | some b => .ok (.bl b) h
  | none => .no
def wNe (x y : W) (h : HS) : R W := match weq h x y with
  | some b => .ok (.bl (!b)) h
  | none => .no
section
variable {Γ : Γ} {Wx : WX} {X : Cx} {g : G} {h : HS} {H : Hp}
theorem pdl_ok {f : W → Option PyData} (hf : ∀ w v d, RW Γ.K g w v → f w = some d → Dp Γ.K H v d) : ∀ (ws : List W) (vs : List V) (ds : List PyData), RWs Γ.K g ws vs → pdl f ws = some ds → DpAll Γ.K H vs ds
  | [], _, _, r, e => by
    unfold RWs at r
    subst r
    cases e
    exact .nil
  | w :: ws, _, _, r, e => by
    unfold RWs at r
    obtain ⟨v, vr, rfl, r1, rs⟩ := r
    unfold pdl at e
    split at e
    · rename_i d ds e1 e2
      cases e
      exact .cons (hf w v d r1 e1) (pdl_ok hf ws vr ds rs e2)
    · cases e
theorem pd_ok (hH : RH Γ g h H) : ∀ (n : Nat) (w : W) (v : V) (d : PyData), RW Γ.K g w v → pd h n w = some d → Dp Γ.K H v d
  | 0, _, _, _, _, e => by cases e
  | n + 1, w, v, d, r, e => by
    have viaL : ∀ w', RW Γ.K g w' v → (match lview h w' with
      | some ws => (pdl (pd h n) ws).map PyData.list
      | none => none) = some d → Dp Γ.K H v d := fun w' r' e' => by
      split at e'
      · rename_i ws el
        obtain ⟨a, vs, rfl, s, rs⟩ := lview_ok hH r' el
        cases q : pdl (pd h n) ws with
        | none => rw [q] at e'; cases e'
        | some ds =>
          rw [q] at e'
          cases e'
          exact .lst (SqL.of s) (pdl_ok (pd_ok hH n) ws vs ds rs q)
      · cases e'
    cases w with
    | non => cases rnon r; cases e; exact .non
    | bl b => cases rbl r; cases e; exact .bl b
    | int i => cases rint r; cases e; exact .int i
    | str x => cases rstr r; cases e; exact .str x
    | tup ws =>
      obtain ⟨a, vs, rfl, s, rs⟩ := tup_ok hH r
      unfold pd at e
      simp only at e
      cases q : pdl (pd h n) ws with
      | none => rw [q] at e; cases e
      | some ds =>
        rw [q] at e
        cases e
        exact .tup s (pdl_ok (pd_ok hH n) ws vs ds rs q)
    | tx ys => exact viaL _ r e
    | kt ws =>
      obtain ⟨a, vs, rfl, s, rs⟩ := kt_ok hH r
      unfold pd at e
      simp only at e
      cases q : pdl (pd h n) ws with
      | none => rw [q] at e; cases e
      | some ds =>
        rw [q] at e
        cases e
        exact .tup s (pdl_ok (pd_ok hH n) ws vs ds rs q)
    | lst ws => exact viaL _ r e
    | dic _ _ => exact viaL _ r e
    | box _ => exact viaL _ r e
    | scr _ => exact viaL _ r e

theorem flV_ok {K : PySem.W.Frag} {w : W} {v u : V} (r : RW K g w v) (e : flV w = some u) : v = u ∧ flatB u = true := by
  cases w with
  | non => cases e; exact ⟨rnon r, rfl⟩
  | bl _ => cases e; exact ⟨rbl r, rfl⟩
  | int _ => cases e; exact ⟨rint r, rfl⟩
  | str _ => cases e; exact ⟨rstr r, rfl⟩
  | _ => cases e
theorem dlook_ok {K : PySem.W.Frag} : ∀ {ks : List DK} {ws : List W} {kvs : List (Key × V)} {j : Key} {w : W}, ks = kvs.map (fun p => DK.k p.1) → RWs K g ws (kvs.map (·.2)) → dlook ks ws (.k j) = some w → ∃ v, valV kvs j = some v ∧ RW K g w v
  | [], _, _, _, _, _, _, e => by simp [dlook] at e
  | k :: ks, [], _, _, _, _, _, e => by simp [dlook] at e
  | k :: ks, w :: ws, [], _, _, hk, _, _ => by cases hk
  | k :: ks, w :: ws, p :: kvs, j, w', hk, r, e => by
    rw [List.map_cons] at hk r
    cases hk
    unfold RWs at r
    obtain ⟨v, vr, e1, r1, rs⟩ := r
    cases e1
    unfold dlook at e
    by_cases hj : p.1 = j
    · rw [if_pos (by rw [hj])] at e
      cases e
      exact ⟨_, valV_pos hj, r1⟩
    · rw [if_neg (fun z => hj (by injection z))] at e
      obtain ⟨v', q1, q2⟩ := dlook_ok rfl rs e
      exact ⟨v', by rw [valV_neg hj]; exact q1, q2⟩
theorem dEqT_ok {K : PySem.W.Frag} {ks' : List DK} {ws' : List W} {ls : List (Key × V)} (hl : ks' = ls.map (fun p => DK.k p.1)) (rl : RWs K g ws' (ls.map (·.2))) : ∀ {ks : List DK} {ws : List W} {kvs : List (Key × V)},
    ks = kvs.map (fun p => DK.k p.1) → RWs K g ws (kvs.map (·.2)) → dEqT ks' ws' ks ws = true → ∀ p ∈ kvs, valV ls p.1 = some p.2 ∧ flatB p.2 = true
  | _, _, [], _, _, _ => fun p hp => by cases hp
  | [], _, _ :: _, hk, _, _ => by cases hk
  | k :: ks, [], p :: kvs, hk, r, e => by simp [dEqT] at e
  | k :: ks, w :: ws, p :: kvs, hk, r, e => by
    rw [List.map_cons] at hk r
    cases hk
    unfold RWs at r
    obtain ⟨v, vr, e1, r1, rs⟩ := r
    cases e1
    unfold dEqT at e
    rw [Bool.and_eq_true, Bool.and_eq_true] at e
    obtain ⟨⟨_, e2⟩, e3⟩ := e
    intro q hq
    rcases List.mem_cons.mp hq with rfl | hq
    · split at e2
      · rename_i u w' f1 f2
        obtain ⟨v', g1, g2⟩ := dlook_ok hl rl f2
        obtain ⟨h1, h2⟩ := flV_ok r1 f1
        obtain ⟨h3, _⟩ := flV_ok g2 (of_decide_eq_true e2)
        rw [h1]
        exact ⟨by rw [g1, h3], h2⟩
      · cases e2
    · exact dEqT_ok hl rl rfl rs e3 q hq
/-- two dicts of ints and texts, read, of one content -/
def rEqR (b : Bool) : R2 := fun x y H Q => ∃ a a' ks ls, x = .ref a ∧ y = .ref a' ∧ Rd H a (.dK ks) ∧ Rd H a' (.dK ls) ∧ ks.length = ls.length ∧ (∀ p ∈ ks, valV ls p.1 = some p.2 ∧ flatB p.2 = true) ∧ Q (.bl b) H
theorem op_eq_R (hu : X.A.units < cLine) : OpR X (compareOp .Eq) (rEqR true) := by
  intro pins s σ H x y v u Q I rx ry h
  obtain ⟨a, b, ks, ls, rfl, rfl, ea, eb, hlen, hp, q⟩ := h
  obtain rfl : v = Value.ref a := rx
  obtain rfl : u = Value.ref b := ry
  obtain ⟨_, ya, va, ra, da⟩ := dk_rd I.hok ea
  obtain ⟨_, yb, vb, rb, db⟩ := dk_rd I.hok eb
  have hl : va.length = vb.length := by rw [← ra.length, ← rb.length]; exact hlen
  exact PySem.W.keq_eq (knd := mixKind X.prog X.w) (r := true) ya yb da db hu (fun _ => hits_all rb ra hp) (fin_bl I q (by simp [hl]))
theorem op_ne_R (hu : X.A.units < cLine) : OpR X (compareOp .NotEq) (rEqR false) := by
  intro pins s σ H x y v u Q I rx ry h
  obtain ⟨a, b, ks, ls, rfl, rfl, ea, eb, hlen, hp, q⟩ := h
  obtain rfl : v = Value.ref a := rx
  obtain rfl : u = Value.ref b := ry
  obtain ⟨_, ya, va, ra, da⟩ := dk_rd I.hok ea
  obtain ⟨_, yb, vb, rb, db⟩ := dk_rd I.hok eb
  have hl : va.length = vb.length := by rw [← ra.length, ← rb.length]; exact hlen
  exact PySem.W.keq_ne (knd := mixKind X.prog X.w) (r := true) ya yb da db hu (fun _ => hits_all rb ra hp) (fin_bl I q (by simp [hl]))
theorem all_isK : ∀ {ks : List DK} {vs : List V} {a : Addr} {H : Hp}, ks.all isK = true → ks ≠ [] → DctR H a ks vs → ∃ kvs : List (Key × V), Rd H a (.dK kvs) ∧ ks = kvs.map (fun p => DK.k p.1) ∧ vs = kvs.map (·.2)
  | ks, vs, a, H, hk, hn, .inl z => z
  | ks, vs, a, H, hk, hn, .inr ⟨kvs, _, e, _⟩ => by
    cases kvs with
    | nil => exact absurd e hn
    | cons p r => subst e; simp [isK] at hk
theorem dEqT_isK {ks' : List DK} {ws' : List W} : ∀ {ks : List DK} {ws : List W}, dEqT ks' ws' ks ws = true → ks.all isK = true
  | [], _, _ => rfl
  | k :: ks, [], e => by simp [dEqT] at e
  | k :: ks, w :: ws, e => by
    unfold dEqT at e
    rw [Bool.and_eq_true, Bool.and_eq_true] at e
    rw [List.all_cons, e.1.1, dEqT_isK e.2]
    rfl
/-- what == or != of two values may rest on -/
def rEqA (K : PySem.W.Frag) (c : Bool) : R2 := fun x y H Q => (if c then rEq x y H Q else rNe x y H Q) ∨ (if c then rEqD K x y H Q else rNeD K x y H Q) ∨ rEqR c x y H Q ∨ (∃ p q : Addr, x = .ref p ∧ y = .ref q ∧ (∃ vs, DctR H p [] vs) ∧ (∃ vs, DctR H q [] vs) ∧ Q (.bl c) H)
theorem weq_ok {x y : W} {vx vy : V} {b c : Bool} (hK : X.K = Γ.K) (hH : RH Γ g h H) (rx : RW Γ.K g x vx) (ry : RW Γ.K g y vy) (e : weq h x y = some b) (Q : VK) (q : Q (.bl (if c then b else !b)) H) : rEqA X.K c vx vy H Q := by
  have sca : ∀ v u : V, vx = v → vy = u → scal v u = true → b = decide (v = u) → rEqA X.K c vx vy H Q := by
    intro v u e1 e2 hs e
    subst e1; subst e2
    left
    cases c with
    | true => exact ⟨hs, by rw [← e]; exact q⟩
    | false => exact ⟨hs, by rw [← e]; exact q⟩
  unfold weq at e
  split at e
  · cases e
    exact sca _ _ (rint rx) (rint ry) rfl (by simp)
  · cases e
    exact sca _ _ (rstr rx) (rstr ry) rfl (by simp)
  · cases e
    exact sca _ _ (rbl rx) (rbl ry) rfl (by simp)
  · right
    split at e
    · rename_i ks ws ks' ws' e1 e2
      split at e
      · rename_i hc
        cases e
        obtain ⟨h1, h2, h3⟩ := hc
        right
        have q' : Q (.bl c) H := by cases c <;> exact q
        obtain ⟨p, vs, rfl, d1, r1⟩ := dview_ok hH rx e1
        obtain ⟨p', vs', rfl, d2, r2⟩ := dview_ok hH ry e2
        by_cases hn : ks = []
        · right
          subst hn
          have : ks' = [] := List.length_eq_zero_iff.mp (by simpa using h1.symm)
          subst this
          exact ⟨p, p', rfl, rfl, ⟨_, d1⟩, ⟨_, d2⟩, q'⟩
        · left
          have hn' : ks' ≠ [] := fun z => hn (by subst z; exact List.length_eq_zero_iff.mp (by simpa using h1))
          obtain ⟨kvs, a1, a2, a3⟩ := all_isK (dEqT_isK h3) hn d1
          obtain ⟨ls, b1, b2, b3⟩ := all_isK h2 hn' d2
          subst a3
          subst b3
          refine ⟨p, p', kvs, ls, rfl, rfl, a1, b1, ?_, dEqT_ok b2 r2 a2 r1 h3, q'⟩
          have z1 := congrArg List.length a2
          have z2 := congrArg List.length b2
          rw [List.length_map] at z1 z2
          omega
      · cases e
    · split at e
      · rename_i d d' e1 e2
        split at e
        · rename_i hc
          cases e
          left
          rw [hK]
          have a1 := pd_ok hH _ _ _ _ rx e1
          have a2 := pd_ok hH _ _ _ _ ry e2
          cases c with
          | true => exact ⟨d, d', a1, a2, hc.1, hc.2, q⟩
          | false => exact ⟨d, d', a1, a2, hc.1, hc.2, q⟩
        · cases e
      · cases e
/-- an empty dict, whatever its keys were to be -/
theorem empty_at {P : Program} {w : World} {a : Addr} {hp : Heap} {vs : List V} (ok : HOk P w H hp) (d : DctR H a [] vs) : (a == sysModules) = false ∧ hp.DictOf (mixKind P w) a [] := by
  rcases d with ⟨kvs, e, hk, _⟩ | ⟨kvs, e, hk, _⟩
  · have : kvs = [] := by cases kvs with
      | nil => rfl
      | cons _ _ => cases hk
    subst this
    obtain ⟨_, y, us, r, d⟩ := dk_rd ok e
    cases r
    exact ⟨y, d⟩
  · have : kvs = [] := by cases kvs with
      | nil => rfl
      | cons _ _ => cases hk
    subst this
    obtain ⟨_, y, us, r, o, es, ep, h1, h2, h3, h4, _⟩ := (show ObjOk P w H hp a (.dT []) from rd_of ok e)
    cases r
    refine ⟨y, o, es, ep, h1, h2, h3, ?_, ?_, List.nodup_nil⟩
    · have : es = #[] := Array.toList_eq_nil_iff.mp h4
      subst this
      first
        | exact fun i e he => absurd he (by simp)
        | (intro i; simp)
        | simp [KeysOf]
    · rw [show es.toList = [] from h4]
      first
        | exact .nil
        | constructor
theorem op_eqA (hu : X.A.units + 64 < cLine) : OpR X (compareOp .Eq) (rEqA X.K true) := by
  refine OpR.or (r := fun x y H Q => rEq x y H Q) op_eq (OpR.or (r := fun x y H Q => rEqD X.K x y H Q) (op_eqD hu) (OpR.or (op_eq_R (by omega)) ?_))
  rintro pins s σ H x y v u Q I rx ry ⟨p, q, rfl, rfl, ⟨_, d1⟩, ⟨_, d2⟩, k⟩
  obtain rfl : v = Value.ref p := rx
  obtain rfl : u = Value.ref q := ry
  obtain ⟨ya, da⟩ := empty_at I.hok d1
  obtain ⟨yb, db⟩ := empty_at I.hok d2
  exact PySem.W.keq_eq (knd := mixKind X.prog X.w) (r := true) ya yb da db (by omega) (fun _ => .nil) (fin_bl I k (by simp))
theorem op_neA (hu : X.A.units + 64 < cLine) : OpR X (compareOp .NotEq) (rEqA X.K false) := by
  refine OpR.or (r := fun x y H Q => rNe x y H Q) op_ne (OpR.or (r := fun x y H Q => rNeD X.K x y H Q) (op_neD hu) (OpR.or (op_ne_R (by omega)) ?_))
  rintro pins s σ H x y v u Q I rx ry ⟨p, q, rfl, rfl, ⟨_, d1⟩, ⟨_, d2⟩, k⟩
  obtain rfl : v = Value.ref p := rx
  obtain rfl : u = Value.ref q := ry
  obtain ⟨ya, da⟩ := empty_at I.hok d1
  obtain ⟨yb, db⟩ := empty_at I.hok d2
  exact PySem.W.keq_ne (knd := mixKind X.prog X.w) (r := true) ya yb da db (by omega) (fun _ => .nil) (fin_bl I k (by simp))
theorem o_eq (hK : X.K = Γ.K) (hu : X.A.units + 64 < cLine) : OpS Γ Wx X (compareOp .Eq) wEq := by
  refine ⟨_, op_eqA hu, fun {g h H σ x y vx vy Q} hH rx ry q => ?_⟩
  unfold wEq at q
  split at q
  · rename_i b e
    exact weq_ok (c := true) hK hH rx ry e Q (rz_now q hH (mbl _))
  · exact q.elim
theorem o_ne (hK : X.K = Γ.K) (hu : X.A.units + 64 < cLine) : OpS Γ Wx X (compareOp .NotEq) wNe := by
  refine ⟨_, op_neA hu, fun {g h H σ x y vx vy Q} hH rx ry q => ?_⟩
  unfold wNe at q
  split at q
  · rename_i b e
    exact weq_ok (c := false) hK hH rx ry e Q (rz_now q hH (mbl _))
  · exact q.elim
end
end Pk
end

/-! PkE -/
section
set_option Elab.async false
set_option linter.all false
set_option maxRecDepth 100000
namespace Pk
open PySem PySem.Spec L2

/-! ### keys -/
def keysOf : List W → Option (List Key)
  | [] => some []
  | .int i :: ws => (keysOf ws).map (.inl i :: ·)
  | .str x :: ws => (keysOf ws).map (.inr x :: ·)
  | _ => none
def kOf : W → Option DK
  | .int i => some (.k (.inl i))
  | .str x => some (.k (.inr x))
  | .tup ws => (keysOf ws).map .t
  | _ => none
theorem keysOf_ok {K : PySem.W.Frag} {g : G} : ∀ {ws : List W} {vs : List V} {l : List Key}, RWs K g ws vs → keysOf ws = some l → vs = l.map kV
  | [], _, _, r, e => by unfold RWs at r; subst r; cases e; rfl
  | w :: ws, _, l, r, e => by
    unfold RWs at r
    obtain ⟨v, vr, rfl, r1, rs⟩ := r
    cases w with
    | int i =>
      unfold keysOf at e
      cases q : keysOf ws with
      | none => rw [q] at e; cases e
      | some l' => rw [q] at e; cases e; rw [rint r1, keysOf_ok rs q]; rfl
    | str i =>
      unfold keysOf at e
      cases q : keysOf ws with
      | none => rw [q] at e; cases e
      | some l' => rw [q] at e; cases e; rw [rstr r1, keysOf_ok rs q]; rfl
    | _ => cases e
def sameK (k j : DK) : Bool := isK k == isK j

/-! ### what a dict holds, an empty one at any key -/
def IsKey (H : Hp) (y : V) : Prop := (∃ k, y = kV k) ∨ ∃ (b : Addr) (l : List Key), y = .ref b ∧ H b = some (.tup (l.map kV))
def DG (H : Hp) (a : Addr) (y : V) (r : Option V) : Prop := DGet H a y r ∨ (r = none ∧ (∃ vs, DctR H a [] vs) ∧ IsKey H y)
theorem empty_atH {P : Program} {w : World} {a : Addr} {hp : Heap} {vs : List V} {H : Hp} (ok : HOk P w H hp) (d : DctR H a [] vs) : hp.DictOfH (tupleKind (mixKind P w)) a [] := by
  obtain ⟨o, es, ep, h1, h2, h3, h4, h5, h6⟩ := (empty_at ok d).2
  refine ⟨o, es, ep, h1, h2, h3, ?_, (fun x hx => by cases hx), List.nodup_nil⟩
  have := h5
  cases hes : es.toList with
  | nil => rfl
  | cons z zs =>
    rw [hes] at this
    first
      | cases this
      | (exfalso; simpa using this)
section
variable {X : Cx} {pins : List (Addr × Obj)} {σ : L2.St} {H : Hp} {s : Shared} {a : Addr} {y d : V} {u r : Value} {o : Option V} {A : Around} {E : Value → Shared → Prop}
theorem dg_in {Q : Value → Shared → Prop} (hu : A.units + 1 < cLine) (I : Inv X pins σ H s) (g : DG H a y o) (ry : RelV y u) (h : ∀ s', Inv X pins σ H s' → Q (.bool o.isSome) s') : wpAny (model X.prog X.w) A (compareOp .In u (.ref a)) Q E s := by
  rcases g with g | ⟨rfl, ⟨vs, d⟩, k⟩
  · exact d_in hu I g ry h
  · obtain ⟨hd, dd⟩ := empty_at I.hok d
    rcases k with ⟨k, rfl⟩ | ⟨b, l, rfl, hb⟩
    · exact PySem.wpAny_in_of (kV_is ry) hd dd.mapOf (h _ (I.tok _))
    · cases (show u = Value.ref b from ry)
      exact PySem.wpAny_in_heap (tupleKind_room_in1 hu) (key_of I.hok hb) hd (empty_atH I.hok d) (h _ (I.tok _))
theorem dg_notIn {Q : Value → Shared → Prop} (hu : A.units + 1 < cLine) (I : Inv X pins σ H s) (g : DG H a y o) (ry : RelV y u) (h : ∀ s', Inv X pins σ H s' → Q (.bool (!o.isSome)) s') : wpAny (model X.prog X.w) A (compareOp .NotIn u (.ref a)) Q E s := by
  rcases g with g | ⟨rfl, ⟨vs, d⟩, k⟩
  · exact d_notIn hu I g ry h
  · obtain ⟨hd, dd⟩ := empty_at I.hok d
    rcases k with ⟨k, rfl⟩ | ⟨b, l, rfl, hb⟩
    · exact PySem.wpAny_notIn_of (kV_is ry) hd dd.mapOf (h _ (I.tok _))
    · cases (show u = Value.ref b from ry)
      exact PyProof.Rows.wpAny_notIn_heap (tupleKind_room_in1 hu) (key_of I.hok hb) hd (empty_atH I.hok d) (h _ (I.tok _))
theorem dg_get1 {Q : Value → Shared → Prop} (hu : A.units + 1 < cLine) (I : Inv X pins σ H s) (g : DG H a y o) (ry : RelV y u) (h : ∀ w' s', Inv X pins σ H s' → RelV (o.getD .non) w' → Q w' s') :
    wpAny (model X.prog X.w) A (call (.builtin "dict.get") [.ref a, u]) Q E s := by
  rcases g with g | ⟨rfl, ⟨vs, d⟩, k⟩
  · exact d_get1 hu I g ry h
  · obtain ⟨hd, dd⟩ := empty_at I.hok d
    rcases k with ⟨k, rfl⟩ | ⟨b, l, rfl, hb⟩
    · exact PySem.call_meetsIn PySem.F.slot_dict_get dd.typeIs PySem.F.entry_dict_get (PySem.F.args_dict_get_2 _ _) (meets_dict_get (mixKind X.prog X.w) a (kV_is ry) hd) ⟨_, dd.mapOf, h _ _ (I.tok _) rfl⟩
    · cases (show u = Value.ref b from ry)
      have ddH := empty_atH I.hok d
      exact PySem.call_meetsIn PySem.F.slot_dict_get ddH.typeIs PySem.F.entry_dict_get (PySem.F.args_dict_get_2 _ _) (meetsH_dict_get (tupleKind (mixKind X.prog X.w)) a b hd) ⟨tupleKind_room_in1 hu, l, _, key_of I.hok hb, ddH, h _ _ (I.tok _) rfl⟩
theorem dg_get2 {Q : Value → Shared → Prop} (hu : A.units + 1 < cLine) (I : Inv X pins σ H s) (g : DG H a y o) (ry : RelV y u) (rd : RelV d r) (h : ∀ w' s', Inv X pins σ H s' → RelV (o.getD d) w' → Q w' s') :
    wpAny (model X.prog X.w) A (call (.builtin "dict.get") [.ref a, u, r]) Q E s := by
  rcases g with g | ⟨rfl, ⟨vs, dr⟩, k⟩
  · exact d_get2 hu I g ry rd h
  · obtain ⟨hd, dd⟩ := empty_at I.hok dr
    rcases k with ⟨k, rfl⟩ | ⟨b, l, rfl, hb⟩
    · exact PySem.call_meetsIn PySem.F.slot_dict_get dd.typeIs PySem.F.entry_dict_get (PySem.F.args_dict_get_3 _ _ _) (meets_dict_get_default (mixKind X.prog X.w) a (kV_is ry) hd r) ⟨_, dd.mapOf, h _ _ (I.tok _) rd⟩
    · cases (show u = Value.ref b from ry)
      have ddH := empty_atH I.hok dr
      exact PySem.call_meetsIn PySem.F.slot_dict_get ddH.typeIs PySem.F.entry_dict_get (PySem.F.args_dict_get_3 _ _ _) (meetsH_dict_get_default (tupleKind (mixKind X.prog X.w)) a b hd r) ⟨tupleKind_room_in1 hu, l, _, key_of I.hok hb, ddH, h _ _ (I.tok _) rd⟩
end
section
variable {Γ : Γ} {Wx : WX} {X : Cx}
theorem op_inDG (hu : X.A.units + 1 < cLine) : OpR X (compareOp .In) (fun x y H Q => ∃ a o, y = .ref a ∧ DG H a x o ∧ Q (.bl o.isSome) H) := by
  rintro pins s σ H x y v u Q I rx ry ⟨a, o, rfl, g, q⟩
  obtain rfl : u = Value.ref a := ry
  exact dg_in hu I g rx fun s' I' => fin_bl I' q rfl
theorem op_notInDG (hu : X.A.units + 1 < cLine) : OpR X (compareOp .NotIn) (fun x y H Q => ∃ a o, y = .ref a ∧ DG H a x o ∧ Q (.bl (!o.isSome)) H) := by
  rintro pins s σ H x y v u Q I rx ry ⟨a, o, rfl, g, q⟩
  obtain rfl : u = Value.ref a := ry
  exact dg_notIn hu I g rx fun s' I' => fin_bl I' q rfl
variable {g : G} {h : HS} {H : Hp}
theorem dlook_none {K : PySem.W.Frag} : ∀ {ks : List DK} {ws : List W} {kvs : List (Key × V)} {j : Key}, ks = kvs.map (fun p => DK.k p.1) → RWs K g ws (kvs.map (·.2)) → dlook ks ws (.k j) = none → valV kvs j = none
  | _, _, [], _, _, _, _ => rfl
  | [], _, _ :: _, _, hk, _, _ => by cases hk
  | k :: ks, [], p :: kvs, _, _, r, _ => by unfold RWs at r; cases r
  | k :: ks, w :: ws, p :: kvs, j, hk, r, e => by
    rw [List.map_cons] at hk r
    cases hk
    unfold RWs at r
    obtain ⟨v, vr, e1, r1, rs⟩ := r
    cases e1
    unfold dlook at e
    by_cases hj : p.1 = j
    · rw [if_pos (by rw [hj])] at e; cases e
    · rw [if_neg (fun z => hj (by injection z))] at e
      rw [valV_neg hj]
      exact dlook_none rfl rs e
theorem dlookT {K : PySem.W.Frag} : ∀ {ks : List DK} {ws : List W} {kvs : List (List Key × V)} {j : List Key}, ks = kvs.map (fun p => DK.t p.1) → RWs K g ws (kvs.map (·.2)) →
    (∀ w, dlook ks ws (.t j) = some w → ∃ v, valV kvs j = some v ∧ RW K g w v) ∧ (dlook ks ws (.t j) = none → valV kvs j = none)
  | _, _, [], _, hk, _ => by
    subst hk
    exact ⟨fun w e => by simp [dlook] at e, fun _ => rfl⟩
  | [], _, _ :: _, _, hk, _ => by cases hk
  | k :: ks, [], p :: kvs, _, _, r => by unfold RWs at r; cases r
  | k :: ks, w :: ws, p :: kvs, j, hk, r => by
    rw [List.map_cons] at hk r
    cases hk
    unfold RWs at r
    obtain ⟨v, vr, e1, r1, rs⟩ := r
    cases e1
    obtain ⟨i1, i2⟩ := dlookT (j := j) rfl rs
    unfold dlook
    by_cases hj : p.1 = j
    · rw [if_pos (by rw [hj])]
      exact ⟨fun w' e => by cases e; exact ⟨_, valV_pos hj, r1⟩, fun e => by cases e⟩
    · rw [if_neg (fun z => hj (by injection z)), valV_neg hj]
      exact ⟨i1, i2⟩
/-- what a dict holds at a key -/
def dget (h : HS) (d k : W) : Option (Option W) := match dview h d, kOf k with
  | some (ks, ws), some j => if ks.all (sameK j) = true then some (dlook ks ws j) else none
  | _, _ => none
def RWo (K : PySem.W.Frag) (g : G) : Option W → Option V → Prop
  | some w, some v => RW K g w v
  | none, none => True
  | _, _ => False
theorem all_sameT : ∀ {ks : List DK} {l : List Key} {vs : List V} {a : Addr}, ks.all (sameK (.t l)) = true → ks ≠ [] → DctR H a ks vs → ∃ kvs : List (List Key × V), Rd H a (.dT kvs) ∧ ks = kvs.map (fun p => DK.t p.1) ∧ vs = kvs.map (·.2)
  | ks, l, vs, a, hk, hn, .inr z => z
  | ks, l, vs, a, hk, hn, .inl ⟨kvs, _, e, _⟩ => by
    cases kvs with
    | nil => exact absurd e hn
    | cons p r => subst e; simp [sameK, isK] at hk
theorem all_sameK : ∀ {ks : List DK} {l : Key} {vs : List V} {a : Addr}, ks.all (sameK (.k l)) = true → ks ≠ [] → DctR H a ks vs → ∃ kvs : List (Key × V), Rd H a (.dK kvs) ∧ ks = kvs.map (fun p => DK.k p.1) ∧ vs = kvs.map (·.2)
  | ks, l, vs, a, hk, hn, .inl z => z
  | ks, l, vs, a, hk, hn, .inr ⟨kvs, _, e, _⟩ => by
    cases kvs with
    | nil => exact absurd e hn
    | cons p r => subst e; simp [sameK, isK] at hk
theorem kOf_ok {k : W} {vk : V} {j : DK} (hH : RH Γ g h H) (rk : RW Γ.K g k vk) (e2 : kOf k = some j) : (∃ l, j = .k l ∧ vk = kV l) ∨ ∃ (l : List Key) (b : Addr), j = .t l ∧ vk = .ref b ∧ H b = some (.tup (l.map kV)) := by
  cases k with
  | int i => cases e2; exact .inl ⟨_, rfl, rint rk⟩
  | str i => cases e2; exact .inl ⟨_, rfl, rstr rk⟩
  | tup ws' =>
    right
    have e3 : (keysOf ws').map DK.t = some j := e2
    cases q : keysOf ws' with
    | none => rw [q] at e3; cases e3
    | some l =>
      rw [q] at e3
      cases e3
      obtain ⟨b, us, eb, hb, rs⟩ := tup_at hH rk
      rw [keysOf_ok rs q] at hb
      exact ⟨l, b, rfl, eb, hb⟩
  | _ => cases e2
theorem dget_ok {d k : W} {vd vk : V} {r : Option W} (hH : RH Γ g h H) (rd : RW Γ.K g d vd) (rk : RW Γ.K g k vk) (e : dget h d k = some r) : ∃ a o, vd = .ref a ∧ DG H a vk o ∧ RWo Γ.K g r o := by
  unfold dget at e
  split at e
  · rename_i ks ws j e1 e2
    split at e
    · rename_i hs
      cases e
      obtain ⟨a, vs, rfl, dr, rs⟩ := dview_ok hH rd e1
      refine ⟨a, ?_⟩
      have key := kOf_ok hH rk e2
      by_cases hn : ks = []
      · subst hn
        refine ⟨none, rfl, Or.inr ⟨rfl, ⟨_, dr⟩, ?_⟩, ?_⟩
        · rcases key with ⟨l, _, z⟩ | ⟨l, b, _, z, q⟩
          · exact (Or.inl ⟨l, z⟩ : IsKey H vk)
          · exact (Or.inr ⟨b, l, z, q⟩ : IsKey H vk)
        · have : dlook [] ws j = none := by cases ws <;> rfl
          rw [this]; exact True.intro
      · rcases key with ⟨l, rfl, rfl⟩ | ⟨l, b, rfl, rfl, hb⟩
        · obtain ⟨kvs, e, hk, hv⟩ := all_sameK hs hn dr
          subst hv
          refine ⟨valV kvs l, rfl, Or.inl (Or.inl ⟨kvs, l, e, rfl, rfl⟩), ?_⟩
          cases q : dlook ks ws (.k l) with
          | none => rw [dlook_none hk rs q]; exact True.intro
          | some w => obtain ⟨v, z, r1⟩ := dlook_ok hk rs q; rw [z]; exact r1
        · obtain ⟨kvs, e, hk, hv⟩ := all_sameT hs hn dr
          subst hv
          refine ⟨valV kvs l, rfl, Or.inl (Or.inr ⟨kvs, l, b, e, rfl, hb, rfl⟩), ?_⟩
          obtain ⟨i1, i2⟩ := dlookT (j := l) hk rs
          cases q : dlook ks ws (.t l) with
          | none => rw [i2 q]; exact True.intro
          | some w => obtain ⟨v, z, r1⟩ := i1 w q; rw [z]; exact r1
    · cases e
  · cases e
end
end Pk
end

/-! PkF -/
section
set_option Elab.async false
set_option linter.all false
set_option maxRecDepth 100000
namespace Pk
open PySem PySem.Spec L2

/-! ### in -/
def flVs : List W → Option (List V)
  | [] => some []
  | w :: ws => match flV w, flVs ws with
    | some v, some vs => some (v :: vs)
    | _, _ => none
def strIn (i j : Str) : Bool := match i.cps with
  | ⟨[c]⟩ => decide (c ∈ j.cps.toList)
  | _ => !(Builtin.Str.occurrences j i 0 j.length 1).isEmpty
def win (h : HS) (x y : W) : Option Bool := match dget h y x with
  | some r => some r.isSome
  | none => match x, y with
    | .str i, .str j => some (strIn i j)
    | x, y => match sview h y with
      | some ws => match flV x, flVs ws with
        | some v, some vs => some (inV v vs)
        | _, _ => none
      | none => none
def wIn (x y : W) (h : HS) : R W := match win h x y with
  | some b => .ok (.bl b) h
  | none => .no
def wNotIn (x y : W) (h : HS) : R W := match win h x y with
  | some b => .ok (.bl (!b)) h
  | none => .no
section
variable {Γ : Γ} {Wx : WX} {X : Cx} {g : G} {h : HS} {H : Hp}
theorem flV_flat {K : PySem.W.Frag} {w : W} {v u : V} (r : RW K g w v) (e : flV w = some u) : v = u ∧ flatV u = true := by
  cases w with
  | non => cases e; exact ⟨rnon r, rfl⟩
  | bl _ => cases e; exact ⟨rbl r, rfl⟩
  | int _ => cases e; exact ⟨rint r, rfl⟩
  | str _ => cases e; exact ⟨rstr r, rfl⟩
  | _ => cases e
theorem flVs_ok {K : PySem.W.Frag} : ∀ {ws : List W} {vs us : List V}, RWs K g ws vs → flVs ws = some us → vs = us ∧ us.all flatV = true
  | [], _, _, r, e => by unfold RWs at r; subst r; cases e; exact ⟨rfl, rfl⟩
  | w :: ws, _, _, r, e => by
    unfold RWs at r
    obtain ⟨v, vr, rfl, r1, rs⟩ := r
    unfold flVs at e
    split at e
    · rename_i u us e1 e2
      cases e
      obtain ⟨h1, h2⟩ := flV_flat r1 e1
      obtain ⟨h3, h4⟩ := flVs_ok rs e2
      exact ⟨by rw [h1, h3], by rw [List.all_cons, h2, h4]; rfl⟩
    · cases e
def rInA (K : PySem.W.Frag) (c : Bool) : R2 := fun x y H Q => (∃ a o, y = .ref a ∧ DG H a x o ∧ Q (.bl (if c then o.isSome else !o.isSome)) H) ∨
  (∃ i j, x = .str i ∧ y = .str j ∧ Q (.bl (if c then strIn i j else !strIn i j)) H) ∨ rIn K (!c) x y H Q
theorem RWo.isSome {K : PySem.W.Frag} {r : Option W} {o : Option V} (z : RWo K g r o) : r.isSome = o.isSome := by
  cases r with
  | none => cases o with
    | none => rfl
    | some _ => exact (show False from z).elim
  | some _ => cases o with
    | none => exact (show False from z).elim
    | some _ => rfl
theorem win_ok {x y : W} {vx vy : V} {b c : Bool} (hK : X.K = Γ.K) (hH : RH Γ g h H) (rx : RW Γ.K g x vx) (ry : RW Γ.K g y vy) (e : win h x y = some b) (Q : VK) (q : Q (.bl (if c then b else !b)) H) : rInA X.K c vx vy H Q := by
  unfold win at e
  split at e
  · rename_i r e1
    cases e
    obtain ⟨a, o, rfl, d, ro⟩ := dget_ok hH ry rx e1
    left
    refine ⟨a, o, rfl, d, ?_⟩
    rw [← ro.isSome]
    exact q
  · right
    split at e
    · cases e
      exact .inl ⟨_, _, rstr rx, rstr ry, q⟩
    · right
      split at e
      · rename_i ws e1
        split at e
        · rename_i v vs e2 e3
          cases e
          obtain ⟨a, us, rfl, s, rs⟩ := sview_ok hH ry e1
          obtain ⟨h1, h2⟩ := flV_flat rx e2
          obtain ⟨h3, h4⟩ := flVs_ok rs e3
          subst h1; subst h3
          rw [hK]
          exact ⟨a, us, rfl, s, h2, h4, by cases c <;> exact q⟩
        · cases e
      · cases e
theorem op_strIn : OpR X (compareOp .In) (fun x y H Q => ∃ i j, x = .str i ∧ y = .str j ∧ Q (.bl (strIn i j)) H) := by
  rintro pins s σ H x y v u Q I rx ry ⟨i, j, rfl, rfl, q⟩
  unfold strIn at q
  split at q
  · rename_i c e
    obtain ⟨cps⟩ := i
    have e' : cps = #[c] := e
    subst e'
    exact op_in_sign pins s σ H _ _ v u Q I rx ry ⟨c, j, rfl, rfl, q⟩
  · exact op_in_str pins s σ H _ _ v u Q I rx ry ⟨i, j, rfl, rfl, q⟩
theorem op_strNotIn : OpR X (compareOp .NotIn) (fun x y H Q => ∃ i j, x = .str i ∧ y = .str j ∧ Q (.bl (!strIn i j)) H) := by
  rintro pins s σ H x y v u Q I rx ry ⟨i, j, rfl, rfl, q⟩
  unfold strIn at q
  split at q
  · rename_i c e
    obtain ⟨cps⟩ := i
    have e' : cps = #[c] := e
    subst e'
    exact op_notIn_sign pins s σ H _ _ v u Q I rx ry ⟨c, j, rfl, rfl, q⟩
  · exact op_notin_str pins s σ H _ _ v u Q I rx ry ⟨i, j, rfl, rfl, q⟩
theorem o_in (hK : X.K = Γ.K) (hu : X.A.units + 1 < cLine) : OpS Γ Wx X (compareOp .In) wIn := by
  refine ⟨rInA X.K true, OpR.or (op_inDG hu) (OpR.or op_strIn op_in_seq), fun {g h H σ x y vx vy Q} hH rx ry q => ?_⟩
  unfold wIn at q
  split at q
  · rename_i b e
    exact win_ok (c := true) hK hH rx ry e Q (rz_now q hH (mbl _))
  · exact q.elim
theorem o_notIn (hK : X.K = Γ.K) (hu : X.A.units + 1 < cLine) : OpS Γ Wx X (compareOp .NotIn) wNotIn := by
  refine ⟨rInA X.K false, OpR.or (op_notInDG hu) (OpR.or op_strNotIn op_notIn_seq), fun {g h H σ x y vx vy Q} hH rx ry q => ?_⟩
  unfold wNotIn at q
  split at q
  · rename_i b e
    exact win_ok (c := false) hK hH rx ry e Q (rz_now q hH (mbl _))
  · exact q.elim
end

/-! ### subscripts -/
def wIx (x i : W) (h : HS) : R W := match x, i with
  | .str z, .int i => if z.length ≤ sizeLine then (match atI z.cps.toList i with
    | some c => .ok (.str ⟨#[c]⟩) h
    | none => .no) else .no
  | x, i => match sview h x, i with
    | some ws, .int i => match atI ws i with
      | some w => .ok w h
      | none => .no
    | _, i => match dget h x i with
      | some (some w) => .ok w h
      | _ => .no
section
variable {Γ : Γ} {Wx : WX} {X : Cx} {g : G} {h : HS} {H : Hp}
theorem atI_ok {K : PySem.W.Frag} {ws : List W} {vs : List V} {i : Int} {w : W} (r : RWs K g ws vs) (e : atI ws i = some w) : ∃ v, atI vs i = some v ∧ RW K g w v := by
  unfold atI at e ⊢
  rw [r.len] at e
  cases q : ixN vs.length i with
  | none => rw [q] at e; cases e
  | some j => rw [q] at e; exact r.get e
theorem ix_dict (hu : X.A.units + 1 < cLine) : IxR X (fun x y H Q => ∃ a v, x = .ref a ∧ DGet H a y (some v) ∧ Q v H) := by
  rintro value slice pins s σ H x y v u Q I rx ry ⟨a, v', rfl, d, q⟩ hs
  obtain rfl : v = Value.ref a := rx
  exact PyProof.Rows.tail_any (dict_typeIs I d) PySem.F.slot_dict_getitem.lookup (d_getItem hu I d ry fun w' s' I' r' => ⟨v', H, I', r', q⟩) hs
theorem e_ix {a b : Expr} {fa fb : Ex} {pos : Pos} (hK : X.K = Γ.K) (hu : X.A.units + 1 < cLine) (ha : PE X a (RDE Γ Wx fa)) (hb : PE X b (RDE Γ Wx fb)) (hs : PlainIx b := by exact fun _ _ => rfl) : PE X (.Subscript a b pos) (RDE Γ Wx (eBin wIx fa fb)) := by
  refine PE.imp (pe_ix (ix_seq.or (ix_dict hu)) ha hb hs) fun σ H Q x => bin_rd (f := fun _ _ => Sem.unsupported "") (fun {g h H σ x y vx vy Q} hH rx ry q => ?_) x
  unfold wIx at q
  split at q
  · split at q
    · rename_i hl
      split at q
      · rename_i c ec
        cases rstr rx; cases rint ry
        exact .inl (.inr (.inr ⟨_, _, c, rfl, rfl, hl, ec, rz_now q hH (mstr _)⟩))
      · exact q.elim
    · exact q.elim
  · split at q
    · rename_i ws i e1 
      split at q
      · rename_i w ew
        cases rint ry
        obtain ⟨p, us, rfl, s, rs⟩ := sview_ok hH rx (by assumption)
        obtain ⟨v, e2, rv⟩ := atI_ok rs ew
        left
        rw [hK]
        rcases s with s | s
        · exact .inl ⟨p, us, _, v, rfl, rfl, s, e2, rz_now q hH rv⟩
        · exact .inr (.inl ⟨p, us, _, v, rfl, rfl, s, e2, rz_now q hH rv⟩)
      · exact q.elim
    · split at q
      · rename_i w ew
        obtain ⟨p, o, rfl, d, ro⟩ := dget_ok hH rx ry ew
        cases o with
        | none => exact (show False from ro).elim
        | some v =>
          refine .inr ⟨p, v, rfl, ?_, rz_now q hH ro⟩
          rcases d with d | ⟨z, _⟩
          · exact d
          · cases z
      · exact q.elim
end

/-! ### slices -/
abbrev Px := Sl → HS → R (Option Int)
def RDP (Γ : Γ) (Wx : WX) (f : Px) : TO := fun σ H Q => ∃ g sl h, RH Γ g h H ∧ SLk Γ g sl σ ∧ Rz Γ Wx (fun _ (a b : Option Int) => a = b) g (f sl h) σ Q
def pNo : Px := fun _ h => .ok none h
def pSome (f : Ex) : Px := fun sl h => (f sl h).bind fun x h1 => match x with
  | .int i => .ok (some i) h1
  | _ => .no
def cutW (ws : List W) (lo hi : Option Int) : List W := (ws.drop (HT.sIx ws.length 0 lo)).take (HT.sIx ws.length ws.length hi - HT.sIx ws.length 0 lo)
def wCut (bx : Bool) (x : W) (lo hi : Option Int) (h : HS) : R W := match x with
  | .str z => if z.length ≤ sizeLine then .ok (.str (cutS z lo hi)) h else .no
  | .tup ws => .ok (.tup (cutW ws lo hi)) h
  | .scr ns => mkL bx (cutW (ns.map W.int) lo hi) h
  | x => match lview h x with
    | some ws => mkL bx (cutW ws lo hi) h
    | none => .no
def eCut (bx : Bool) (f : Ex) (lo hi : Px) : Ex := fun sl h => (f sl h).bind fun x h1 => (lo sl h1).bind fun l h2 => (hi sl h2).bind fun u h3 => wCut bx x l u h3
section
variable {Γ : Γ} {Wx : WX} {X : Cx} {g : G} {h : HS} {H : Hp}
theorem p_no : PO X none (RDP Γ Wx pNo) := ⟨fun pins s σ H Q I ⟨g, sl, h, hH, hS, q⟩ => po_none.run pins s σ H Q I (q g _ _ (.refl g) hH rfl)⟩
theorem p_some {e : Expr} {f : Ex} (p : PE X e (RDE Γ Wx f)) : PO X (some e) (RDP Γ Wx (pSome f)) := by
  refine ⟨fun pins s σ H Q I ⟨g, sl, h, hH, hS, q⟩ => (po_some p).run pins s σ H Q I ?_⟩
  refine RDE.mono (fun v H1 ⟨g1, h1, w1, l1, hH1, r1, q1⟩ => ?_) (RDE.step hH hS q)
  cases w1 with
  | int i => cases rint r1; exact ⟨i, rfl, q1 g1 _ _ (.refl _) hH1 rfl⟩
  | _ => exact q1.elim
theorem RWs.drop {K : PySem.W.Frag} : ∀ {ws : List W} {vs : List V} (n : Nat), RWs K g ws vs → RWs K g (ws.drop n) (vs.drop n)
  | _, _, 0, r => r
  | [], _, n + 1, r => by unfold RWs at r; subst r; exact .nil
  | w :: ws, _, n + 1, r => by
    unfold RWs at r
    obtain ⟨v, vr, rfl, _, rs⟩ := r
    exact RWs.drop n rs
theorem RWs.take {K : PySem.W.Frag} : ∀ {ws : List W} {vs : List V} (n : Nat), RWs K g ws vs → RWs K g (ws.take n) (vs.take n)
  | ws, vs, 0, r => by rw [List.take_zero, List.take_zero]; exact .nil
  | [], _, n + 1, r => by unfold RWs at r; subst r; exact .nil
  | w :: ws, _, n + 1, r => by
    unfold RWs at r
    obtain ⟨v, vr, rfl, r1, rs⟩ := r
    exact .cons r1 (RWs.take n rs)
theorem cutW_ok {K : PySem.W.Frag} {ws : List W} {vs : List V} {lo hi : Option Int} (r : RWs K g ws vs) : RWs K g (cutW ws lo hi) (cutV vs lo hi) := by
  unfold cutW cutV
  rw [r.len]
  exact (r.drop _).take _
theorem e_cut {a : Expr} {lo hi : Option Expr} {fa : Ex} {pl ph : Px} {p2 pos : Pos} (bx : Bool) (hK : X.K = Γ.K) (ha : PE X a (RDE Γ Wx fa)) (hl : PO X lo (RDP Γ Wx pl)) (hh : PO X hi (RDP Γ Wx ph)) :
    PE X (.Subscript a (.Slice lo hi none p2) pos) (RDE Γ Wx (eCut bx fa pl ph)) := by
  refine PE.imp (pe_slice ((sl_str (X := X)).or (SlR.or sl_tupA sl_list)) ha hl hh) fun σ H Q ⟨g, sl, h, hH, hS, q⟩ => ?_
  refine RDE.mono (fun v H1 ⟨g1, h1, w1, l1, hH1, r1, q1⟩ => ?_) (RDE.step hH hS q)
  refine ⟨g1, sl, h1, hH1, SLk.mono l1 hS, Rz.mono (fun l H2 ⟨g2, h2, x2, l2, hH2, e2, q2⟩ => ?_) (rz_step q1)⟩
  subst e2
  refine ⟨g2, sl, h2, hH2, SLk.mono (l1.trans l2) hS, Rz.mono (fun u H3 ⟨g3, h3, x3, l3, hH3, e3, q3⟩ => ?_) (rz_step q2)⟩
  subst e3
  have r3 := RW.mono (l2.trans l3) _ _ r1
  unfold wCut at q3
  split at q3
  · split at q3
    · rename_i hz
      cases rstr r3
      exact .inl ⟨_, rfl, hz, rz_now q3 hH3 (mstr _)⟩
    · exact q3.elim
  · obtain ⟨p, vs, rfl, s, rs⟩ := tup_ok hH3 r3
    rename_i ws _
    rw [← hK] at s
    refine .inr (.inl ⟨p, vs, rfl, s, fun hw => ?_, fun _ p' hp' => mkT_ok hH3 hp' (cutW_ok rs) q3⟩)
    have e : ∀ us : List W, us.length = vs.length → cutW us x2 x3 = us := fun us hu => by
      unfold cutW
      rw [hu, hw.1, hw.2, List.drop_zero, Nat.sub_zero, ← hu, List.take_length]
    rw [e _ rs.len] at q3
    exact rz_now q3 hH3 r3
  · unfold RW at r3
    obtain ⟨p, rfl, s⟩ := r3
    have s' := below_L hH3 s
    rw [← hK] at s'
    exact .inr (.inr ⟨p, _, rfl, s', fun p' hp' => mkL_ok hH3 hp' (cutW_ok (RWs.ints _)) q3⟩)
  · split at q3
    · rename_i ws e1
      obtain ⟨p, vs, rfl, s, rs⟩ := lview_ok hH3 r3 e1
      exact .inr (.inr ⟨p, vs, rfl, SqL.of s, fun p' hp' => mkL_ok hH3 hp' (cutW_ok rs) q3⟩)
    · exact q3.elim
end

/-! ### attributes of instances -/
def slook : List Str → List W → Str → Option W
  | k :: ks, w :: ws, j => if k = j then some w else slook ks ws j
  | _, _, _ => none
def wFld (cs : List Nat) (f : Str) (x : W) (h : HS) : R W := match x with
  | .box n => match h.at_ n with
    | some (.ins c ks ws) => if cs.contains c then (match slook ks ws f with
      | some w => .ok w h
      | none => .no) else .no
    | _ => .no
  | _ => .no
section
variable {Γ : Γ} {Wx : WX} {X : Cx} {g : G} {h : HS} {H : Hp}
theorem slook_ok {K : PySem.W.Frag} : ∀ {ks : List Str} {ws : List W} {vs : List V} {j : Str} {w : W}, RWs K g ws vs → slook ks ws j = some w → ∃ v, (ks.zip vs).lookup j = some v ∧ RW K g w v
  | [], _, _, _, _, _, e => by simp [slook] at e
  | k :: ks, [], _, _, _, _, e => by simp [slook] at e
  | k :: ks, w :: ws, _, j, w', r, e => by
    unfold RWs at r
    obtain ⟨v, vr, rfl, r1, rs⟩ := r
    unfold slook at e
    rw [List.zip_cons_cons, List.lookup_cons]
    by_cases hj : k = j
    · rw [if_pos hj] at e
      cases e
      subst hj
      simp only [beq_self_eq_true]
      exact ⟨v, rfl, r1⟩
    · rw [if_neg hj] at e
      have : (j == k) = false := beq_eq_false_iff_ne.mpr (fun z => hj z.symm)
      rw [this]
      exact slook_ok rs e
theorem e_fld {a : Expr} {f : Str} {fa : Ex} {pos : Pos} (hK : X.K = Γ.K) (cs : List Nat) (hc : ∀ c ∈ cs, Cls Γ.K (Γ.cls c) ∧ NoAttr Γ.K (Γ.cls c) f) (ha : PE X a (RDE Γ Wx fa)) (hb : attributeBase a f X.env (eval a X.env) = eval a X.env := by rfl) :
    PE X (.Attribute a f pos) (RDE Γ Wx (eUn (wFld cs f) fa)) := by
  refine PE.imp (pe_fld ha hb) fun σ H Q ⟨g, sl, h, hH, hS, q⟩ => ?_
  refine RDE.mono (fun v H1 ⟨g1, h1, w1, l1, hH1, r1, q1⟩ => ?_) (RDE.step hH hS q)
  unfold wFld at q1
  split at q1
  · rename_i n
    split at q1
    · rename_i c ks ws ec
      split at q1
      · rename_i hcs
        split at q1
        · rename_i w ew
          unfold RW at r1
          obtain ⟨hn, rfl⟩ := r1
          obtain ⟨_, _, dx, vs, hl, e1, rs⟩ := hH1.cell n _ ec
          obtain ⟨v, e2, rv⟩ := slook_ok rs ew
          obtain ⟨c1, c2⟩ := hc c (List.contains_iff_mem.mp hcs)
          rw [hK]
          exact ⟨_, _, dx, _, v, rfl, e1, c1, c2, e2, rz_now q1 hH1 rv⟩
        · exact q1.elim
      · exact q1.elim
    · exact q1.elim
  · exact q1.elim
end
end Pk
end

/-! PkG -/
section
set_option Elab.async false
set_option linter.all false
set_option maxRecDepth 100000
namespace Pk
open PySem PySem.Spec L2

/-! ### calls of built-ins, by values -/
def CallS (Γ : Γ) (Wx : WX) (X : Cx) (f : Value) (m : List W → HS → R W) : Prop :=
  ∃ r : List V → Hp → VK → Prop, CallR X f r ∧ ∀ {g : G} {h : HS} {H : Hp} {σ : L2.St} {xs : List W} {vs : List V} {Q : VK}, RH Γ g h H → RWs Γ.K g xs vs → Rz Γ Wx (RW Γ.K) g (m xs h) σ Q → r vs H Q
def eCallB (m : List W → HS → R W) (fr : Ax) : Ex := fun sl h => (fr sl h).bind fun xs h1 => m xs h1
section
variable {Γ : Γ} {Wx : WX} {X : Cx} {x : Str} {p pos : Pos} {e : Expr} {es : List Expr} {fr : Ax} {id T : String} {m : List W → HS → R W}
theorem e_callB (o : CallS Γ Wx X (.builtin id) m) (hg : Gl X x) (hm : X.mg x = none) (hv : bootBuiltins x = some (.builtin id)) (ha : PA X (e :: es) (RDA Γ Wx fr)) (hn : x ≠ "__name__" := by decide) (hdb : (x == ("__debug__" : Str)) = false := by decide)
    (he : starEach (e :: es) X.env = (false, eval e X.env) :: starEach es X.env := by rfl) (hpl : (backTo pos (starEach es X.env)).any (·.1) = false := by rfl) : PE X (.Call (.Name x p) (e :: es) [] pos) (RDE Γ Wx (eCallB m fr)) := by
  obtain ⟨r, o1, o2⟩ := o
  refine PE.imp (pe_callB o1 hg hm hv ha hn hdb he hpl) fun σ H Q ⟨g, sl, h, hH, hS, q⟩ => ?_
  exact RDA.mono (fun v H1 ⟨g1, h1, w1, l1, hH1, r1, q1⟩ => o2 hH1 r1 q1) (RDA.step hH hS q)
theorem e_callTy (o : CallS Γ Wx X (.type T) m) (hg : Gl X x) (hm : X.mg x = none) (hv : bootBuiltins x = some (.type T)) (ha : PA X (e :: es) (RDA Γ Wx fr)) (hn : x ≠ "__name__" := by decide) (hdb : (x == ("__debug__" : Str)) = false := by decide)
    (he : starEach (e :: es) X.env = (false, eval e X.env) :: starEach es X.env := by rfl) (hpl : (backTo pos (starEach es X.env)).any (·.1) = false := by rfl) : PE X (.Call (.Name x p) (e :: es) [] pos) (RDE Γ Wx (eCallB m fr)) := by
  obtain ⟨r, o1, o2⟩ := o
  refine PE.imp (pe_callTy o1 hg hm hv ha hn hdb he hpl) fun σ H Q ⟨g, sl, h, hH, hS, q⟩ => ?_
  exact RDA.mono (fun v H1 ⟨g1, h1, w1, l1, hH1, r1, q1⟩ => o2 hH1 r1 q1) (RDA.step hH hS q)
end

def m_len (xs : List W) (h : HS) : R W := match xs with
  | [.str z] => if z.length ≤ sizeLine then .ok (.int z.length) h else .no
  | [x] => match sview h x with
    | some ws => .ok (.int ws.length) h
    | none => match dview h x with
      | some (ks, _) => if ks.all isK = true ∧ ks ≠ [] then .ok (.int ks.length) h else .no
      | none => .no
  | _ => .no
def m_abs (xs : List W) (h : HS) : R W := match xs with
  | [.int i] => .ok (.int (if i < 0 then -i else i)) h
  | _ => .no
def m_int (xs : List W) (h : HS) : R W := match xs with
  | [.int i] => .ok (.int i) h
  | [.bl k] => .ok (.int (if k then 1 else 0)) h
  | [.str a] => match PySem.intText? a with
    | some n => if a.length ≤ 640 then .ok (.int n) h else .no
    | none => .no
  | _ => .no
def m_str (xs : List W) (h : HS) : R W := match xs with
  | [.int i] => if i.natAbs.log2 < 1920 then .ok (.str (toString i)) h else .no
  | _ => .no
def m_tuple (xs : List W) (h : HS) : R W := match xs with
  | [.tup ws] => .ok (.tup ws) h
  | [.kt ws] => .ok (.kt ws) h
  | [x] => match lview h x with
    | some ws => .ok (.tup ws) h
    | none => .no
  | _ => .no
def unK : DK → Option W
  | .k (.inl i) => some (.int i)
  | .k (.inr x) => some (.str x)
  | .t _ => none
def unKs : List DK → Option (List W)
  | [] => some []
  | k :: ks => match unK k, unKs ks with
    | some w, some ws => some (w :: ws)
    | _, _ => none
def m_list (bx : Bool) (xs : List W) (h : HS) : R W := match xs with
  | [x] => match sview h x with
    | some ws => mkL bx ws h
    | none => match dview h x with
      | some (ks, _) => match unKs ks with
        | some ws => if ks ≠ [] then mkL bx ws h else .no
        | none => .no
      | none => .no
  | _ => .no
def intsOf : List W → Option (List Int)
  | [] => some []
  | .int i :: ws => (intsOf ws).map (i :: ·)
  | _ => none
def m_max2 (xs : List W) (h : HS) : R W := match xs with
  | [.int i, .int j] => .ok (.int (if j > i then j else i)) h
  | _ => .no
def m_min2 (xs : List W) (h : HS) : R W := match xs with
  | [.int i, .int j] => .ok (.int (if j < i then j else i)) h
  | _ => .no
instance instDecNeK (a : List DK) : Decidable (a ≠ []) := match a with
  | [] => .isFalse fun h => h rfl
  | _ :: _ => .isTrue fun h => by cases h
section
variable {Γ : Γ} {Wx : WX} {X : Cx} {g : G} {h : HS} {H : Hp}
theorem rws1 {K : PySem.W.Frag} {x : W} {vs : List V} (r : RWs K g [x] vs) : ∃ v, vs = [v] ∧ RW K g x v := by
  unfold RWs at r
  obtain ⟨v, vr, rfl, r1, rs⟩ := r
  unfold RWs at rs
  subst rs
  exact ⟨v, rfl, r1⟩
theorem rws2 {K : PySem.W.Frag} {x y : W} {vs : List V} (r : RWs K g [x, y] vs) : ∃ v u, vs = [v, u] ∧ RW K g x v ∧ RW K g y u := by
  unfold RWs at r
  obtain ⟨v, vr, rfl, r1, rs⟩ := r
  obtain ⟨u, rfl, r2⟩ := rws1 rs
  exact ⟨v, u, rfl, r1, r2⟩
theorem call_len_R : CallR X (.builtin "len") (fun xs H Q => ∃ (a : Addr) (kvs : List (Key × V)), xs = [.ref a] ∧ Rd H a (.dK kvs) ∧ Q (.int kvs.length) H) := by
  rintro pins s σ H xs us Q I r ⟨a, kvs, rfl, e, q⟩
  cases r with
  | cons r1 rs =>
    cases rs
    cases r1
    exact d_len I e fun t s' I' => ⟨.int kvs.length, H, I', ⟨t, rfl⟩, q⟩
theorem c_len (hK : X.K = Γ.K) : CallS Γ Wx X (.builtin "len") m_len := by
  refine ⟨_, call_len_str.or (call_len_seq.or call_len_R), fun {g h H σ xs vs Q} hH r q => ?_⟩
  unfold m_len at q
  split at q
  · split at q
    · rename_i hl
      obtain ⟨v, rfl, r1⟩ := rws1 r
      cases rstr r1
      exact .inl ⟨_, rfl, hl, rz_now q hH (mint _)⟩
    · exact q.elim
  · obtain ⟨v, rfl, r1⟩ := rws1 r
    split at q
    · rename_i ws e
      obtain ⟨p, us, rfl, s, rs⟩ := sview_ok hH r1 e
      rw [← hK] at s
      refine .inr (.inl ⟨p, us, rfl, s, ?_⟩)
      rw [← rs.len]
      exact rz_now q hH (mint _)
    · split at q
      · rename_i ks ws e
        split at q
        · rename_i hc
          obtain ⟨p, us, rfl, d, rs⟩ := dview_ok hH r1 e
          obtain ⟨kvs, e1, hk, hv⟩ := all_isK hc.1 hc.2 d
          refine .inr (.inr ⟨p, kvs, rfl, e1, ?_⟩)
          have : kvs.length = ks.length := by rw [hk, List.length_map]
          rw [this]
          exact rz_now q hH (mint _)
        · exact q.elim
      · exact q.elim
  · exact q.elim
theorem c_abs : CallS Γ Wx X (.builtin "abs") m_abs := by
  refine ⟨_, call_abs, fun {g h H σ xs vs Q} hH r q => ?_⟩
  unfold m_abs at q
  split at q
  · obtain ⟨v, rfl, r1⟩ := rws1 r
    cases rint r1
    exact ⟨_, rfl, rz_now q hH (mint _)⟩
  · exact q.elim
theorem c_int : CallS Γ Wx X (.type "int") m_int := by
  refine ⟨_, call_int1.or call_int_str, fun {g h H σ xs vs Q} hH r q => ?_⟩
  unfold m_int at q
  split at q
  · obtain ⟨v, rfl, r1⟩ := rws1 r
    cases rint r1
    exact .inl (.inl ⟨_, rfl, rz_now q hH (mint _)⟩)
  · obtain ⟨v, rfl, r1⟩ := rws1 r
    cases rbl r1
    exact .inl (.inr ⟨_, rfl, rz_now q hH (mint _)⟩)
  · split at q
    · rename_i n e
      split at q
      · rename_i hl
        obtain ⟨v, rfl, r1⟩ := rws1 r
        cases rstr r1
        exact .inr ⟨_, n, rfl, e, hl, rz_now q hH (mint _)⟩
      · exact q.elim
    · exact q.elim
  · exact q.elim
theorem c_str : CallS Γ Wx X (.type "str") m_str := by
  refine ⟨_, call_str_int, fun {g h H σ xs vs Q} hH r q => ?_⟩
  unfold m_str at q
  split at q
  · split at q
    · rename_i hl
      obtain ⟨v, rfl, r1⟩ := rws1 r
      cases rint r1
      exact ⟨_, rfl, hl, rz_now q hH (mstr _)⟩
    · exact q.elim
  · exact q.elim
theorem c_tuple (hK : X.K = Γ.K) : CallS Γ Wx X (.type "tuple") m_tuple := by
  refine ⟨_, call_tuple_of, fun {g h H σ xs vs Q} hH r q => ?_⟩
  unfold m_tuple at q
  split at q
  · obtain ⟨v, rfl, r1⟩ := rws1 r
    obtain ⟨p, us, rfl, s, rs⟩ := tup_ok hH r1
    rw [← hK] at s
    exact ⟨p, us, rfl, .inr ⟨s, rz_now q hH r1⟩⟩
  · obtain ⟨v, rfl, r1⟩ := rws1 r
    obtain ⟨p, us, rfl, s, rs⟩ := kt_ok hH r1
    rw [← hK] at s
    exact ⟨p, us, rfl, .inr ⟨s, rz_now q hH r1⟩⟩
  · obtain ⟨v, rfl, r1⟩ := rws1 r
    split at q
    · rename_i ws e
      obtain ⟨p, us, rfl, s, rs⟩ := lview_ok hH r1 e
      exact ⟨p, us, rfl, .inl ⟨SqL.of s, fun l hl => mkT_ok hH hl rs q⟩⟩
    · exact q.elim
  · exact q.elim
theorem unKs_ok {K : PySem.W.Frag} : ∀ {kvs : List (Key × V)} {ws : List W}, unKs (kvs.map fun p => DK.k p.1) = some ws → RWs K g ws (kvs.map fun kv => kV kv.1)
  | [], _, e => by cases e; exact .nil
  | p :: kvs, _, e => by
    rw [List.map_cons] at e ⊢
    unfold unKs at e
    split at e
    · rename_i w ws e1 e2
      cases e
      refine .cons ?_ (unKs_ok e2)
      obtain ⟨k, v⟩ := p
      cases k with
      | inl i => cases e1; exact mint _
      | inr i => cases e1; exact mstr _
    · cases e
theorem c_list (bx : Bool) (hK : X.K = Γ.K) (hc : X.calm = true) : CallS Γ Wx X (.type "list") (m_list bx) := by
  refine ⟨_, call_list_of.or (call_listD hc), fun {g h H σ xs vs Q} hH r q => ?_⟩
  unfold m_list at q
  split at q
  · obtain ⟨v, rfl, r1⟩ := rws1 r
    split at q
    · rename_i ws e
      obtain ⟨p, us, rfl, s, rs⟩ := sview_ok hH r1 e
      rw [← hK] at s
      exact .inl ⟨p, us, rfl, s, fun l hl => mkL_ok hH hl rs q⟩
    · split at q
      · rename_i ks ws' e
        split at q
        · rename_i ws e2
          split at q
          · rename_i hn
            obtain ⟨p, us, rfl, d, rs⟩ := dview_ok hH r1 e
            have hk : ks.all isK = true := by
              clear e hn d rs q
              induction ks generalizing ws with
              | nil => rfl
              | cons k ks ih =>
                unfold unKs at e2
                split at e2
                · rename_i w ws2 a1 a2
                  rw [List.all_cons, ih _ a2]
                  cases k with
                  | k _ => rfl
                  | t _ => cases a1
                · cases e2
            obtain ⟨kvs, e1, hk, hv⟩ := all_isK hk hn d
            subst hk
            exact .inr ⟨p, kvs, rfl, e1, fun l hl => mkL_ok hH hl (unKs_ok e2) q⟩
          · exact q.elim
        · exact q.elim
      · exact q.elim
  · exact q.elim
theorem c_max2 (hc : X.calm = true) : CallS Γ Wx X (.builtin "max") m_max2 := by
  refine ⟨_, call_max2 hc, fun {g h H σ xs vs Q} hH r q => ?_⟩
  unfold m_max2 at q
  split at q
  · obtain ⟨v, u, rfl, r1, r2⟩ := rws2 r
    cases rint r1; cases rint r2
    exact ⟨_, _, rfl, rz_now q hH (mint _)⟩
  · exact q.elim
theorem c_min2 (hc : X.calm = true) : CallS Γ Wx X (.builtin "min") m_min2 := by
  refine ⟨_, call_min2 hc, fun {g h H σ xs vs Q} hH r q => ?_⟩
  unfold m_min2 at q
  split at q
  · obtain ⟨v, u, rfl, r1, r2⟩ := rws2 r
    cases rint r1; cases rint r2
    exact ⟨_, _, rfl, rz_now q hH (mint _)⟩
  · exact q.elim
end

/-! ### one's own defs -/
def spM (Γ : Γ) (n : Nat) (m : List W → HS → R W) : Sp := fun vs H Q E => vs.length = n ∧ ∃ g h ws, RH Γ g h H ∧ RWs Γ.K g ws vs ∧ (match m ws h with
  | .ok w h' => ∀ g' v H', g.le g' → RH Γ g' h' H' → RW Γ.K g' w v → Q v H'
  | .exc c h' => ∀ g' H', g.le g' → RH Γ g' h' H' → E (.ref (Γ.cls c)) none H'
  | .no => False)
def go (n : Nat) (m : List W → HS → R W) (xs : List W) (h : HS) : R W := if xs.length = n then m xs h else .no
def eCall (n : Nat) (m : List W → HS → R W) (ds : List W) (fr : Ax) : Ex := fun sl h => (fr sl h).bind fun xs h1 => go n m (xs ++ ds) h1
def insOf (c : Nat) (name : Str) (x : W) (h : HS) : Bool := match x with
  | .box n => match h.at_ n with
    | some (.ins c' ks ws) => c == c' && !ks.contains name
    | _ => false
  | _ => false
def eMeth (c : Nat) (name : Str) (n : Nat) (m : List W → HS → R W) (ds : List W) (fo : Ex) (fr : Ax) : Ex := fun sl h => (fo sl h).bind fun x h1 => if insOf c name x h1 then (fr sl h1).bind fun xs h2 => go n m (x :: (xs ++ ds)) h2 else .no
def eMake (c : Nat) (n : Nat) (m : List W → HS → R W) (ds : List W) (fr : Ax) : Ex := fun sl h => (fr sl h).bind fun xs h1 => (go n m (.box h1.nx :: (xs ++ ds)) (h1.new (.ins c [] []))).bind fun r h2 => if isNon r then .ok (.box h1.nx) h2 else .no
section
variable {Γ : Γ} {Wx : WX} {X : Cx} {g : G} {h : HS} {H : Hp} {k : Nat} {f : Addr} {fd : FuncData} {ps : List Str} {n : Nat} {m : List W → HS → R W} {dvs : List V} {ds : List Value} {dws : List W} {x : Str} {p pos apos : Pos} {e o : Expr} {es : List Expr} {fr : Ax} {fo : Ex}
theorem sp_of {σ : L2.St} {ws : List W} {vs : List V} {Q : VK} (hH : RH Γ g h H) (r : RWs Γ.K g ws vs) (q : Rz Γ Wx (RW Γ.K) g (go n m ws h) σ Q) : spM Γ n m vs H Q (WE Wx σ) := by
  unfold go at q
  split at q
  · rename_i hn
    refine ⟨by rw [← r.len]; exact hn, g, h, ws, hH, r, ?_⟩
    cases hm : m ws h with
    | ok w h' => rw [hm] at q; exact q
    | exc c h' => rw [hm] at q; exact q
    | no => rw [hm] at q; exact q
  · exact q.elim
theorem e_call (F : FnOk X.prog X.w X.K X.mg X.base (L2.CX X.prog X.w) k f fd ps (spM Γ n m)) (hr : Room k X.A) (hm : X.mg x = some (.ref f)) (hk : PySem.W.keepIn X.K (.ref f) = true) (hb : Binds X.K fd ps ds) (hd : Vals dvs ds) (rd : ∀ g, RWs Γ.K g dws dvs) (tk : Takes X Wx)
    (ha : PA X (e :: es) (RDA Γ Wx fr)) (hg : Gl X x := by rfl) (hdb : (x == ("__debug__" : Str)) = false := by decide)
    (he : starEach (e :: es) X.env = (false, eval e X.env) :: starEach es X.env := by rfl) (hpl : (backTo pos (starEach es X.env)).any (·.1) = false := by rfl) :
    PE X (.Call (.Name x p) (e :: es) [] pos) (RDE Γ Wx (eCall n m dws fr)) := by
  refine PE.imp (pe_callSD (E := WE Wx) F hr hg hm hk hb hd (fun σ => passAt tk σ) ha hdb he hpl) fun σ H Q ⟨g, sl, h, hH, hS, q⟩ => ?_
  exact RDA.mono (fun v H1 ⟨g1, h1, w1, l1, hH1, r1, q1⟩ => sp_of hH1 (r1.app (rd g1)) q1) (RDA.step hH hS q)
theorem e_call0 (F : FnOk X.prog X.w X.K X.mg X.base (L2.CX X.prog X.w) k f fd ps (spM Γ n m)) (hr : Room k X.A) (hm : X.mg x = some (.ref f)) (hk : PySem.W.keepIn X.K (.ref f) = true) (hb : Binds X.K fd ps ds) (hd : Vals dvs ds) (rd : ∀ g, RWs Γ.K g dws dvs) (tk : Takes X Wx)
    (hg : Gl X x := by rfl) (hdb : (x == ("__debug__" : Str)) = false := by decide) :
    PE X (.Call (.Name x p) [] [] pos) (RDE Γ Wx (eCall n m dws aNil)) := by
  refine ⟨fun pins s σ H Q I ⟨g, sl, h, hH, hS, q⟩ => ?_⟩
  refine wpAny_Call_Name_kw (ld_glob I hg hm ?_ hdb)
  exact PySem.W.callWith_K0 I.kIn hk (run_fnSD (E := WE Wx) (us := []) (vs := []) F hr hb hd (passAt tk σ) I .nil (sp_of hH (rd g) q))
theorem ins_ok {c : Nat} {name : Str} {w : W} {v : V} (hH : RH Γ g h H) (r : RW Γ.K g w v) (e : insOf c name w h = true) : ∃ a dx fs, v = .ref a ∧ H a = some (.ins (Γ.cls c) dx fs) ∧ fs.lookup name = none := by
  unfold insOf at e
  split at e
  · rename_i n
    split at e
    · rename_i c' ks ws ec
      rw [Bool.and_eq_true, Bool.not_eq_true'] at e
      obtain ⟨e1, e2⟩ := e
      have e1 := beq_iff_eq.mp e1
      subst e1
      unfold RW at r
      obtain ⟨hn, rfl⟩ := r
      obtain ⟨_, _, dx, vs, hl, e3, rs⟩ := hH.cell n _ ec
      refine ⟨_, dx, _, rfl, e3, ?_⟩
      cases q : (ks.zip vs).lookup name with
      | none => rfl
      | some v =>
        have hm := PySem.mem_of_lookup q
        have := (List.of_mem_zip hm).1
        have : ks.contains name = true := List.contains_iff_mem.mpr this
        rw [this] at e2
        cases e2
    · cases e
  · cases e
theorem e_meth {pl : Sem Bool} {c : Nat} {mn : Str} (F : FnOk X.prog X.w X.K X.mg X.base (L2.CX X.prog X.w) k f fd ps (spM Γ n m)) (hr : Room k X.A) (hK : X.K = Γ.K) (cl : Cls X.K (Γ.cls c)) (hm : Meth X.K (Γ.cls c) mn f) (hb : Binds X.K fd ps ds) (hd : Vals dvs ds) (rd : ∀ g, RWs Γ.K g dws dvs) (tk : Takes X Wx)
    (ho : PE X o (RDE Γ Wx fo)) (ha : PA X (e :: es) (RDA Γ Wx fr))
    (hst : starEach (e :: es) X.env = (false, eval e X.env) :: starEach es X.env := by rfl) (hpl : (backTo pos (starEach es X.env)).any (·.1) = false := by rfl)
    (ht : eval (.Call (.Attribute o mn apos) (e :: es) [] pos) X.env = (do
      let ov ← eval o X.env
      standAt apos.atName
      let (f, first) ← holding [ov] (getMethod ov mn pl)
      callWith pos f first (backTo pos (starEach (e :: es) X.env)) (backToKw pos (keywordEach [] X.env))) := by rfl) :
    PE X (.Call (.Attribute o mn apos) (e :: es) [] pos) (RDE Γ Wx (eMeth c mn n m dws fo fr)) := by
  refine ⟨fun pins s σ H Q I ⟨g, sl, h, hH, hS, q⟩ => ?_⟩
  refine PySem.W.methodCall_KW (pl := pl) (thn (ho.run pins s σ H _ I (RDE.step hH hS q)) fun u s1 ⟨x, H1, I1, rx, g1, h1, w1, l1, hH1, r1, q1⟩ => ?_) ht
  by_cases hi : insOf c mn w1 h1 = true
  · rw [if_pos hi] at q1
    obtain ⟨a, dx, fs, rfl, ea, l⟩ := ins_ok hH1 r1 hi
    obtain rfl : u = Value.ref a := rx
    refine getmeth_ok I1 ea cl hm l ?_
    refine PySem.W.callWith_K (first := [.ref a]) (h₀ := X.base) I.ok.mod.kin hm.kp (thn (ha.run pos pins s1 σ H1 _ I1 (RDA.step hH1 (SLk.mono l1 hS) q1)) fun us s2 ⟨vs, H2, I2, r, g2, h2, w2, l2, hH2, r2, q2⟩ => ⟨I2.kIn, ?_⟩) hst hpl
    exact run_fnSD (E := WE Wx) (us := .ref a :: us) (vs := .ref a :: vs) F hr hb hd (passAt tk σ) I2 (.cons rfl r) (sp_of hH2 (.cons (RW.mono l2 _ _ r1) (r2.app (rd g2))) q2)
  · rw [if_neg hi] at q1
    exact q1.elim
theorem e_meth0 {pl : Sem Bool} {c : Nat} {mn : Str} (F : FnOk X.prog X.w X.K X.mg X.base (L2.CX X.prog X.w) k f fd ps (spM Γ n m)) (hr : Room k X.A) (hK : X.K = Γ.K) (cl : Cls X.K (Γ.cls c)) (hm : Meth X.K (Γ.cls c) mn f) (hb : Binds X.K fd ps ds) (hd : Vals dvs ds) (rd : ∀ g, RWs Γ.K g dws dvs) (tk : Takes X Wx)
    (ho : PE X o (RDE Γ Wx fo))
    (ht : eval (.Call (.Attribute o mn apos) [] [] pos) X.env = (do
      let ov ← eval o X.env
      standAt apos.atName
      let (f, first) ← holding [ov] (getMethod ov mn pl)
      callWith pos f first (backTo pos (starEach [] X.env)) (backToKw pos (keywordEach [] X.env))) := by rfl) :
    PE X (.Call (.Attribute o mn apos) [] [] pos) (RDE Γ Wx (eMeth c mn n m dws fo aNil)) := by
  refine ⟨fun pins s σ H Q I ⟨g, sl, h, hH, hS, q⟩ => ?_⟩
  refine PySem.W.methodCall_KW (pl := pl) (thn (ho.run pins s σ H _ I (RDE.step hH hS q)) fun u s1 ⟨x, H1, I1, rx, g1, h1, w1, l1, hH1, r1, q1⟩ => ?_) ht
  by_cases hi : insOf c mn w1 h1 = true
  · rw [if_pos hi] at q1
    obtain ⟨a, dx, fs, rfl, ea, l⟩ := ins_ok hH1 r1 hi
    obtain rfl : u = Value.ref a := rx
    refine getmeth_ok I1 ea cl hm l ?_
    exact PySem.W.callWith_K0 (first := [.ref a]) I1.kIn hm.kp (run_fnSD (E := WE Wx) (us := [.ref a]) (vs := [.ref a]) F hr hb hd (passAt tk σ) I1 (.cons rfl .nil) (sp_of hH1 (.cons r1 (rd g1)) q1))
  · rw [if_neg hi] at q1
    exact q1.elim
/-- a new instance, __init__ at the slots -/
theorem run_makeS {CX : CXT} {C : Addr} {sp : Sp} {E : L2.St → XK} {pins : List (Addr × Obj)} {σ : L2.St} {s : Shared} {Q : VK} {us : List Value} {vs : List V} (M : Mk X.K C f) (F : FnOk X.prog X.w X.K X.mg X.base CX k f fd ps sp) (hr : Room (k + 1) X.A) (hb : Binds X.K fd ps ds) (hd : Vals dvs ds)
    (hx : PassesAt CX X σ (E σ)) (I : Inv X pins σ H s) (r : Vals vs us)
    (h : ∀ x dx, H x = none → H dx = none → dx ≠ x → sp (.ref x :: (vs ++ dvs)) (upd (upd H dx (.own x)) x (.ins C dx [])) (fun v H2 => v = .non ∧ Q (.ref x) H2) (E σ)) :
    wpAny (model X.prog X.w) X.A (call (.ref C) us) (EP X pins σ Q) X.xe s := by
  have hq := h (s.heap.objs.size + 1) s.heap.objs.size (I.hok.fresh (Nat.le_succ _)) (I.hok.fresh (Nat.le_refl _)) (Nat.ne_of_lt (Nat.lt_succ_self _))
  have I2 := Inv.made (C := C) I
  have r2 : Vals (V.ref (s.heap.objs.size + 1) :: (vs ++ dvs)) (Value.ref (s.heap.objs.size + 1) :: (us ++ ds)) := .cons rfl (r.append hd)
  have hl : (Value.ref (s.heap.objs.size + 1) :: us ++ ds).length = ps.length := by
    have e := r2.length
    rw [F.len _ _ _ _ hq] at e
    exact e.symm
  refine wpAny_call (make_map (f := f) I.kIn M.makes M.init (beq_iff_eq.mp M.fn) (codeAny_mono (F.run _ X.stack _ _ ⟨Value.ref (s.heap.objs.size + 1) :: us, []⟩ (Value.ref (s.heap.objs.size + 1) :: (us ++ ds)) _ _ (E σ) (hr.make C us [])
    (I2.env0.make C us []) (hb _ (Value.ref (s.heap.objs.size + 1) :: us) I2.kIn hl) r2 hq) fun r s' hq' => ?_))
  cases r with
  | error e => exact hx pins _ _ e s' I2 hq'
  | ok fl =>
    cases fl with
    | ret u =>
      obtain ⟨v, H', I3, rv, ev, q3⟩ := I2.after hq'
      subst ev
      exact ⟨rv, ⟨V.ref (s.heap.objs.size + 1), H', I3, rfl, q3⟩⟩
    | next => exact False.elim hq'
    | brk => exact False.elim hq'
    | cont => exact False.elim hq'
theorem make_rd {c : Nat} {σ : L2.St} {Q : VK} {xs : List W} {vs : List V} (hH : RH Γ g h H) (r : RWs Γ.K g xs vs) (rd : ∀ g, RWs Γ.K g dws dvs)
    (q : Rz Γ Wx (RW Γ.K) g ((go n m (.box h.nx :: (xs ++ dws)) (h.new (.ins c [] []))).bind fun r h2 => if isNon r then .ok (.box h.nx) h2 else .no) σ Q) :
    ∀ x dx, H x = none → H dx = none → dx ≠ x → spM Γ n m (.ref x :: (vs ++ dvs)) (upd (upd H dx (.own x)) x (.ins (Γ.cls c) dx [])) (fun v H2 => v = .non ∧ Q (.ref x) H2) (WE Wx σ) := by
  intro x dx hx hdx hne
  have y := hH.aux hdx (.own x)
  have hx' : upd H dx (.own x) x = none := by rw [upd_ne hne.symm]; exact hx
  obtain ⟨l, z, rb⟩ := y.box (c := .ins c [] []) (o := .ins (Γ.cls c) dx []) hx' ⟨dx, [], rfl, upd_same, .nil⟩
  refine sp_of (n := n) z (.cons rb ((RWs.mono l _ _ r).app (rd _))) (Rz.mono (fun v H2 ⟨g2, h2, w2, l2, hH2, r2, q2⟩ => ?_) (rz_step (Rz.le l q)))
  by_cases hi : isNon w2 = true
  · rw [if_pos hi] at q2
    refine ⟨?_, rz_now q2 hH2 (RW.mono l2 _ _ rb)⟩
    rw [isNon_ok r2] at hi
    exact of_decide_eq_true hi
  · rw [if_neg hi] at q2
    exact q2.elim
theorem e_make {c : Nat} (M : Mk X.K (Γ.cls c) f) (F : FnOk X.prog X.w X.K X.mg X.base (L2.CX X.prog X.w) k f fd ps (spM Γ n m)) (hr : Room (k + 1) X.A) (hm : X.mg x = some (.ref (Γ.cls c))) (hb : Binds X.K fd ps ds) (hd : Vals dvs ds) (rd : ∀ g, RWs Γ.K g dws dvs) (tk : Takes X Wx)
    (ha : PA X (e :: es) (RDA Γ Wx fr)) (hg : Gl X x := by rfl) (hdb : (x == ("__debug__" : Str)) = false := by decide)
    (he : starEach (e :: es) X.env = (false, eval e X.env) :: starEach es X.env := by rfl) (hpl : (backTo pos (starEach es X.env)).any (·.1) = false := by rfl) :
    PE X (.Call (.Name x p) (e :: es) [] pos) (RDE Γ Wx (eMake c n m dws fr)) := by
  refine ⟨fun pins s σ H Q I ⟨g, sl, h, hH, hS, q⟩ => ?_⟩
  refine wpAny_Call_Name_kw (ld_glob I hg hm ?_ hdb)
  refine PySem.W.callWith_K (h₀ := X.base) I.ok.mod.kin M.kp (thn (ha.run pos pins s σ H _ I (RDA.step hH hS q)) fun us s1 ⟨vs, H1, I1, r, g1, h1, w1, l1, hH1, r1, q1⟩ => ⟨I1.kIn, ?_⟩) he hpl
  exact run_makeS (E := WE Wx) M F hr hb hd (passAt tk σ) I1 r (make_rd hH1 r1 rd q1)
theorem e_make0 {c : Nat} (M : Mk X.K (Γ.cls c) f) (F : FnOk X.prog X.w X.K X.mg X.base (L2.CX X.prog X.w) k f fd ps (spM Γ n m)) (hr : Room (k + 1) X.A) (hm : X.mg x = some (.ref (Γ.cls c))) (hb : Binds X.K fd ps ds) (hd : Vals dvs ds) (rd : ∀ g, RWs Γ.K g dws dvs) (tk : Takes X Wx)
    (hg : Gl X x := by rfl) (hdb : (x == ("__debug__" : Str)) = false := by decide) :
    PE X (.Call (.Name x p) [] [] pos) (RDE Γ Wx (eMake c n m dws aNil)) := by
  refine ⟨fun pins s σ H Q I ⟨g, sl, h, hH, hS, q⟩ => ?_⟩
  refine wpAny_Call_Name_kw (ld_glob I hg hm ?_ hdb)
  exact PySem.W.callWith_K0 I.kIn M.kp (run_makeS (E := WE Wx) (us := []) (vs := []) M F hr hb hd (passAt tk σ) I .nil (make_rd hH .nil rd q))

/-- a def by its body -/
def bodyM (N : Nat) (f : Sx) (ws : List W) (h : HS) : R W := match f (ws.map some ++ List.replicate (N - ws.length) none) h with
  | .nx _ h' => .ok .non h'
  | .rt w h' => .ok w h'
  | .exc c _ h' => .exc c h'
  | _ => .no
theorem slk_start {N : List Str} {ws : List W} {vs : List V} (r : RWs Γ.K g ws vs) : SLk Γ g (ws.map some ++ List.replicate (N.length - ws.length) none) (L2.start N vs) := by
  intro i w e
  by_cases hi : i < ws.length
  · rw [List.getElem?_append_left (by simpa using hi), List.getElem?_map] at e
    cases q : ws[i]? with
    | none => rw [q] at e; cases e
    | some w' =>
      rw [q] at e
      cases e
      obtain ⟨v, e1, r1⟩ := r.get q
      refine ⟨v, ?_, r1⟩
      unfold L2.start
      rw [List.getElem?_append_left (by rw [List.length_map, ← r.len]; exact hi), List.getElem?_map, e1]
      rfl
  · rw [List.getElem?_append_right (by simpa using hi), List.getElem?_replicate] at e
    split at e <;> cases e
theorem start_len {N : List Str} {vs : List V} (h : vs.length ≤ N.length) : (L2.start N vs).length = N.length := by
  unfold L2.start
  rw [List.length_append, List.length_map, List.length_replicate]
  omega
theorem fn_ok {P : Program} {w : World} {K : PySem.W.Frag} {mg : Str → Option Value} {base : Heap} {x qual : Str} {st : Stmt} {f : Addr} {fd : FuncData} {N ps : List Str} {k : Nat} {b : Sx} (F : Fun K x qual st f fd) (S : FnScope N ps (defScope st))
    (hn : n = ps.length) (hb : ∀ (cdv : Value) (A : Around) (outer : List Env) (s : Shared) (H : Hp) (E : XK), Room k (A.deeper (PyProof.Rows.envOfC qual (defScope st) s.heap.objs.size f cdv)) →
      Takes (cxOf (L2.CX P w) P w K mg base N qual (defScope st) f cdv A outer s H E) (fun c d _ H' => E c d H') → PSs (cxOf (L2.CX P w) P w K mg base N qual (defScope st) f cdv A outer s H E) (defBody st) (RDS Γ (fun c d _ H' => E c d H') b)) :
    FnOk P w K mg base (L2.CX P w) (k + 1) f fd ps (spM Γ n (bodyM N.length b)) := by
  refine F.okX S (fun vs H Q E h => by rw [← hn]; exact h.1) fun cdv A outer s H vs Q E hr h => ?_
  obtain ⟨hl, g, h0, ws, hH, rs, q⟩ := h
  have tk : Takes (cxOf (L2.CX P w) P w K mg base N qual (defScope st) f cdv A outer s H E) (fun c d _ H' => E c d H') := takes_of rfl rfl rfl rfl
  refine ⟨_, hb cdv A outer s H E hr tk, g, _, h0, hH, slk_start (N := N) rs, ?_⟩
  unfold bodyM at q
  cases e : b (ws.map some ++ List.replicate (N.length - ws.length) none) h0 with
  | nx s1 h1 => rw [e] at q; exact fun g' σ' H' l a _ _ => q g' _ H' l a mnon
  | rt w1 h1 => rw [e] at q; exact q
  | exc c s1 h1 => rw [e] at q; exact fun g' σ' H' l a _ _ => q g' H' l a
  | bk s1 h1 => rw [e] at q; exact q.elim
  | ct s1 h1 => rw [e] at q; exact q.elim
  | no => rw [e] at q; exact q.elim
end
end Pk
end

/-! PkH -/
section
set_option Elab.async false
set_option linter.all false
set_option maxRecDepth 100000
namespace Pk
open PySem PySem.Spec L2

/-! ### statements -/
def sNil : Sx := fun sl h => .nx sl h
def RS.then (r : RS) (k : Sl → HS → RS) : RS := match r with
  | .nx s h => k s h
  | r => r
def sSeq (a b : Sx) : Sx := fun sl h => (a sl h).then b
def sExpr (f : Ex) : Sx := fun sl h => (f sl h).st sl fun _ h1 => .nx sl h1
def sRet (f : Ex) : Sx := fun sl h => (f sl h).st sl fun w h1 => .rt w h1
def sRetN : Sx := fun _ h => .rt .non h
def sIf (t : Tx) (a b : Sx) : Sx := fun sl h => (t sl h).st sl fun k h1 => if k then a sl h1 else b sl h1
def sRaise (c : Nat) : Sx := fun sl h => .exc c sl h
abbrev Gx := W → Sl → HS → Option (Sl × HS)
def gN (i : Nat) : Gx := fun w sl h => some (sl.set i (some w), h)
def gNilx : List W → Sl → HS → Option (Sl × HS)
  | [], sl, h => some (sl, h)
  | _ :: _, _, _ => none
def gConsx (t : Gx) (u : List W → Sl → HS → Option (Sl × HS)) : List W → Sl → HS → Option (Sl × HS)
  | [], _, _ => none
  | w :: ws, sl, h => match t w sl h with
    | some (s, h1) => u ws s h1
    | none => none
def gTupx (u : List W → Sl → HS → Option (Sl × HS)) : Gx := fun w sl h => match sview h w with
  | some ws => u ws sl h
  | none => none
def sAsg (f : Ex) (t : Gx) : Sx := fun sl h => (f sl h).st sl fun w h1 => match t w sl h1 with
  | some (s, h2) => .nx s h2
  | none => .no
def sPar (i j : Nat) (fr : Ax) : Sx := fun sl h => (fr sl h).st sl fun ws h1 => match ws with
  | [v, w] => .nx ((sl.set i (some v)).set j (some w)) h1
  | _ => .no
def sPar3 (i j k : Nat) (fr : Ax) : Sx := fun sl h => (fr sl h).st sl fun ws h1 => match ws with
  | [u, v, w] => .nx (((sl.set i (some u)).set j (some v)).set k (some w)) h1
  | _ => .no
def sAug (i : Nat) (m : W → W → HS → R W) (f : Ex) : Sx := fun sl h => match sl[i]? with
  | some (some x) => (f sl h).st sl fun y h1 => (m x y h1).st sl fun z h2 => .nx (sl.set i (some z)) h2
  | _ => .no
def whileL (t : Tx) (b : Sx) : Nat → Sl → HS → RS
  | 0, _, _ => .no
  | n + 1, sl, h => (t sl h).st sl fun k h1 => if k then (match b sl h1 with
    | .nx s h2 => whileL t b n s h2
    | .ct s h2 => whileL t b n s h2
    | .bk s h2 => .nx s h2
    | r => r) else .nx sl h1
def fuel : Nat := 1000000000000
def sWhile (t : Tx) (b : Sx) : Sx := whileL t b fuel

/-- the slots at vs alone may differ -/
def OnlyAt (vs : List Nat) (σ σ' : L2.St) : Prop := σ'.length = σ.length ∧ ∀ j, j ∉ vs → σ'[j]? = σ[j]?
theorem OnlyAt.refl (vs : List Nat) (σ : L2.St) : OnlyAt vs σ σ := ⟨rfl, fun _ _ => rfl⟩
def GR (Γ : Γ) (g : G) (vs : List Nat) (σ : L2.St) (r : Option (Sl × HS)) (Q : L2.St → Hp → Prop) : Prop := match r with
  | some (s, h1) => ∀ g' σ' H', g.le g' → RH Γ g' h1 H' → SLk Γ g' s σ' → OnlyAt vs σ σ' → Q σ' H'
  | none => False
def RDG (Γ : Γ) (vs : List Nat) (t : Gx) : TG := fun v σ H Q => ∃ g w sl h, RH Γ g h H ∧ SLk Γ g sl σ ∧ RW Γ.K g w v ∧ GR Γ g vs σ (t w sl h) Q
def RDGs (Γ : Γ) (is : List Nat) (t : List W → Sl → HS → Option (Sl × HS)) : TGs := fun vs σ H Q => ∃ g ws sl h, RH Γ g h H ∧ SLk Γ g sl σ ∧ RWs Γ.K g ws vs ∧ GR Γ g is σ (t ws sl h) Q
theorem GR.le {Γ : Γ} {g g' : G} {vs : List Nat} {σ : L2.St} {r : Option (Sl × HS)} {Q : L2.St → Hp → Prop} (l : g.le g') (x : GR Γ g vs σ r Q) : GR Γ g' vs σ r Q := by
  cases r with
  | none => exact x
  | some p => exact fun g2 σ' H' l2 => x g2 σ' H' (l.trans l2)

section
variable {Γ : Γ} {Wx : WX} {X : Cx} {a b e c : Expr} {f fa fb : Ex} {pos : Pos} {s1 s2 : Sx} {st : Stmt} {rest body orelse : List Stmt} {t : Tx}
theorem s_nil : PSs X [] (RDS Γ Wx sNil) := PSs.imp pss_nil fun D σ H ⟨g, sl, h, hH, hS, q⟩ => q g σ H (.refl g) hH hS rfl
theorem s_cons (p : PS X st (RDS Γ Wx s1)) (q : PSs X rest (RDS Γ Wx s2)) : PSs X (st :: rest) (RDS Γ Wx (sSeq s1 s2)) := by
  refine PSs.imp (pss_cons p q) fun D σ H ⟨g, sl, h, hH, hS, q⟩ => ⟨g, sl, h, hH, hS, ?_⟩
  unfold sSeq at q
  cases e : s1 sl h with
  | nx s h1 =>
    rw [e] at q
    intro g' σ' H' l a b hl
    refine ⟨g', s, h1, a, b, ?_⟩
    rw [hl]
    exact rzS_le l q
  | rt w h1 => rw [e] at q; exact q
  | bk s h1 => rw [e] at q; exact q
  | ct s h1 => rw [e] at q; exact q
  | exc c s h1 => rw [e] at q; exact q
  | no => rw [e] at q; exact q
theorem s_one (p : PS X st (RDS Γ Wx s1)) : PSs X [st] (RDS Γ Wx s1) := pss_one p
theorem s_pass : PS X (.Pass pos) (RDS Γ Wx sNil) := PS.imp ps_pass fun D σ H ⟨g, sl, h, hH, hS, q⟩ => q g σ H (.refl g) hH hS rfl
theorem s_expr (p : PE X e (RDE Γ Wx f)) (hs : swapsWith e none pos.line X.env = pure false := by rfl) : PS X (.Expr e pos) (RDS Γ Wx (sExpr f)) :=
  PS.imp (ps_expr p hs) fun D σ H ⟨g, sl, h, hH, hS, q⟩ => ⟨g, sl, h, hH, hS, Rz.mono (fun v H1 ⟨g1, h1, w1, l1, hH1, r1, q1⟩ => q1 g1 σ _ (.refl _) hH1 (SLk.mono l1 hS) rfl) (rz_st hS q)⟩
theorem s_ret (p : PE X e (RDE Γ Wx f)) : PS X (.Return (some e) pos) (RDS Γ Wx (sRet f)) :=
  PS.imp (ps_ret p) fun D σ H ⟨g, sl, h, hH, hS, q⟩ => ⟨g, sl, h, hH, hS, Rz.mono (fun v H1 ⟨g1, h1, w1, l1, hH1, r1, q1⟩ => q1 g1 _ _ (.refl _) hH1 r1) (rz_st hS q)⟩
theorem s_retN : PS X (.Return none pos) (RDS Γ Wx sRetN) := PS.imp ps_retN fun D σ H ⟨g, sl, h, hH, hS, q⟩ => q g _ _ (.refl g) hH mnon
theorem s_if (p : PT X c (RDT Γ Wx t)) (ha : PSs X body (RDS Γ Wx s1)) (hb : PSs X orelse (RDS Γ Wx s2)) : PS X (.If c body orelse pos) (RDS Γ Wx (sIf t s1 s2)) := by
  refine PS.imp (ps_if p ha hb) fun D σ H ⟨g, sl, h, hH, hS, q⟩ => ⟨g, sl, h, hH, hS, Rz.mono (fun v H1 ⟨g1, h1, w1, l1, hH1, r1, q1⟩ => ?_) (rz_st hS q)⟩
  subst r1
  by_cases hk : w1 = true
  · rw [if_pos hk] at q1 ⊢
    exact ⟨g1, sl, h1, hH1, SLk.mono l1 hS, q1⟩
  · rw [if_neg hk] at q1 ⊢
    exact ⟨g1, sl, h1, hH1, SLk.mono l1 hS, q1⟩
/-- raise X('..') -/
theorem s_raise {k : Nat} (hc : X.calm = true) (tk : Takes X Wx) (p : PMk X e (fun _ H Q => Q (.ref (Γ.cls k)) none H)) : PS X (.Raise (some e) none pos) (RDS Γ Wx (sRaise k)) :=
  PS.imp (ps_raise hc tk p) fun D σ H ⟨g, sl, h, hH, hS, q⟩ => q g σ H (.refl g) hH hS rfl

/-! targets, assignments -/
theorem g_name {x : Str} (i : Nat) (hN : X.N.Nodup) (hi : X.N[i]? = some x := by rfl) (hx : Loc X.env.scope x := by first | exact Or.inl rfl | exact Or.inr rfl) (hl : ∀ (pins : List (Addr × Obj)) (s : Shared) (σ : L2.St) (H : Hp), Inv X pins σ H s → i < σ.length := by
      intro pins s σ H I; rw [I.len]; exact (by decide))
    (hf : X.fn x = true ∨ X.env.scope.names.lookup x = some .local := by first | exact .inl rfl | exact .inr rfl) : PG X (.Name x pos) (RDG Γ [i] (gN i)) := by
  refine ⟨fun pins s σ H v u Q I r ⟨g, w, sl, h, hH, hS, rw, q⟩ => ?_⟩
  have q' := q g (σ.set i (some v)) H (.refl g) hH (hS.set rw (hl pins s σ H I)) ⟨by rw [List.length_set], fun j hj => List.getElem?_set_ne (fun z => hj (by rw [z]; exact List.mem_singleton.mpr rfl))⟩
  exact (pg_name (pos := pos) hN hi hx hf).run pins s σ H v u Q I r q'
theorem gs_nil : PGs X [] (RDGs Γ [] gNilx) := by
  refine ⟨fun pins s σ H vs us Q I r ⟨g, ws, sl, h, hH, hS, rw, q⟩ => ?_⟩
  cases ws with
  | nil => unfold RWs at rw; exact pgs_nil.run pins s σ H vs us Q I r ⟨rw, q g σ H (.refl g) hH hS (.refl _ _)⟩
  | cons _ _ => exact q.elim
theorem gs_cons {es : List Expr} {tg : Gx} {ug : List W → Sl → HS → Option (Sl × HS)} {is js : List Nat} (p : PG X e (RDG Γ is tg)) (p2 : PGs X es (RDGs Γ js ug)) (hs : (assignEach (e :: es) X.env).map (·.2) = assign e X.env :: (assignEach es X.env).map (·.2) := by rfl) :
    PGs X (e :: es) (RDGs Γ (is ++ js) (gConsx tg ug)) := by
  refine ⟨fun pins s σ H vs us Q I r ⟨g, ws, sl, h, hH, hS, rw, q⟩ => (pgs_cons p p2 hs).run pins s σ H vs us Q I r ?_⟩
  cases ws with
  | nil => exact q.elim
  | cons w ws =>
    unfold RWs at rw
    obtain ⟨v, vr, rfl, r1, rs⟩ := rw
    refine ⟨v, vr, rfl, g, w, sl, h, hH, hS, r1, ?_⟩
    have q : GR Γ g (is ++ js) σ (match tg w sl h with
      | some (s, h1) => ug ws s h1
      | none => none) Q := q
    cases e : tg w sl h with
    | none => rw [e] at q; exact q.elim
    | some p =>
      obtain ⟨s', h1⟩ := p
      rw [e] at q
      have q : GR Γ g (is ++ js) σ (ug ws s' h1) Q := q
      refine fun g' σ' H' l a b hl => ⟨g', ws, s', h1, a, b, RWs.mono l _ _ rs, ?_⟩
      have q := q.le l
      cases e2 : ug ws s' h1 with
      | none => rw [e2] at q; exact q.elim
      | some p =>
        rw [e2] at q
        exact fun g2 σ2 H2 l2 a2 b2 hl2 => q g2 σ2 H2 l2 a2 b2 ⟨hl2.1.trans hl.1, fun j hj => by
          rw [List.mem_append, not_or] at hj
          exact (hl2.2 j hj.2).trans (hl.2 j hj.1)⟩
theorem g_tup {es : List Expr} {k : Nat} {ug : List W → Sl → HS → Option (Sl × HS)} {is : List Nat} {n : Nat} (hK : X.K = Γ.K) (hc : X.calm = true) (p : PGs X es (RDGs Γ is ug)) (hlen : ∀ ws sl h r, ug ws sl h = some r → ws.length = n)
    (hn : (assignEach es X.env).length = n := by rfl) (hst : (assignEach es X.env).findIdx? (·.1) = none := by rfl) : PG X (.Tuple es k pos) (RDG Γ is (gTupx ug)) := by
  refine ⟨fun pins s σ H v u Q I r ⟨g, w, sl, h, hH, hS, rw, q⟩ => ?_⟩
  have q : GR Γ g is σ (match sview h w with
    | some ws => ug ws sl h
    | none => none) Q := q
  cases e : sview h w with
  | none => rw [e] at q; exact q.elim
  | some ws =>
    rw [e] at q
    have q : GR Γ g is σ (ug ws sl h) Q := q
    obtain ⟨p1, vs, rfl, s1, rs⟩ := sview_ok hH rw e
    have z1 : vs.length = n := by
      cases e2 : ug ws sl h with
      | none => rw [e2] at q; exact q.elim
      | some r => rw [← rs.len]; exact hlen ws sl h r e2
    rw [← hK] at s1
    rcases s1 with s1 | s1
    · exact (pg_lst (pos := pos) (k := k) hc p hn hst).run pins s σ H _ u Q I r ⟨p1, vs, rfl, s1, z1, g, ws, sl, h, hH, hS, rs, q⟩
    · exact (pg_tup (pos := pos) (k := k) hc p hn hst).run pins s σ H _ u Q I r ⟨p1, vs, rfl, s1, z1, g, ws, sl, h, hH, hS, rs, q⟩
theorem asg_rd {is : List Nat} {tg : Gx} {g : G} {h : HS} {H : Hp} {w : W} {v : V} {σ : L2.St} {D : Ends} {n : Nat} {sl : Sl} (hH : RH Γ g h H) (hS : SLk Γ g sl σ) (r : RW Γ.K g w v) (hn : σ.length = n) (q : RzS Γ Wx g n (match tg w sl h with
    | some (s, h2) => .nx s h2
    | none => .no) D) : RDG Γ is tg v σ H D.nx := by
  refine ⟨g, w, sl, h, hH, hS, r, ?_⟩
  cases e : tg w sl h with
  | none => rw [e] at q; exact q.elim
  | some p => obtain ⟨s, h2⟩ := p; rw [e] at q; subst hn; exact fun g' σ' H' l a b hl => q g' σ' H' l a b hl.1
theorem s_asg {target : Expr} {is : List Nat} {tg : Gx} (p : PE X e (RDE Γ Wx f)) (pg : PG X target (RDG Γ is tg)) (hs : swapsWithSole [target] e pos.line X.env = pure false := by rfl) (hw : swappedStores [target] e X.env = pure none := by rfl)
    (h1 : (assignEach [target] X.env).map (·.2) = [assign target X.env] := by rfl) : PS X (.Assign [target] e pos) (RDS Γ Wx (sAsg f tg)) :=
  PS.imp (ps_asg p pg hs hw h1) fun D σ H ⟨g, sl, h, hH, hS, q⟩ => ⟨g, sl, h, hH, hS, Rz.mono (fun v H1 ⟨g1, h1, w1, l1, hH1, r1, q1⟩ => asg_rd hH1 (SLk.mono l1 hS) r1 rfl q1) (rz_st hS q)⟩
/-- x = e, x a name of the def -/
theorem s_set {x : Str} {pos' : Pos} (i : Nat) (hN : X.N.Nodup) (p : PE X e (RDE Γ Wx f)) (hi : X.N[i]? = some x := by rfl) (hx : Loc X.env.scope x := by first | exact Or.inl rfl | exact Or.inr rfl)
    (hl : ∀ (pins : List (Addr × Obj)) (s : Shared) (σ : L2.St) (H : Hp), Inv X pins σ H s → i < σ.length := by
      intro pins s σ H I; rw [I.len]; exact (by decide))
    (hs : swapsWith e (some (.Name x pos')) pos.line X.env = pure false := by rfl) (hf : X.fn x = true ∨ X.env.scope.names.lookup x = some .local := by first | exact .inl rfl | exact .inr rfl) : PS X (.Assign [.Name x pos'] e pos) (RDS Γ Wx (sAsg f (gN i))) := by
  refine ⟨fun pins s σ H D I ⟨g, sl, h, hH, hS, q⟩ => (ps_set (pos' := pos') hN hi hx p hs hf).run pins s σ H D I ⟨g, sl, h, hH, hS, Rz.mono (fun v H1 ⟨g1, h1, w1, l1, hH1, r1, q1⟩ => ?_) (rz_st hS q)⟩⟩
  exact q1 g1 (σ.set i (some v)) H1 (.refl _) hH1 ((SLk.mono l1 hS).set r1 (hl pins s σ H I)) (by rw [List.length_set])
theorem s_par {x y : Str} {px py pt : Pos} {kt k2 pt2} {fr : Ax} (i j : Nat) (hc : X.calm = true) (hN : X.N.Nodup) (ha : PA X [a, b] (RDA Γ Wx fr)) (hi : X.N[i]? = some x := by rfl) (hj : X.N[j]? = some y := by rfl) (hij : i ≠ j := by decide)
    (hx : X.env.scope.names.lookup x = some .local := by rfl) (hy : X.env.scope.names.lookup y = some .local := by rfl)
    (hl : ∀ (pins : List (Addr × Obj)) (s : Shared) (σ : L2.St) (H : Hp), Inv X pins σ H s → i < σ.length ∧ j < σ.length := by
      intro pins s σ H I; rw [I.len]; exact (by decide))
    (hw : swappedStores [.Tuple [.Name x px, .Name y py] kt pt] (.Tuple [a, b] k2 pt2) X.env = pure (some [x, y]) := by rfl)
    (hs : swapsWithSole [.Tuple [.Name x px, .Name y py] kt pt] (.Tuple [a, b] k2 pt2) pos.line X.env = pure false := by rfl) :
    PS X (.Assign [.Tuple [.Name x px, .Name y py] kt pt] (.Tuple [a, b] k2 pt2) pos) (RDS Γ Wx (sPar i j fr)) := by
  refine ⟨fun pins s σ H D I ⟨g, sl, h, hH, hS, q⟩ => (ps_par hc hN hi hj hij hx hy ha hw hs).run pins s σ H D I ⟨g, sl, h, hH, hS, Rz.mono (fun v H1 ⟨g1, h1, w1, l1, hH1, r1, q1⟩ => ?_) (rz_st hS q)⟩⟩
  split at q1
  · obtain ⟨v1, v2, rfl, r2, r3⟩ := rws2 r1
    obtain ⟨l2, l3⟩ := hl pins s σ H I
    exact ⟨v1, v2, rfl, q1 g1 _ H1 (.refl _) hH1 (((SLk.mono l1 hS).set r2 l2).set r3 (by rw [List.length_set]; exact l3)) (by rw [List.length_set, List.length_set])⟩
  · exact q1.elim
/-- x op= e, numbers -/
theorem s_aug {op : Operator} {x : Str} {pos' : Pos} {k : Int → Int → Int} {m : W → W → HS → R W} (i : Nat) (hN : X.N.Nodup) (o : PIp X op (ipI k)) (hm : ∀ x y h, m x y h = (match x, y with
    | .int a, .int b => .ok (.int (k a b)) h
    | _, _ => .no)) (p : PE X e (RDE Γ Wx f)) (hi : X.N[i]? = some x := by rfl) (hx : Loc X.env.scope x := by first | exact Or.inl rfl | exact Or.inr rfl)
    (hl : ∀ (pins : List (Addr × Obj)) (s : Shared) (σ : L2.St) (H : Hp), Inv X pins σ H s → i < σ.length := by
      intro pins s σ H I; rw [I.len]; exact (by decide))
    (hf : X.fn x = true ∨ X.env.scope.names.lookup x = some .local := by first | exact .inl rfl | exact .inr rfl) : PS X (.AugAssign (.Name x pos') op e pos) (RDS Γ Wx (sAug i m f)) := by
  refine ⟨fun pins s σ H D I ⟨g, sl, h, hH, hS, q⟩ => (ps_aug (pos' := pos') hN hi hx p o hf).run pins s σ H D I ?_⟩
  unfold sAug at q
  split at q
  · rename_i x0 ex
    obtain ⟨v0, ev, rv⟩ := hS i _ ex
    refine ⟨v0, ev, g, sl, h, hH, hS, Rz.mono (fun v H1 ⟨g1, h1, w1, l1, hH1, r1, q1⟩ => ?_) (rz_st hS q)⟩
    rw [hm] at q1
    split at q1
    · cases rint rv; cases rint r1
      exact ⟨_, _, rfl, rfl, q1 g1 _ H1 (.refl _) hH1 ((SLk.mono l1 hS).set (mint _) (hl pins s σ H I)) (by rw [List.length_set])⟩
    · exact q1.elim
  · exact q.elim

/-! while -/
theorem s_while (hp : PassesOwn (model X.prog X.w) X.A X.env X.xe) (p : PT X c (RDT Γ Wx t)) (pb : PSs X body (RDS Γ Wx s1)) : PS X (.While c body [] pos) (RDS Γ Wx (sWhile t s1)) := by
  refine PS.imp (ps_while hp p pb) fun D σ H ⟨g, sl, h, hH, hS, q⟩ => ?_
  refine ⟨fun m σ' H' => ∃ g sl h, RH Γ g h H' ∧ SLk Γ g sl σ' ∧ σ'.length = σ.length ∧ RzS Γ Wx g σ.length (whileL t s1 m sl h) D, ⟨fuel, g, sl, h, hH, hS, rfl, q⟩, ?_⟩
  rintro m σ' H' ⟨g, sl, h, hH, hS, hn, q⟩
  cases m with
  | zero => exact q.elim
  | succ m =>
    rw [← hn] at q
    refine ⟨g, sl, h, hH, hS, Rz.mono (fun v H1 ⟨g1, h1, w1, l1, hH1, r1, q1⟩ => ?_) (rz_st hS q)⟩
    subst r1
    by_cases hk : w1 = true
    · rw [if_pos hk] at q1 ⊢
      refine ⟨fun σ2 H2 => ∃ g sl h, RH Γ g h H2 ∧ SLk Γ g sl σ2 ∧ σ2.length = σ.length ∧ RzS Γ Wx g σ.length (whileL t s1 m sl h) D, fun σ2 H2 w => ⟨m, Nat.lt_succ_self _, w⟩, g1, sl, h1, hH1, SLk.mono l1 hS, ?_⟩
      cases e : s1 sl h1 with
      | nx s h2 => rw [e] at q1; exact fun g' σ2 H2 l a b hl => ⟨g', s, h2, a, b, hl.trans hn, by rw [← hn]; exact rzS_le l q1⟩
      | ct s h2 => rw [e] at q1; exact fun g' σ2 H2 l a b hl => ⟨g', s, h2, a, b, hl.trans hn, by rw [← hn]; exact rzS_le l q1⟩
      | bk s h2 => rw [e] at q1; exact q1
      | rt w h2 => rw [e] at q1; exact q1
      | exc c s h2 => rw [e] at q1; exact q1
      | no => rw [e] at q1; exact q1
    · rw [if_neg hk] at q1 ⊢
      exact q1 g1 σ' H1 (.refl _) hH1 (SLk.mono l1 hS) rfl
end
end Pk
end

/-! PkI -/
section
set_option Elab.async false
set_option linter.all false
set_option maxRecDepth 100000
namespace Pk
open PySem PySem.Spec L2

/-! ### stores into fields, dicts, lists -/
def sputK : List Str → Str → List Str
  | [], f => [f]
  | k :: ks, f => if k = f then k :: ks else k :: sputK ks f
def sputW : List Str → List W → Str → W → List W
  | k :: ks, w :: ws, f, y => if k = f then y :: ws else w :: sputW ks ws f y
  | _, _, _, y => [y]
def setFld (cs : List Nat) (f : Str) (x y : W) (h : HS) : Option HS := match x with
  | .box n => match h.at_ n with
    | some (.ins c ks ws) => if cs.contains c = true ∧ ks.length < 1000 then some (h.put n (.ins c (sputK ks f) (sputW ks ws f y))) else none
    | _ => none
  | _ => none
def sFldx (cs : List Nat) (f : Str) (fv fo : Ex) : Sx := fun sl h => (fv sl h).st sl fun y h1 => (fo sl h1).st sl fun x h2 => match setFld cs f x y h2 with
  | some h3 => .nx sl h3
  | none => .no
def dhas (ks : List DK) (j : DK) : Bool := ks.any fun k => decide (k = j)
def drepl : List DK → List W → DK → W → List W
  | k :: ks, w :: ws, j, y => (if k = j then y else w) :: drepl ks ws j y
  | _, _, _, _ => []
def dputK (ks : List DK) (j : DK) : List DK := if dhas ks j = true then ks else ks ++ [j]
def dputW (ks : List DK) (ws : List W) (j : DK) (y : W) : List W := if dhas ks j = true then drepl ks ws j y else ws ++ [y]
def ddelK (ks : List DK) (j : DK) : List DK := ks.filter fun k => decide (k ≠ j)
def ddelW : List DK → List W → DK → List W
  | k :: ks, w :: ws, j => if k ≠ j then w :: ddelW ks ws j else ddelW ks ws j
  | _, _, _ => []
/-- o[i] = y -/
def setIx (x i y : W) (h : HS) : Option HS := match x with
  | .box n => match h.at_ n with
    | some (.dic ks ws) => match kOf i with
      | some j => if ks.all (sameK j) = true ∧ ks.length < sizeLine then some (h.put n (.dic (dputK ks j) (dputW ks ws j y))) else none
      | none => none
    | some (.lst ws) => match i with
      | .int z => match ixN ws.length z with
        | some k => some (h.put n (.lst (ws.set k y)))
        | none => none
      | _ => none
    | _ => none
  | _ => none
def gSubx (fo fi : Ex) : Sl → HS → W → R Unit := fun sl h v => (fo sl h).bind fun x h1 => (fi sl h1).bind fun i h2 => match setIx x i v h2 with
  | some h3 => .ok () h3
  | none => .no
def sSub (fv fo fi : Ex) : Sx := fun sl h => (fv sl h).st sl fun v h1 => (fo sl h1).st sl fun x h2 => (fi sl h2).st sl fun i h3 => match setIx x i v h3 with
  | some h4 => .nx sl h4
  | none => .no
section
variable {X : Cx} {pins : List (Addr × Obj)} {σ : L2.St} {H : Hp} {s : Shared} {a : Addr}
theorem dct_there (I : Inv X pins σ H s) (e : H a = some (.dK []) ∨ H a = some (.dT [])) : (a == sysModules) = false ∧ ∃ q, s.heap.get? a = some q := by
  rcases e with e | e
  · obtain ⟨_, hm, vs, _, q, _, _, hq, _⟩ := dk_of I.hok e
    exact ⟨hm, q, hq⟩
  · obtain ⟨_, hm, xs, _, q, _, _, hq, _⟩ := dt_of I.hok e
    exact ⟨hm, q, hq⟩
theorem e_rd (e : H a = some (.dK []) ∨ H a = some (.dT [])) : DctR H a [] [] := e.elim (fun e => .inl ⟨[], .inl e, rfl, rfl⟩) fun e => .inr ⟨[], .inl e, rfl, rfl⟩
theorem toK (I : Inv X pins σ H s) (e : H a = some (.dK []) ∨ H a = some (.dT [])) : Inv X pins σ (upd H a (.dK [])) s := by
  obtain ⟨hm, hq⟩ := dct_there I e
  have dd := (empty_at I.hok (e_rd e)).2
  have mu : Mut (H a) := by rcases e with e | e <;> (rw [e]; exact True.intro)
  exact I.write (x := a) (e := a) (t' := s.toks) mu (.inl rfl) (fun b u _ z => z) hq ⟨Nat.zero_le _, hm, [], .nil, dd⟩
theorem toT (I : Inv X pins σ H s) (e : H a = some (.dK []) ∨ H a = some (.dT [])) : Inv X pins σ (upd H a (.dT [])) s := by
  obtain ⟨hm, hq⟩ := dct_there I e
  obtain ⟨o, es, ep, h1, h2, h3, h4, _, h6⟩ := empty_atH I.hok (e_rd e)
  have mu : Mut (H a) := by rcases e with e | e <;> (rw [e]; exact True.intro)
  exact I.write (x := a) (e := a) (t' := s.toks) mu (.inl rfl) (fun b u _ z => z) hq ⟨Nat.zero_le _, hm, [], .nil, o, es, ep, h1, h2, h3, h4, List.nodup_nil⟩
/-- d[y] = v, an empty dict at any key -/
def DP (H : Hp) (a : Addr) (y v : V) (H' : Hp) : Prop := DPut H a y v H' ∨ ((H a = some (.dK []) ∨ H a = some (.dT [])) ∧
  ((∃ k, y = kV k ∧ H' = upd H a (.dK [(k, v)])) ∨ ∃ (b : Addr) (l : List Key), y = .ref b ∧ H b = some (.tup (l.map kV)) ∧ H' = upd H a (.dT [(l, v)])))
theorem dp_setItem {H' : Hp} {y v : V} {u r : Value} {A : Around} {E : Value → Shared → Prop} {Q : Unit → Shared → Prop} (hu : A.units + 1 < cLine) (I : Inv X pins σ H s) (g : DP H a y v H') (ry : RelV y u) (rv : RelV v r) (h : ∀ s', Inv X pins σ H' s' → Q () s') :
    wpAny (model X.prog X.w) A (setItem (.ref a) u r) Q E s := by
  have hz : (0 : Nat) < sizeLine := by rw [sizeLine_eq]; decide
  rcases g with g | ⟨e, ⟨k, rfl, rfl⟩ | ⟨b, l, rfl, hb, rfl⟩⟩
  · exact d_setItem hu I g ry rv h
  · refine d_setItem hu (toK I e) (.inl ⟨[], k, upd_same, rfl, hz, rfl⟩) ry rv fun s' I' => h s' ?_
    rw [upd_upd] at I'
    exact I'
  · have nb : b ≠ a := by rcases e with e | e <;> exact ne_of hb e (by intro z; cases z)
    refine d_setItem hu (toT I e) (.inr ⟨[], l, b, upd_same, rfl, by rw [upd_ne nb]; exact hb, hz, rfl⟩) ry rv fun s' I' => h s' ?_
    rw [upd_upd] at I'
    exact I'
theorem set_dict (hu : X.A.units + 1 < cLine) : PSet X (fun o i v H Q => ∃ a H', o = .ref a ∧ DP H a i v H' ∧ Q H') := by
  rintro pins s σ H o i v ov iv u Q I ro ri rv ⟨a, H', rfl, d, q⟩
  obtain rfl : ov = Value.ref a := ro
  exact dp_setItem hu I d ri rv fun s' I' => ⟨H', I', q⟩
theorem PSet.or {t t' : V → V → V → Hp → (Hp → Prop) → Prop} (a : PSet X t) (b : PSet X t') : PSet X (fun o i v H Q => t o i v H Q ∨ t' o i v H Q) := by
  intro pins s σ H o i v ov iv u Q I ro ri rv q
  rcases q with q | q
  · exact a pins s σ H o i v ov iv u Q I ro ri rv q
  · exact b pins s σ H o i v ov iv u Q I ro ri rv q
end
section
variable {Γ : Γ} {Wx : WX} {X : Cx} {g : G} {h : HS} {H : Hp} {o i e value : Expr} {fo fi fv : Ex} {pos pos' tpos : Pos}
theorem drepl_ok {K : PySem.W.Frag} {κ : Type} [DecidableEq κ] {c : κ → DK} (hc : ∀ a b, c a = c b → a = b) {w : W} {v : V} (rw' : RW K g w v) {j : κ} : ∀ {kvs : List (κ × V)} {ws : List W}, RWs K g ws (kvs.map (·.2)) →
    RWs K g (drepl (kvs.map fun p => c p.1) ws (c j) w) ((kvs.map (fun kv => if kv.1 = j then (kv.1, v) else kv)).map (·.2))
  | [], ws, r => by
    unfold RWs at r
    cases ws with
    | nil => exact .nil
    | cons _ _ => obtain ⟨_, _, z, _⟩ := r; cases z
  | p :: kvs, [], r => by unfold RWs at r; cases r
  | p :: kvs, x :: ws, r => by
    rw [List.map_cons] at r
    unfold RWs at r
    obtain ⟨v0, vr, e1, r1, rs⟩ := r
    cases e1
    rw [List.map_cons, List.map_cons, List.map_cons]
    unfold drepl
    refine .cons ?_ (drepl_ok hc rw' rs)
    by_cases hj : p.1 = j
    · rw [if_pos hj, if_pos (by rw [hj])]; exact rw'
    · rw [if_neg hj, if_neg (fun z => hj (hc _ _ z))]; exact r1
theorem dhas_ok {κ : Type} [DecidableEq κ] {c : κ → DK} (hc : ∀ a b, c a = c b → a = b) {j : κ} : ∀ {kvs : List (κ × V)}, dhas (kvs.map fun p => c p.1) (c j) = kvs.any fun kv => decide (kv.1 = j)
  | [] => rfl
  | p :: kvs => by
    have ih := dhas_ok hc (j := j) (kvs := kvs)
    unfold dhas at ih ⊢
    rw [List.map_cons, List.any_cons, List.any_cons, ih]
    congr 1
    exact decide_eq_decide.mpr ⟨fun z => hc _ _ z, fun z => by rw [z]⟩
theorem putK_put {K : PySem.W.Frag} {κ : Type} [DecidableEq κ] {c : κ → DK} (hc : ∀ a b, c a = c b → a = b) {w : W} {v : V} (rw' : RW K g w v) {j : κ} {kvs : List (κ × V)} {ws : List W} (r : RWs K g ws (kvs.map (·.2))) :
    dputK (kvs.map fun p => c p.1) (c j) = (putK kvs j v).map (fun p => c p.1) ∧ RWs K g (dputW (kvs.map fun p => c p.1) ws (c j) w) ((putK kvs j v).map (·.2)) := by
  unfold dputK dputW putK
  rw [dhas_ok hc]
  by_cases h : (kvs.any fun kv => decide (kv.1 = j)) = true
  · rw [if_pos h, if_pos h, if_pos h]
    refine ⟨?_, drepl_ok hc rw' r⟩
    rw [List.map_map]
    refine List.map_congr_left fun q _ => ?_
    show c q.1 = c (if q.1 = j then (q.1, v) else q).1
    split <;> rfl
  · rw [if_neg h, if_neg h, if_neg h, List.map_append, List.map_append]
    exact ⟨rfl, r.app (.cons rw' .nil)⟩
theorem dropK_ok {K : PySem.W.Frag} {κ : Type} [DecidableEq κ] {c : κ → DK} (hc : ∀ a b, c a = c b → a = b) {j : κ} : ∀ {kvs : List (κ × V)} {ws : List W}, RWs K g ws (kvs.map (·.2)) →
    ddelK (kvs.map fun p => c p.1) (c j) = (dropK kvs j).map (fun p => c p.1) ∧ RWs K g (ddelW (kvs.map fun p => c p.1) ws (c j)) ((dropK kvs j).map (·.2))
  | [], ws, r => by
    unfold RWs at r
    cases ws with
    | nil => exact ⟨rfl, .nil⟩
    | cons _ _ => obtain ⟨_, _, z, _⟩ := r; cases z
  | p :: kvs, [], r => by unfold RWs at r; cases r
  | p :: kvs, x :: ws, r => by
    rw [List.map_cons] at r
    unfold RWs at r
    obtain ⟨v0, vr, e1, r1, rs⟩ := r
    cases e1
    obtain ⟨i1, i2⟩ := dropK_ok hc (j := j) rs
    unfold ddelK dropK at i1 ⊢
    unfold dropK at i2
    rw [List.map_cons, List.filter_cons, List.filter_cons]
    unfold ddelW
    by_cases hj : p.1 = j
    · rw [if_neg (by simp [hj]), if_neg (by simp [hj]), if_neg (by simp [hj])]
      exact ⟨i1, i2⟩
    · rw [if_pos (by simp; exact fun z => hj (hc _ _ z)), if_pos (by simp [hj]), if_pos (by intro z; exact hj (hc _ _ z)), List.map_cons, List.map_cons, i1]
      exact ⟨rfl, .cons r1 i2⟩
theorem kinj : ∀ a b : Key, DK.k a = DK.k b → a = b := fun a b z => by injection z
theorem tinj : ∀ a b : List Key, DK.t a = DK.t b → a = b := fun a b z => by injection z
theorem putK_ne {α : Type} [DecidableEq α] (kvs : List (α × V)) (l : α) (v : V) : putK kvs l v ≠ [] := by
  cases kvs with
  | nil => simp [putK]
  | cons p r =>
    unfold putK
    first
      | (split <;> simp)
      | simp
theorem dctH_R {a : Addr} {ks : List DK} {vs : List V} (d : DctH H a ks vs) : DctR H a ks vs := by
  rcases d with ⟨kvs, e, z⟩ | ⟨kvs, e, z⟩
  · exact .inl ⟨kvs, .inl e, z⟩
  · exact .inr ⟨kvs, .inl e, z.1.1, z.2⟩
/-- a dict in a box is stored to -/
theorem dput_ok {n : Nat} {ks : List DK} {ws : List W} {i y : W} {vi vy : V} {j : DK} (hH : RH Γ g h H) (ec : h.at_ n = some (.dic ks ws)) (ri : RW Γ.K g i vi) (ry : RW Γ.K g y vy) (ej : kOf i = some j) (hs : ks.all (sameK j) = true) (hl : ks.length < sizeLine) :
    ∃ H', DP H (g.ρ n) vi vy H' ∧ RH Γ g (h.put n (.dic (dputK ks j) (dputW ks ws j y))) H' := by
  obtain ⟨_, _, vs, d, rs⟩ := hH.cell n _ ec
  have key := kOf_ok hH ri ej
  by_cases hn : ks = []
  · subst hn
    have e0 : (H (g.ρ n) = some (.dK []) ∨ H (g.ρ n) = some (.dT [])) ∧ vs = [] := by
      rcases d with ⟨kvs, e, hk, hv⟩ | ⟨kvs, e, hk, hv⟩
      · have : kvs = [] := by cases kvs with
          | nil => rfl
          | cons _ _ => cases hk
        subst this; exact ⟨.inl e, hv⟩
      · exact absurd (by cases kvs with
          | nil => rfl
          | cons _ _ => cases hk.1) hk.2
    obtain ⟨e0, rfl⟩ := e0
    have hws : ws = [] := by cases ws with
      | nil => rfl
      | cons _ _ => unfold RWs at rs; obtain ⟨_, _, z, _⟩ := rs; cases z
    subst hws
    rcases key with ⟨l, rfl, rfl⟩ | ⟨l, b, rfl, rfl, hb⟩
    · refine ⟨_, Or.inr ⟨e0, Or.inl ⟨l, rfl, rfl⟩⟩, hH.put ec ⟨[vy], .inl ⟨[(l, vy)], upd_same, rfl, rfl⟩, ?_⟩⟩
      exact .cons ry .nil
    · refine ⟨_, Or.inr ⟨e0, Or.inr ⟨b, l, rfl, hb, rfl⟩⟩, hH.put ec ⟨[vy], .inr ⟨[(l, vy)], upd_same, ⟨rfl, by simp⟩, rfl⟩, ?_⟩⟩
      exact .cons ry .nil
  · rcases key with ⟨l, rfl, rfl⟩ | ⟨l, b, rfl, rfl, hb⟩
    · obtain ⟨kvs, e, hk, hv⟩ := all_sameK hs hn (dctH_R d)
      have e : H (g.ρ n) = some (.dK kvs) := by
        rcases d with ⟨kvs', e', hk', hv'⟩ | ⟨kvs', e', hk', hv'⟩
        · rcases e with e | ⟨o, e⟩
          · exact e
          · rw [e'] at e; cases e
        · rcases e with e | ⟨o, e⟩
          · rw [e'] at e; cases e
          · rw [e'] at e; cases e
      subst hk; subst hv
      obtain ⟨p1, p2⟩ := putK_put (v := vy) kinj ry (j := l) rs
      refine ⟨_, Or.inl (Or.inl ⟨kvs, l, e, rfl, by simpa using hl, rfl⟩), hH.put ec ⟨_, .inl ⟨putK kvs l vy, upd_same, p1, rfl⟩, p2⟩⟩
    · obtain ⟨kvs, e, hk, hv⟩ := all_sameT hs hn (dctH_R d)
      have e : H (g.ρ n) = some (.dT kvs) := by
        rcases d with ⟨kvs', e', hk', hv'⟩ | ⟨kvs', e', hk', hv'⟩
        · rcases e with e | ⟨o, e⟩
          · rw [e'] at e; cases e
          · rw [e'] at e; cases e
        · rcases e with e | ⟨o, e⟩
          · exact e
          · rw [e'] at e; cases e
      subst hk; subst hv
      obtain ⟨p1, p2⟩ := putK_put (v := vy) tinj ry (j := l) rs
      refine ⟨_, Or.inl (Or.inr ⟨kvs, l, b, e, rfl, hb, by simpa using hl, rfl⟩), hH.put ec ⟨_, .inr ⟨putK kvs l vy, upd_same, ⟨p1, putK_ne kvs l vy⟩, rfl⟩, p2⟩⟩
theorem setIx_ok {x i y : W} {vx vi vy : V} {h' : HS} (hH : RH Γ g h H) (rx : RW Γ.K g x vx) (ri : RW Γ.K g i vi) (ry : RW Γ.K g y vy) (e : setIx x i y h = some h') (Q : Hp → Prop) (q : ∀ H', RH Γ g h' H' → Q H') :
    rSetL vx vi vy H Q ∨ ∃ a H', vx = .ref a ∧ DP H a vi vy H' ∧ Q H' := by
  unfold setIx at e
  split at e
  · rename_i n
    unfold RW at rx
    obtain ⟨hn, rfl⟩ := rx
    split at e
    · rename_i ks ws ec
      split at e
      · rename_i j ej
        split at e
        · rename_i hc
          cases e
          obtain ⟨H', d, hH'⟩ := dput_ok hH ec ri ry ej hc.1 hc.2
          exact .inr ⟨_, H', rfl, d, q H' hH'⟩
        · cases e
      · cases e
    · rename_i ws ec
      split at e
      · rename_i z
        split at e
        · rename_i k ek
          cases e
          cases rint ri
          obtain ⟨_, _, vs, ev, rs⟩ := hH.cell n _ ec
          refine .inl ⟨_, vs, z, k, rfl, rfl, ev, by rw [← rs.len]; exact ek, q _ (hH.put ec ⟨_, upd_same, rs.set ry k⟩)⟩
        · cases e
      · cases e
    · cases e
  · cases e
theorem s_sub (hu : X.A.units + 1 < cLine) (pv : PE X value (RDE Γ Wx fv)) (po : PE X o (RDE Γ Wx fo)) (pi : PE X i (RDE Γ Wx fi))
    (hs : swapsWithSole [.Subscript o i tpos] value pos.line X.env = pure false := by rfl) (hw : swappedStores [.Subscript o i tpos] value X.env = pure none := by rfl)
    (h1 : (assignEach [.Subscript o i tpos] X.env).map (·.2) = [assign (.Subscript o i tpos) X.env] := by rfl)
    (ha : ∀ v, assign (.Subscript o i tpos) X.env v = (do
      let ov ← holding [v] (eval o X.env)
      let iv ← holding [v, ov] (eval i X.env)
      standAt tpos
      holding [v, ov, iv] (setItem ov iv v)
      release [v, ov, iv] []) := by intro _; rfl) : PS X (.Assign [.Subscript o i tpos] value pos) (RDS Γ Wx (sSub fv fo fi)) := by
  refine PS.imp (ps_asg pv (pg_sub po pi (PSet.or set_list (set_dict hu)) ha) hs hw h1) fun D σ H ⟨g, sl, h, hH, hS, q⟩ => ⟨g, sl, h, hH, hS, Rz.mono (fun v H1 ⟨g1, h1, w1, l1, hH1, r1, q1⟩ => ?_) (rz_st hS q)⟩
  refine ⟨g1, sl, h1, hH1, SLk.mono l1 hS, Rz.mono (fun v2 H2 ⟨g2, h2, w2, l2, hH2, r2, q2⟩ => ?_) (rz_st (SLk.mono l1 hS) q1)⟩
  refine ⟨g2, sl, h2, hH2, SLk.mono (l1.trans l2) hS, Rz.mono (fun v3 H3 ⟨g3, h3, w3, l3, hH3, r3, q3⟩ => ?_) (rz_st (SLk.mono (l1.trans l2) hS) q2)⟩
  cases e : setIx w2 w3 w1 h3 with
  | none => rw [e] at q3; exact q3.elim
  | some h4 =>
    rw [e] at q3
    exact setIx_ok hH3 (RW.mono l3 _ _ r2) r3 (RW.mono (l2.trans l3) _ _ r1) e _ fun H' hH' => q3 g3 σ H' (.refl _) hH' (SLk.mono (l1.trans (l2.trans l3)) hS) rfl
/-- del d[k], keys ints and texts -/
def delIx (x i : W) (h : HS) : Option HS := match x with
  | .box n => match h.at_ n with
    | some (.dic ks ws) => match kOf i with
      | some (.k j) => if ks.all isK = true ∧ (dlook ks ws (.k j)).isSome = true then some (h.put n (.dic (ddelK ks (.k j)) (ddelW ks ws (.k j)))) else none
      | _ => none
    | _ => none
  | _ => none
def sDel (fo fi : Ex) : Sx := fun sl h => (fo sl h).st sl fun x h1 => (fi sl h1).st sl fun i h2 => match delIx x i h2 with
  | some h3 => .nx sl h3
  | none => .no
theorem s_del (po : PE X o (RDE Γ Wx fo)) (pi : PE X i (RDE Γ Wx fi)) : PS X (.Delete [.Subscript o i tpos] pos) (RDS Γ Wx (sDel fo fi)) := by
  refine PS.imp (ps_ddel po pi) fun D σ H ⟨g, sl, h, hH, hS, q⟩ => ⟨g, sl, h, hH, hS, Rz.mono (fun v H1 ⟨g1, h1, w1, l1, hH1, r1, q1⟩ => ?_) (rz_st hS q)⟩
  refine ⟨g1, sl, h1, hH1, SLk.mono l1 hS, Rz.mono (fun v2 H2 ⟨g2, h2, w2, l2, hH2, r2, q2⟩ => ?_) (rz_st (SLk.mono l1 hS) q1)⟩
  cases e : delIx w1 w2 h2 with
  | none => rw [e] at q2; exact q2.elim
  | some h3 =>
    rw [e] at q2
    have r1' := RW.mono l2 _ _ r1
    unfold delIx at e
    split at e
    · split at e
      · rename_i n _ _ ks ws ec
        split at e
        · rename_i j ej
          split at e
          · rename_i hc
            cases e
            unfold RW at r1'
            obtain ⟨hn, rfl⟩ := r1'
            obtain ⟨_, _, vs, d, rs⟩ := hH2.cell n _ ec
            have hne : ks ≠ [] := fun z => by
              subst z
              have : dlook [] ws (.k j) = none := by cases ws <;> rfl
              rw [this] at hc
              exact absurd hc.2 (by simp)
            obtain ⟨kvs, e1, hk, hv⟩ := all_isK hc.1 hne (dctH_R d)
            have e1 : H2 (g2.ρ n) = some (.dK kvs) := by
              rcases d with ⟨kvs', e', hk', hv'⟩ | ⟨kvs', e', hk', hv'⟩
              · rcases e1 with e1 | ⟨o, e1⟩
                · exact e1
                · rw [e'] at e1; cases e1
              · rcases e1 with e1 | ⟨o, e1⟩
                · rw [e'] at e1; cases e1
                · rw [e'] at e1; cases e1
            have ek : v2 = kV j := by
              rcases kOf_ok hH2 r2 ej with ⟨l, z1, z2⟩ | ⟨l, b, z1, _⟩
              · cases z1; exact z2
              · cases z1
            subst hk; subst hv
            obtain ⟨w0, hw0⟩ := Option.isSome_iff_exists.mp hc.2
            obtain ⟨v0, hv0, _⟩ := dlook_ok rfl rs hw0
            obtain ⟨p1, p2⟩ := dropK_ok kinj (j := j) rs
            refine ⟨_, kvs, j, rfl, e1, ek, by rw [hv0]; rfl, q2 g2 σ _ (.refl _) (hH2.put ec ⟨_, .inl ⟨dropK kvs j, upd_same, p1, rfl⟩, p2⟩) (SLk.mono (l1.trans l2) hS) rfl⟩
          · cases e
        · cases e
      · cases e
    · cases e
theorem sput_ok {K : PySem.W.Frag} {f : Str} {w : W} {v : V} (rw' : RW K g w v) : ∀ {ks : List Str} {ws : List W} {vs : List V}, ks.length = vs.length → RWs K g ws vs →
    ∃ vs', (sputK ks f).length = vs'.length ∧ putF f v (ks.zip vs) = (sputK ks f).zip vs' ∧ RWs K g (sputW ks ws f w) vs'
  | [], ws, vs, hl, r => by
    cases vs with
    | nil =>
      have : ws = [] := by cases ws with
        | nil => rfl
        | cons _ _ => unfold RWs at r; obtain ⟨_, _, z, _⟩ := r; cases z
      subst this
      exact ⟨[v], rfl, rfl, .cons rw' .nil⟩
    | cons _ _ => cases hl
  | k :: ks, [], vs, hl, r => by unfold RWs at r; subst r; cases hl
  | k :: ks, x :: ws, vs, hl, r => by
    unfold RWs at r
    obtain ⟨v0, vr, rfl, r1, rs⟩ := r
    obtain ⟨vs', i1, i2, i3⟩ := sput_ok rw' (ks := ks) (Nat.succ.inj hl) rs
    unfold sputK sputW
    rw [List.zip_cons_cons]
    unfold putF
    by_cases hk : k = f
    · rw [if_pos hk, if_pos hk, if_pos hk]
      exact ⟨v :: vr, hl, by rw [List.zip_cons_cons], .cons rw' rs⟩
    · rw [if_neg hk, if_neg hk, if_neg hk]
      exact ⟨v0 :: vs', by simp [i1], by rw [i2, List.zip_cons_cons], .cons r1 i3⟩
theorem s_fld {f : Str} (hK : X.K = Γ.K) (cs : List Nat) (hc : ∀ c ∈ cs, Cls Γ.K (Γ.cls c) ∧ NoAttr Γ.K (Γ.cls c) f) (pv : PE X value (RDE Γ Wx fv)) (po : PE X o (RDE Γ Wx fo)) (hs : swapsWith value (some (.Attribute o f pos')) pos.line X.env = pure false := by rfl) :
    PS X (.Assign [.Attribute o f pos'] value pos) (RDS Γ Wx (sFldx cs f fv fo)) := by
  refine PS.imp (ps_fld po pv hs) fun D σ H ⟨g, sl, h, hH, hS, q⟩ => ⟨g, sl, h, hH, hS, Rz.mono (fun v H1 ⟨g1, h1, w1, l1, hH1, r1, q1⟩ => ?_) (rz_st hS q)⟩
  refine ⟨g1, sl, h1, hH1, SLk.mono l1 hS, Rz.mono (fun v2 H2 ⟨g2, h2, w2, l2, hH2, r2, q2⟩ => ?_) (rz_st (SLk.mono l1 hS) q1)⟩
  cases e : setFld cs f w2 w1 h2 with
  | none => rw [e] at q2; exact q2.elim
  | some h3 =>
    rw [e] at q2
    unfold setFld at e
    split at e
    · split at e
      · rename_i c ks ws ec
        split at e
        · rename_i hcs
          cases e
          unfold RW at r2
          obtain ⟨hn, rfl⟩ := r2
          obtain ⟨_, _, dx, vs, hl, ev, rs⟩ := hH2.cell _ _ ec
          obtain ⟨c1, c2⟩ := hc c (List.contains_iff_mem.mp hcs.1)
          obtain ⟨vs', z1, z2, z3⟩ := sput_ok (f := f) (RW.mono l2 _ _ r1) hl rs
          refine ⟨_, Γ.cls c, dx, _, rfl, ev, by rw [hK]; exact c1, by rw [hK]; exact c2, ?_, ?_⟩
          · rw [List.length_zip, hl, Nat.min_self, ← hl]; exact hcs.2
          · rw [z2]
            exact q2 g2 σ _ (.refl _) (hH2.put ec ⟨dx, vs', z1, upd_same, z3⟩) (SLk.mono (l1.trans l2) hS) rfl
        · cases e
      · cases e
    · cases e
end
end Pk
end

/-! PkJ -/
section
set_option Elab.async false
set_option linter.all false
set_option maxRecDepth 100000
namespace Pk
open PySem PySem.Spec L2

/-! ### equality of trees -/
mutual
def beqW : W → W → Bool
  | .non, .non => true
  | .bl a, .bl b => a == b
  | .int a, .int b => a == b
  | .str a, .str b => decide (a = b)
  | .tup a, .tup b => beqWs a b
  | .lst a, .lst b => beqWs a b
  | .kt a, .kt b => beqWs a b
  | .dic k a, .dic l b => decide (k = l) && beqWs a b
  | .box a, .box b => a == b
  | .scr a, .scr b => a == b
  | .tx a, .tx b => decide (a = b)
  | _, _ => false
def beqWs : List W → List W → Bool
  | [], [] => true
  | a :: as, b :: bs => beqW a b && beqWs as bs
  | _, _ => false
end
mutual
theorem beqW_eq : ∀ (a b : W), beqW a b = true → a = b
  | .non, b, h => by cases b <;> first | rfl | cases h
  | .bl a, b, h => by
    cases b with
    | bl b => rw [beq_iff_eq.mp (show (a == b) = true from h)]
    | _ => cases h
  | .int a, b, h => by
    cases b with
    | int b => rw [beq_iff_eq.mp (show (a == b) = true from h)]
    | _ => cases h
  | .str a, b, h => by
    cases b with
    | str b => rw [of_decide_eq_true (show decide (a = b) = true from h)]
    | _ => cases h
  | .tup a, b, h => by
    cases b with
    | tup b => rw [beqWs_eq a b h]
    | _ => cases h
  | .lst a, b, h => by
    cases b with
    | lst b => rw [beqWs_eq a b h]
    | _ => cases h
  | .tx a, b, h => by
    cases b with
    | tx b => rw [of_decide_eq_true (show decide (a = b) = true from h)]
    | _ => cases h
  | .kt a, b, h => by
    cases b with
    | kt b => rw [beqWs_eq a b h]
    | _ => cases h
  | .dic k a, b, h => by
    cases b with
    | dic l b =>
      obtain ⟨h1, h2⟩ := Bool.and_eq_true_iff.mp (show (decide (k = l) && beqWs a b) = true from h)
      rw [of_decide_eq_true h1, beqWs_eq a b h2]
    | _ => cases h
  | .box a, b, h => by
    cases b with
    | box b => rw [beq_iff_eq.mp (show (a == b) = true from h)]
    | _ => cases h
  | .scr a, b, h => by
    cases b with
    | scr b => rw [beq_iff_eq.mp (show (a == b) = true from h)]
    | _ => cases h
theorem beqWs_eq : ∀ (a b : List W), beqWs a b = true → a = b
  | [], b, h => by cases b with
    | nil => rfl
    | cons _ _ => cases h
  | a :: as, b, h => by
    cases b with
    | nil => cases h
    | cons b bs =>
      obtain ⟨h1, h2⟩ := Bool.and_eq_true_iff.mp (show (beqW a b && beqWs as bs) = true from h)
      rw [beqW_eq a b h1, beqWs_eq as bs h2]
end
mutual
theorem beqW_refl : ∀ a : W, beqW a a = true
  | .non => rfl
  | .bl a => by show (a == a) = true; simp
  | .int a => by show (a == a) = true; simp
  | .str a => by show decide (a = a) = true; simp
  | .tup a => beqWs_refl a
  | .lst a => beqWs_refl a
  | .kt a => beqWs_refl a
  | .dic k a => by show (decide (k = k) && beqWs a a) = true; rw [beqWs_refl a]; simp
  | .box a => by show (a == a) = true; simp
  | .scr a => by show (a == a) = true; simp
  | .tx a => by show decide (a = a) = true; simp
theorem beqWs_refl : ∀ a : List W, beqWs a a = true
  | [] => rfl
  | a :: as => by show (beqW a a && beqWs as as) = true; rw [beqW_refl a, beqWs_refl as]; rfl
end

/-! ### what is walked -/
structure ItG (Γ : Γ) (J : It) (ws : List W) (kp : HS → Bool) (g : G) : Prop where
  go : ∀ g' h' H' i, g.le g' → RH Γ g' h' H' → kp h' = true → i < ws.length → J.go i H' ∧ ∀ x H'', J.yld i H' x H'' → ∃ g'', g'.le g'' ∧ RH Γ g'' h' H'' ∧ ∀ w, ws[i]? = some w → RW Γ.K g'' w x
  stop : ∀ g' h' H', g.le g' → RH Γ g' h' H' → kp h' = true → J.stop ws.length H'
abbrev Ix := Sl → HS → R (List W × (HS → Bool))
def RzI (Γ : Γ) (Wx : WX) (g : G) (r : R (List W × (HS → Bool))) (σ : L2.St) (Q : It → Hp → Prop) : Prop := match r with
  | .ok p h' => ∀ g' H' J, g.le g' → RH Γ g' h' H' → ItG Γ J p.1 p.2 g' → Q J H'
  | .exc c h' => ∀ g' H', g.le g' → RH Γ g' h' H' → Wx (.ref (Γ.cls c)) none σ H'
  | .no => False
def RDI (Γ : Γ) (Wx : WX) (src : Ix) : TI := fun σ H Q => ∃ g sl h, RH Γ g h H ∧ SLk Γ g sl σ ∧ RzI Γ Wx g (src sl h) σ Q
section
variable {Γ : Γ} {Wx : WX} {X : Cx} {g : G} {h : HS} {H : Hp} {sl : Sl} {σ : L2.St} {tg e a b c : Expr} {f fa fb fc : Ex} {p pos tpos : Pos}
theorem RzI.le {g g' : G} {r : R (List W × (HS → Bool))} {Q : It → Hp → Prop} (l : g.le g') (x : RzI Γ Wx g r σ Q) : RzI Γ Wx g' r σ Q := by
  cases r with
  | ok w h => exact fun g2 H' J l2 => x g2 H' J (l.trans l2)
  | exc c h => exact fun g2 H' l2 => x g2 H' (l.trans l2)
  | no => exact x
theorem rzI_step {α β : Type} {Rl : G → α → β → Prop} {r : R α} {k : α → HS → R (List W × (HS → Bool))} {Q : It → Hp → Prop} (x : RzI Γ Wx g (r.bind k) σ Q) :
    Rz Γ Wx Rl g r σ fun v H1 => ∃ g1 h1 w, g.le g1 ∧ RH Γ g1 h1 H1 ∧ Rl g1 w v ∧ RzI Γ Wx g1 (k w h1) σ Q := by
  cases r with
  | ok w h => exact fun g' v H' l a b => ⟨g', h, w, l, a, b, RzI.le l x⟩
  | exc c h => exact x
  | no => exact x
theorem PI.imp {wi wi' : TI} (x : PI X tg e wi) (q : ∀ σ H R, wi' σ H R → wi σ H R) : PI X tg e wi' := ⟨fun pins s σ H R I h => x.run pins s σ H R I (q _ _ _ h)⟩
/-- a list or a tuple -/
def keep (w : W) (ws : List W) (h : HS) : Bool := match w with
  | .box n => match h.at_ n with
    | some (.lst us) => beqWs us ws
    | _ => false
  | _ => true
def iSeq (f : Ex) : Ix := fun sl h => (f sl h).bind fun w h1 => match sview h1 w with
  | some ws => .ok (ws, keep w ws) h1
  | none => .no
theorem itt_ok {K : PySem.W.Frag} {a : Addr} {ws : List W} {kp : HS → Bool} (st : ∀ g' h' H', g.le g' → RH Γ g' h' H' → kp h' = true → ∃ vs, SqT K H' a vs ∧ RWs Γ.K g' ws vs) : ItG Γ (Itt K a) ws kp g := by
  refine ⟨fun g' h' H' i l r k hi => ?_, fun g' h' H' l r k => ?_⟩
  · obtain ⟨vs, q, rs⟩ := st g' h' H' l r k
    obtain ⟨v, hv, _⟩ := rs.get (List.getElem?_eq_getElem hi)
    refine ⟨⟨vs, v, q, hv⟩, fun x H'' ⟨e, y⟩ => ?_⟩
    subst e
    refine ⟨g', .refl _, r, fun w hw => ?_⟩
    obtain ⟨v', hv', rv⟩ := rs.get hw
    have := y vs q
    rw [hv'] at this
    cases this
    exact rv
  · obtain ⟨vs, q, rs⟩ := st g' h' H' l r k
    exact ⟨vs, q, by rw [rs.len]; exact Nat.le_refl _⟩
/-- the items stand as long as the walk keeps -/
theorem sview_keep {w : W} {v : V} {ws : List W} (hH : RH Γ g h H) (r : RW Γ.K g w v) (e : sview h w = some ws) : ∃ a, v = .ref a ∧
    ((∀ g' h' H', g.le g' → RH Γ g' h' H' → keep w ws h' = true → ∃ vs, H' a = some (.lst vs) ∧ RWs Γ.K g' ws vs) ∨ (∀ g' h' H', g.le g' → RH Γ g' h' H' → keep w ws h' = true → ∃ vs, SqT Γ.K H' a vs ∧ RWs Γ.K g' ws vs)) := by
  cases w with
  | tup us =>
    cases e
    obtain ⟨a, vs, e1, q, rs⟩ := tup_ok hH r
    refine ⟨a, e1, .inr fun g' h' H' l x _ => ?_⟩
    obtain ⟨a', vs', e2, q', rs'⟩ := tup_ok x (RW.mono l _ _ r)
    rw [e1] at e2; cases e2
    exact ⟨vs', q', rs'⟩
  | kt us =>
    cases e
    obtain ⟨a, vs, e1, q, rs⟩ := kt_ok hH r
    refine ⟨a, e1, .inr fun g' h' H' l x _ => ?_⟩
    obtain ⟨a', vs', e2, q', rs'⟩ := kt_ok x (RW.mono l _ _ r)
    rw [e1] at e2; cases e2
    exact ⟨vs', q', rs'⟩
  | lst us =>
    cases e
    obtain ⟨a, vs, e1, q, rs⟩ := lview_ok (ws := ws) hH r rfl
    refine ⟨a, e1, .inl fun g' h' H' l x _ => ?_⟩
    obtain ⟨a', vs', e2, q', rs'⟩ := lview_ok (ws := ws) x (RW.mono l _ _ r) rfl
    rw [e1] at e2; cases e2
    exact ⟨vs', q', rs'⟩
  | box n =>
    obtain ⟨a, vs, e1, q, rs⟩ := lview_ok hH r e
    refine ⟨a, e1, .inl fun g' h' H' l x k => ?_⟩
    have e3 : lview h' (.box n) = some ws := by
      unfold keep at k
      simp only at k
      unfold lview
      simp only
      cases q2 : h'.at_ n with
      | none => rw [q2] at k; cases k
      | some c =>
        rw [q2] at k
        cases c with
        | lst us => rw [beqWs_eq _ _ k]
        | _ => cases k
    obtain ⟨a', vs', e2, q', rs'⟩ := lview_ok x (RW.mono l _ _ r) e3
    rw [e1] at e2; cases e2
    exact ⟨vs', q', rs'⟩
  | _ => cases e
theorem i_seq (hK : X.K = Γ.K) (pe : PE X e (RDE Γ Wx f)) : PI X tg e (RDI Γ Wx (iSeq f)) := by
  refine ⟨fun pins s σ H R I ⟨g, sl, h, hH, hS, q⟩ => ?_⟩
  refine thn (pe.run pins s σ H _ I ⟨g, sl, h, hH, hS, rzI_step q⟩) fun v s1 ⟨x, H1, I1, r1, g1, h1, w1, l1, hH1, rw1, q1⟩ => ?_
  split at q1
  · rename_i ws e1
    obtain ⟨a, rfl, st⟩ := sview_keep hH1 rw1 e1
    cases r1
    have kp0 : keep w1 ws h1 = true := by
      cases w1 with
      | box n =>
        unfold keep
        have e2 : lview h1 (.box n) = some ws := e1
        unfold lview at e2
        simp only at e2
        simp only
        cases q2 : h1.at_ n with
        | none => rw [q2] at e2; cases e2
        | some c =>
          rw [q2] at e2
          cases c with
          | lst us => cases e2; exact beqWs_refl _
          | _ => cases e2
      | _ => rfl
    rcases st with st | st
    · obtain ⟨vs, hv, rs⟩ := st g1 h1 H1 (.refl _) hH1 kp0
      obtain ⟨its, rv, p, hz⟩ := I1.list (SqL.of hv)
      refine wpAny_pyIter_list p.isList ?_
      refine ⟨s1.heap.objs.size, [s1.heap.objs.size], _, _, H1, rfl, I1.kept (t' := s1.toks) fun b o e => Heap.get?_push_of_some _ e, turn_list a _, ⟨_, Heap.get?_push_size _ rfl, rfl, rfl⟩, fun b hb => ?_, q1 g1 H1 _ (.refl _) hH1 ?_⟩
      · have e : b = s1.heap.objs.size := by simpa using hb
        subst e
        exact I1.fpOk (Nat.le_refl _) (I1.hok.fresh (Nat.le_refl _))
      · refine ⟨fun g' h' H' i l r k hi => ?_, fun g' h' H' l r k => ?_⟩
        · obtain ⟨vs, q, rs⟩ := st g' h' H' l r k
          obtain ⟨v, hv, _⟩ := rs.get (List.getElem?_eq_getElem hi)
          refine ⟨⟨vs, v, SqL.of q, hv⟩, fun x H'' ⟨e, y⟩ => ?_⟩
          subst e
          refine ⟨g', .refl _, r, fun w hw => ?_⟩
          obtain ⟨v', hv', rv⟩ := rs.get hw
          have := y vs (SqL.of q)
          rw [hv'] at this
          cases this
          exact rv
        · obtain ⟨vs, q, rs⟩ := st g' h' H' l r k
          exact ⟨vs, SqL.of q, by rw [rs.len]; exact Nat.le_refl _⟩
    · obtain ⟨vs, hv, rs⟩ := st g1 h1 H1 (.refl _) hH1 kp0
      rw [← hK] at hv
      obtain ⟨its, rv, p, hz⟩ := I1.tuple hv
      refine wpAny_pyIter_tuple (show s1.heap.IsTuple a its.toArray from p) ?_
      refine ⟨s1.heap.objs.size, [s1.heap.objs.size], _, _, H1, rfl, I1.kept (t' := s1.toks) fun b o e => Heap.get?_push_of_some _ e, turn_tuple a _, ⟨_, Heap.get?_push_size _ rfl, rfl, rfl⟩, fun b hb => ?_, q1 g1 H1 _ (.refl _) hH1 ?_⟩
      · have e : b = s1.heap.objs.size := by simpa using hb
        subst e
        exact I1.fpOk (Nat.le_refl _) (I1.hok.fresh (Nat.le_refl _))
      · exact itt_ok fun g' h' H' l r k => by
          obtain ⟨vs, q, rs⟩ := st g' h' H' l r k
          exact ⟨vs, by rw [hK]; exact q, rs⟩
  · exact q1.elim
/-- ranges -/
def rItems (lo c : Int) (n : Nat) : List W := (List.range n).map fun i => W.int (lo + (i : Nat) * c)
theorem rItems_len (lo c : Int) (n : Nat) : (rItems lo c n).length = n := by unfold rItems; rw [List.length_map, List.length_range]
theorem rItems_get {lo c : Int} {n i : Nat} {w : W} (h : (rItems lo c n)[i]? = some w) : w = .int (lo + (i : Nat) * c) := by
  unfold rItems at h
  rw [List.getElem?_map] at h
  cases q : (List.range n)[i]? with
  | none => rw [q] at h; cases h
  | some j =>
    rw [q] at h
    cases h
    obtain ⟨h1, h2⟩ := List.getElem?_eq_some_iff.mp q
    rw [List.getElem_range] at h2
    rw [h2]
theorem itr_ok {lo : Int} {n : Nat} : ItG Γ (Itr lo n) (rItems lo 1 n) (fun _ => true) g := by
  refine ⟨fun g' h' H' i l r k hi => ?_, fun g' h' H' l r k => ?_⟩
  · rw [rItems_len] at hi
    refine ⟨hi, fun x H'' ⟨e, y⟩ => ?_⟩
    subst e; subst y
    refine ⟨g', .refl _, r, fun w hw => ?_⟩
    rw [rItems_get hw, Int.mul_one]
    exact mint _
  · rw [rItems_len]; exact Nat.le_refl _
theorem itc_ok {lo c : Int} {n : Nat} : ItG Γ (Itc lo c n) (rItems lo c n) (fun _ => true) g := by
  refine ⟨fun g' h' H' i l r k hi => ?_, fun g' h' H' l r k => ?_⟩
  · rw [rItems_len] at hi
    refine ⟨hi, fun x H'' ⟨e, y⟩ => ?_⟩
    subst e; subst y
    refine ⟨g', .refl _, r, fun w hw => ?_⟩
    rw [rItems_get hw]
    exact mint _
  · rw [rItems_len]; exact Nat.le_refl _
def iR1 (fr : Ax) : Ix := fun sl h => (fr sl h).bind fun ws h1 => match ws with
  | [.int j] => if -(2 ^ 62) ≤ j ∧ j < 2 ^ 62 then .ok (rItems 0 1 j.toNat, fun _ => true) h1 else .no
  | _ => .no
def iR2 (fr : Ax) : Ix := fun sl h => (fr sl h).bind fun ws h1 => match ws with
  | [.int i, .int j] => if -(2 ^ 62) ≤ i ∧ i < 2 ^ 62 ∧ -(2 ^ 62) ≤ j ∧ j < 2 ^ 62 then .ok (rItems i 1 (j - i).toNat, fun _ => true) h1 else .no
  | _ => .no
def rgN (i j c : Int) : Nat := (Builtin.Range.rangeSize i j c).toNat
def rgOk (i j c : Int) : Bool := decide (c ≠ 0) && decide (c.natAbs < 1073741824) && Builtin.Range.small i j c && decide (0 ≤ Builtin.Range.rangeSize i j c)
def iR3 (fr : Ax) : Ix := fun sl h => (fr sl h).bind fun ws h1 => match ws with
  | [.int i, .int j, .int c] => if rgOk i j c = true then .ok (rItems i c (rgN i j c), fun _ => true) h1 else .no
  | _ => .no
theorem i_r1 {fr : Ax} (hg : Gl X "range") (hm : X.mg "range" = none) (ha : PA X [a] (RDA Γ Wx fr)) (hs : starEach [a] X.env = [(false, eval a X.env)] := by rfl) : PI X tg (.Call (.Name "range" p) [a] [] pos) (RDI Γ Wx (iR1 fr)) := by
  refine PI.imp (pi_range1 hg hm ha hs) fun σ H R ⟨g, sl, h, hH, hS, q⟩ => ⟨g, sl, h, hH, hS, Rz.mono (fun v H1 ⟨g1, h1, w1, l1, hH1, r1, q1⟩ => ?_) (rzI_step q)⟩
  split at q1
  · split at q1
    · rename_i hb
      obtain ⟨v1, rfl, r2⟩ := rws1 r1
      cases rint r2
      exact ⟨_, rfl, hb.1, hb.2, q1 g1 H1 _ (.refl _) hH1 itr_ok⟩
    · exact q1.elim
  · exact q1.elim
theorem i_r2 {fr : Ax} (hg : Gl X "range") (hm : X.mg "range" = none) (ha : PA X [a, b] (RDA Γ Wx fr)) (hs : starEach [a, b] X.env = [(false, eval a X.env), (false, eval b X.env)] := by rfl) (hs2 : starEach [b] X.env = [(false, eval b X.env)] := by rfl) :
    PI X tg (.Call (.Name "range" p) [a, b] [] pos) (RDI Γ Wx (iR2 fr)) := by
  refine PI.imp (pi_range2 hg hm ha hs hs2) fun σ H R ⟨g, sl, h, hH, hS, q⟩ => ⟨g, sl, h, hH, hS, Rz.mono (fun v H1 ⟨g1, h1, w1, l1, hH1, r1, q1⟩ => ?_) (rzI_step q)⟩
  split at q1
  · split at q1
    · rename_i hb
      obtain ⟨v1, v2, rfl, r2, r3⟩ := rws2 r1
      cases rint r2; cases rint r3
      exact ⟨_, _, rfl, hb, q1 g1 H1 _ (.refl _) hH1 itr_ok⟩
    · exact q1.elim
  · exact q1.elim
theorem rws3 {K : PySem.W.Frag} {x y z : W} {vs : List V} (r : RWs K g [x, y, z] vs) : ∃ v u t, vs = [v, u, t] ∧ RW K g x v ∧ RW K g y u ∧ RW K g z t := by
  unfold RWs at r
  obtain ⟨v, vr, rfl, r1, rs⟩ := r
  obtain ⟨u, t, rfl, r2, r3⟩ := rws2 rs
  exact ⟨v, u, t, rfl, r1, r2, r3⟩
theorem rgOk_ok {i j c : Int} (h : rgOk i j c = true) : RgC i j c (rgN i j c) := by
  unfold rgOk at h
  simp only [Bool.and_eq_true, decide_eq_true_eq] at h
  obtain ⟨⟨⟨h1, h2⟩, h3⟩, h4⟩ := h
  refine ⟨h1, h2, h3, ?_⟩
  unfold rgN
  omega
theorem i_r3 {fr : Ax} (hg : Gl X "range") (hm : X.mg "range" = none) (ha : PA X [a, b, c] (RDA Γ Wx fr)) (hs : starEach [a, b, c] X.env = (false, eval a X.env) :: starEach [b, c] X.env := by rfl) (hpl : (backTo pos (starEach [b, c] X.env)).any (·.1) = false := by rfl) :
    PI X tg (.Call (.Name "range" p) [a, b, c] [] pos) (RDI Γ Wx (iR3 fr)) := by
  refine PI.imp (pi_range3 hg hm ha hs hpl) fun σ H R ⟨g, sl, h, hH, hS, q⟩ => ⟨g, sl, h, hH, hS, Rz.mono (fun v H1 ⟨g1, h1, w1, l1, hH1, r1, q1⟩ => ?_) (rzI_step q)⟩
  split at q1
  · split at q1
    · rename_i hb
      obtain ⟨v1, v2, v3, rfl, r2, r3, r4⟩ := rws3 r1
      cases rint r2; cases rint r3; cases rint r4
      exact ⟨_, _, _, _, rfl, rgOk_ok hb, q1 g1 H1 _ (.refl _) hH1 itc_ok⟩
    · exact q1.elim
  · exact q1.elim
/-- the signs of a text -/
def iTxt (f : Ex) : Ix := fun sl h => (f sl h).bind fun w h1 => match w with
  | .str x => .ok (x.cps.toList.map fun c => W.str ⟨#[c]⟩, fun _ => true) h1
  | _ => .no
theorem i_txt (pe : PE X e (RDE Γ Wx f)) : PI X tg e (RDI Γ Wx (iTxt f)) := by
  refine PI.imp (pi_str pe) fun σ H R ⟨g, sl, h, hH, hS, q⟩ => ⟨g, sl, h, hH, hS, Rz.mono (fun v H1 ⟨g1, h1, w1, l1, hH1, r1, q1⟩ => ?_) (rzI_step q)⟩
  split at q1
  · rename_i x
    cases rstr r1
    refine ⟨x, rfl, q1 g1 H1 _ (.refl _) hH1 ⟨fun g' h' H' i l r k hi => ?_, fun g' h' H' l r k => ?_⟩⟩
    · have hi' : i < x.cps.size := by simpa using hi
      refine ⟨hi', fun y H'' ⟨e, c, hc, ev⟩ => ?_⟩
      subst e; subst ev
      refine ⟨g', .refl _, r, fun w hw => ?_⟩
      rw [List.getElem?_map, Array.getElem?_toList, hc] at hw
      cases hw
      exact mstr _
    · show x.cps.size ≤ (x.cps.toList.map fun c => W.str ⟨#[c]⟩).length
      simp
  · exact q1.elim
end
end Pk
end

/-! PkK -/
section
set_option Elab.async false
set_option linter.all false
set_option maxRecDepth 100000
namespace Pk
open PySem PySem.Spec L2

def noX {α : Type} (r : R α) : R α := match r with
  | .exc _ _ => .no
  | r => r
abbrev W0 : WX := fun _ _ _ _ => False
def wipeS (sl : Sl) : List Nat → Sl
  | [] => sl
  | v :: vs => (wipeS sl vs).set v none
def tYesx : Tx := fun _ h => .ok true h
/-- the turns of a comprehension -/
def lcLoop (own : List Nat) (kp : HS → Bool) (tg : Gx) (tt : Tx) (te : Ex) (sl : Sl) : List W → List W → HS → R (List W)
  | [], acc, h => if kp h = true then .ok acc h else .no
  | w :: ws, acc, h => if kp h = true then (match tg w (wipeS sl own) h with
    | some (s, h1) => (noX (tt s h1)).bind fun b h2 => if b = true then (noX (te s h2)).bind fun y h3 => if acc.length < sizeLine then lcLoop own kp tg tt te sl ws (acc ++ [y]) h3 else .no else lcLoop own kp tg tt te sl ws acc h2
    | none => .no) else .no
def eLc (bx : Bool) (own : List Nat) (src : Ix) (tg : Gx) (tt : Tx) (te : Ex) : Ex := fun sl h => (src sl h).bind fun p h1 => (lcLoop own p.2 tg tt te sl p.1 [] h1).bind fun acc h2 => mkL bx acc h2
def forL (kp : HS → Bool) (tg : Gx) (b : Sx) : List W → Sl → HS → RS
  | [], sl, h => if kp h = true then .nx sl h else .no
  | w :: ws, sl, h => if kp h = true then (match tg w sl h with
    | some (s, h1) => (match b s h1 with
      | .nx s2 h2 => forL kp tg b ws s2 h2
      | .ct s2 h2 => forL kp tg b ws s2 h2
      | .bk s2 h2 => .nx s2 h2
      | r => r)
    | none => .no) else .no
def sFor (src : Ix) (tg : Gx) (b : Sx) : Sx := fun sl h => match src sl h with
  | .ok p h1 => forL p.2 tg b p.1 sl h1
  | .exc c h1 => .exc c sl h1
  | .no => .no

section
variable {Γ : Γ} {Wx : WX} {X : Cx} {g : G} {h : HS} {H : Hp} {sl : Sl} {σ : L2.St}
/-- .. what follows is told from the base g -/
theorem rz_noX {α β α' β' : Type} {Rl : G → α → β → Prop} {Rl' : G → α' → β' → Prop} {r : R α} {k : α → HS → R α'} {Q : β' → Hp → Prop} (σ2 : L2.St) (g' : G) (x : Rz Γ Wx Rl' g ((noX r).bind k) σ Q) :
    Rz Γ W0 Rl g' r σ2 fun v H1 => ∃ g1 h1 w, g'.le g1 ∧ RH Γ g1 h1 H1 ∧ Rl g1 w v ∧ Rz Γ Wx Rl' g (k w h1) σ Q := by
  cases r with
  | ok w h => exact fun g2 v H' l a b => ⟨g2, h, w, l, a, b, x⟩
  | exc c h => exact x.elim
  | no => exact x.elim
theorem wipeS_some {i : Nat} {x : W} : ∀ {vs : List Nat}, (wipeS sl vs)[i]? = some (some x) → sl[i]? = some (some x) ∧ i ∉ vs
  | [], h => ⟨h, by simp⟩
  | v :: vs, h => by
    unfold wipeS at h
    by_cases hi : v = i
    · subst hi
      by_cases hv : v < (wipeS sl vs).length
      · rw [List.getElem?_set_self hv] at h; cases h
      · rw [List.getElem?_eq_none (by simpa using hv)] at h; cases h
    · rw [List.getElem?_set_ne hi] at h
      obtain ⟨h1, h2⟩ := wipeS_some h
      exact ⟨h1, by simp only [List.mem_cons, not_or]; exact ⟨fun e => hi e.symm, h2⟩⟩
theorem SLk.wipe {vs : List Nat} (x : SLk Γ g sl σ) : SLk Γ g (wipeS sl vs) (L2.wipe σ vs) := fun i w e => by
  obtain ⟨e1, n⟩ := wipeS_some e
  obtain ⟨v, e2, r⟩ := x i w e1
  exact ⟨v, by rw [wipe_out n]; exact e2, r⟩
theorem wipe_in {j : Nat} : ∀ {vs : List Nat}, j ∈ vs → (L2.wipe σ vs)[j]? = if j < σ.length then some none else none
  | v :: vs, hj => by
    unfold L2.wipe
    by_cases e : v = j
    · subst e
      by_cases hl : v < σ.length
      · rw [List.getElem?_set_self (by rw [wipe_length]; exact hl), if_pos hl]
      · rw [if_neg hl]
        exact List.getElem?_eq_none (by rw [List.length_set, wipe_length]; omega)
    · rw [List.getElem?_set_ne e]
      rcases List.mem_cons.mp hj with z | z
      · exact absurd z.symm e
      · exact wipe_in z
theorem wipe_eq {is vs : List Nat} {σ2 : L2.St} (hs : ∀ j ∈ is, j ∈ vs) (o : OnlyAt is (L2.wipe σ vs) σ2) : L2.wipe σ2 vs = L2.wipe σ vs := by
  have hl : σ2.length = σ.length := by rw [o.1, wipe_length]
  refine List.ext_getElem? fun j => ?_
  by_cases hj : j ∈ vs
  · rw [wipe_in hj, wipe_in hj, hl]
  · rw [wipe_out hj, wipe_out hj, o.2 j (fun z => hj (hs j z)), wipe_out hj]
theorem hide_le {g0 g : G} {p : Addr} {o : HO} (l : g0.le g) (n : g0.hid p = none) : g0.le (g.hide p o) := ⟨l.nx, l.ρ, l.F, fun a u e => by
  show upd g.hid p o a = some u
  rw [upd_ne (ne_of_none e n)]
  exact l.hid a u e, l.lk⟩

/-- a comprehension's block: what stands within it -/
theorem lc_rd {bx : Bool} {own is : List Nat} {gt : TG} {tt : TT} {te : TE} {tg : Gx} {ttx : Tx} {tex : Ex} {p : List W × (HS → Bool)} {J : It} {D : Addr} {Q : VK} (hs : ∀ j ∈ is, j ∈ own)
    (hg : gt = RDG Γ is tg) (ht : tt = RDT Γ W0 ttx) (he : te = RDE Γ W0 tex)
    (hH : RH Γ g h H) (hS : SLk Γ g sl σ) (it : ItG Γ J p.1 p.2 g) (hD : H D = none) (q : Rz Γ Wx (RW Γ.K) g ((lcLoop own p.2 tg ttx tex sl p.1 [] h).bind fun acc h2 => mkL bx acc h2) σ Q) :
    ∃ W : Nat → Nat → Hp → Prop, (∃ m, W 0 m (upd H D (.lst []))) ∧ ∀ i m H, W i m H →
      (J.stop i H ∧ Q (.ref D) H) ∨ (J.go i H ∧ ∃ Nx : Hp → Prop, (∀ H', Nx H' → ∃ m', m' < m ∧ W (i + 1) m' H') ∧ ∀ x H', J.yld i H x H' → gt x (L2.wipe σ own) H' fun σ2 H2 => L2.wipe σ2 own = L2.wipe σ own ∧ tt σ2 H2 fun b H3 =>
        if b = true then te σ2 H3 fun y H4 => ∃ acc, H4 D = some (.lst acc) ∧ acc.length < sizeLine ∧ Nx (upd H4 D (.lst (acc ++ [y]))) else Nx H3) := by
  subst hg; subst ht; subst he
  have nD := hH.noHid hD
  refine ⟨fun i m H' => m = p.1.length - i ∧ i ≤ p.1.length ∧ ∃ g' h' acc vs, g.le g' ∧ RH Γ g' h' H' ∧ g'.hid D = some (.lst vs) ∧ RWs Γ.K g' acc vs ∧ Rz Γ Wx (RW Γ.K) g ((lcLoop own p.2 tg ttx tex sl (p.1.drop i) acc h').bind fun acc h2 => mkL bx acc h2) σ Q, ?_, ?_⟩
  · obtain ⟨l, y, z⟩ := hH.hide hD (o := .lst []) trivial
    exact ⟨_, rfl, Nat.zero_le _, _, h, [], [], l, y, z, .nil, q⟩
  · rintro i m H' ⟨rfl, hi, g', h', acc, vs, l, y, z, rs, q⟩
    by_cases hlt : i < p.1.length
    · obtain ⟨w, hw⟩ : ∃ w, p.1[i]? = some w := ⟨_, List.getElem?_eq_getElem hlt⟩
      have hd : p.1.drop i = w :: p.1.drop (i + 1) := by
        rw [List.drop_eq_getElem_cons hlt]
        rw [List.getElem?_eq_getElem hlt] at hw
        cases hw
        rfl
      rw [hd] at q
      unfold lcLoop at q
      by_cases hk : p.2 h' = true
      · rw [if_pos hk] at q
        obtain ⟨go, yl⟩ := it.go g' h' H' i l y hk hlt
        refine .inr ⟨go, fun H2 => ∃ m', m' < p.1.length - i ∧ (m' = p.1.length - (i + 1) ∧ i + 1 ≤ p.1.length ∧ ∃ g' h' acc vs, g.le g' ∧ RH Γ g' h' H2 ∧ g'.hid D = some (.lst vs) ∧ RWs Γ.K g' acc vs ∧ Rz Γ Wx (RW Γ.K) g ((lcLoop own p.2 tg ttx tex sl (p.1.drop (i + 1)) acc h').bind fun acc h2 => mkL bx acc h2) σ Q), fun H2 nx => nx, fun x H2 hy => ?_⟩
        obtain ⟨g2, l2, y2, rw2⟩ := yl x H2 hy
        refine ⟨g2, w, wipeS sl own, h', y2, SLk.wipe (SLk.mono (l.trans l2) hS), rw2 w hw, ?_⟩
        cases et : tg w (wipeS sl own) h' with
        | none => rw [et] at q; exact q.elim
        | some sp =>
          obtain ⟨s1, h1⟩ := sp
          rw [et] at q
          intro g3 σ2 H3 l3 y3 s3 o3
          refine ⟨wipe_eq hs o3, g3, s1, h1, y3, s3, ?_⟩
          have l03 : g.le g3 := l.trans (l2.trans l3)
          have q : Rz Γ Wx (RW Γ.K) g (((noX (ttx s1 h1)).bind fun b h2 => if b = true then (noX (tex s1 h2)).bind fun y h3 => if acc.length < sizeLine then lcLoop own p.2 tg ttx tex sl (p.1.drop (i + 1)) (acc ++ [y]) h3 else .no else lcLoop own p.2 tg ttx tex sl (p.1.drop (i + 1)) acc h2).bind fun acc h2 => mkL bx acc h2) σ Q := q
          have bb : ∀ {α β γ : Type} (r : R α) (k : α → HS → R β) (k2 : β → HS → R γ), (r.bind k).bind k2 = r.bind fun a h => (k a h).bind k2 := fun r k k2 => by cases r <;> rfl
          rw [bb] at q
          refine Rz.mono (fun b H4 ⟨g4, h4, b', l4, y4, eb, q4⟩ => ?_) (rz_noX σ2 g3 q)
          subst eb
          by_cases hb : b' = true
          · rw [if_pos hb] at q4 ⊢
            rw [bb] at q4
            refine ⟨g4, s1, h4, y4, SLk.mono l4 s3, Rz.mono (fun yv H5 ⟨g5, h5, yw, l5, y5, ry, q5⟩ => ?_) (rz_noX σ2 g4 q4)⟩
            have l05 : g'.le g5 := l2.trans (l3.trans (l4.trans l5))
            have z5 : g5.hid D = some (.lst vs) := l05.hid _ _ z
            by_cases hsz : acc.length < sizeLine
            · rw [if_pos hsz] at q5
              refine ⟨vs, (y5.hd D _ z5).1, by rw [← rs.len]; exact hsz, ?_⟩
              obtain ⟨y6, z6⟩ := y5.rehide z5 (o' := .lst (vs ++ [yv])) trivial
              refine ⟨p.1.length - (i + 1), by omega, rfl, hlt, g5.hide D (.lst (vs ++ [yv])), h5, acc ++ [yw], vs ++ [yv], hide_le (l.trans l05) nD, y6, z6, ?_, ?_⟩
              · exact rws_hid (g := g5) (by rfl) (by rfl) (by rfl) ((RWs.mono l05 _ _ rs).app (.cons ry .nil))
              · exact q5
            · rw [if_neg hsz] at q5
              exact q5.elim
          · rw [if_neg hb] at q4 ⊢
            have l05 : g'.le g4 := l2.trans (l3.trans l4)
            refine ⟨p.1.length - (i + 1), by omega, rfl, hlt, g4, h4, acc, vs, l.trans l05, y4, l05.hid _ _ z, RWs.mono l05 _ _ rs, q4⟩
      · rw [if_neg hk] at q
        exact q.elim
    · have e : i = p.1.length := by omega
      subst e
      rw [List.drop_length] at q
      unfold lcLoop at q
      by_cases hk : p.2 h' = true
      · rw [if_pos hk] at q
        refine .inl ⟨it.stop g' h' H' l y hk, ?_⟩
        have q : Rz Γ Wx (RW Γ.K) g (mkL bx acc h') σ Q := q
        cases bx with
        | true =>
          obtain ⟨g2, l2, y2, r2⟩ := y.showB (c := .lst acc) z ⟨vs, (y.hd D _ z).1, rs⟩ l nD
          exact q g2 _ _ l2 y2 r2
        | false =>
          obtain ⟨g2, l2, y2, f2, _, m2⟩ := y.show_ z l nD
          refine q g2 _ _ l2 y2 ?_
          unfold RW
          exact ⟨D, vs, rfl, f2, m2 _ _ rs⟩
      · rw [if_neg hk] at q
        exact q.elim
end
end Pk
end

/-! PkL -/
section
set_option Elab.async false
set_option linter.all false
set_option maxRecDepth 100000
namespace Pk
open PySem PySem.Spec L2
section
variable {Γ : Γ} {Wx : WX} {X : Cx} {g : G} {h : HS} {H : Hp} {sl : Sl} {σ : L2.St}
theorem t_yes : PTs X [] (RDT Γ W0 tYesx) := ⟨fun pins s σ H Q I ⟨g, sl, h, hH, hS, q⟩ => pts_nil.run pins s σ H Q I (q g true H (.refl g) hH rfl)⟩
theorem t_ifs {c : Expr} {t : Tx} (p : PT X c (RDT Γ W0 t)) : PTs X [c] (RDT Γ W0 t) := pts_one p
theorem lc_in {bx : Bool} {own : List (Str × Nat)} {is : List Nat} {src : Ix} {tg : Gx} {tt : Tx} {te : Ex} (hs : ∀ j ∈ is, j ∈ own.map (·.2)) {σ : L2.St} {H : Hp} {Q : VK} (x : RDE Γ Wx (eLc bx (own.map (·.2)) src tg tt te) σ H Q) :
    tLc (RDI Γ Wx src) (RDG Γ is tg) (RDT Γ W0 tt) (RDE Γ W0 te) (own.map (·.2)) σ H Q := by
  obtain ⟨g, sl, h, hH, hS, q⟩ := x
  refine ⟨g, sl, h, hH, hS, ?_⟩
  unfold eLc at q
  cases e : src sl h with
  | no => rw [e] at q; exact q.elim
  | exc c h1 => rw [e] at q; exact q
  | ok p h1 =>
    rw [e] at q
    intro g' H' J l y it D hD
    exact lc_rd hs rfl rfl rfl y (SLk.mono l hS) it hD (Rz.le l q)
theorem e_lc {elt tgt iter : Expr} {ifs : List Expr} {scope : Scope} {own : List (Str × Nat)} {pos : Pos} {is : List Nat} {src : Ix} {tg : Gx} {tt : Tx} {te : Ex} (bx : Bool) (hc : X.calm = true) (hN : X.N.Nodup) (hi : PI X tgt iter (RDI Γ Wx src)) (ok : BlkOk X.N X.env.scope scope own)
    (hg : ∀ (s : Shared) (H : Hp) (C : Addr) (cl : List (Str × Addr)) (fp : List Addr), PG (X.blk s H scope (compEnvC scope cl C X.env) fp) tgt (RDG Γ is tg))
    (ht : ∀ (s : Shared) (H : Hp) (C : Addr) (cl : List (Str × Addr)) (fp : List Addr), PTs (X.blk s H scope (compEnvC scope cl C X.env) fp) ifs (RDT Γ W0 tt))
    (he : ∀ (s : Shared) (H : Hp) (C : Addr) (cl : List (Str × Addr)) (fp : List Addr), PE (X.blk s H scope (compEnvC scope cl C X.env) fp) elt (RDE Γ W0 te))
    (hs : ∀ j ∈ is, j ∈ own.map (·.2) := by decide) (hf : ∀ x, foldedSetIterable iter X.env x = pure x := by intro _; rfl) :
    PE X (.ListComp elt [⟨tgt, iter, ifs, 0⟩] scope pos) (RDE Γ Wx (eLc bx (own.map (·.2)) src tg tt te)) :=
  PE.imp (pe_lc hc hN hi ok hg ht he hf) fun σ H Q x => lc_in hs x
/-- y = [..] on one line -/
theorem s_setLc {y : Str} {py : Pos} {elt tgt iter : Expr} {ifs : List Expr} {scope : Scope} {own : List (Str × Nat)} {pos spos : Pos} {is : List Nat} {src : Ix} {tg : Gx} {tt : Tx} {te : Ex} (bx : Bool) (i : Nat) (hc : X.calm = true) (hN : X.N.Nodup) (hi : PI X tgt iter (RDI Γ Wx src)) (ok : BlkOk X.N X.env.scope scope own)
    (hg : ∀ (s : Shared) (H : Hp) (C : Addr) (cl : List (Str × Addr)) (fp : List Addr), PG (X.blk s H scope (compEnvC scope cl C X.env) fp) tgt (RDG Γ is tg))
    (ht : ∀ (s : Shared) (H : Hp) (C : Addr) (cl : List (Str × Addr)) (fp : List Addr), PTs (X.blk s H scope (compEnvC scope cl C X.env) fp) ifs (RDT Γ W0 tt))
    (he : ∀ (s : Shared) (H : Hp) (C : Addr) (cl : List (Str × Addr)) (fp : List Addr), PE (X.blk s H scope (compEnvC scope cl C X.env) fp) elt (RDE Γ W0 te))
    (hy : X.N[i]? = some y := by rfl) (hyl : X.env.scope.names.lookup y = some .local := by rfl)
    (hl : ∀ (pins : List (Addr × Obj)) (s : Shared) (σ : L2.St) (H : Hp), Inv X pins σ H s → i < σ.length := by
      intro pins s σ H I; rw [I.len]; exact (by decide))
    (hsw : swapsWith (.ListComp elt [⟨tgt, iter, ifs, 0⟩] scope pos) (some (.Name y py)) spos.line X.env = pure true := by exact sw_true rfl rfl rfl (by decide +kernel))
    (hs : ∀ j ∈ is, j ∈ own.map (·.2) := by decide) (hf : ∀ x, foldedSetIterable iter X.env x = pure x := by intro _; rfl) :
    PS X (.Assign [.Name y py] (.ListComp elt [⟨tgt, iter, ifs, 0⟩] scope pos) spos) (RDS Γ Wx (sAsg (eLc bx (own.map (·.2)) src tg tt te) (gN i))) := by
  refine ⟨fun pins s σ H D I ⟨g, sl, h, hH, hS, q⟩ => (ps_setLc hc hN hy hyl hsw hi ok hg ht he hf).run pins s σ H D I ?_⟩
  refine lc_in (bx := bx) hs (Q := fun x H1 => gName i x σ H1 D.nx) ⟨g, sl, h, hH, hS, Rz.mono (fun v H1 ⟨g1, h1, w1, l1, hH1, r1, q1⟩ => ?_) (rz_st hS q)⟩
  exact q1 g1 (σ.set i (some v)) H1 (.refl _) hH1 ((SLk.mono l1 hS).set r1 (hl pins s σ H I)) (by rw [List.length_set])
theorem s_for {tgt iter : Expr} {body : List Stmt} {is : List Nat} {src : Ix} {tg : Gx} {b : Sx} {pos : Pos} (hp : PassesOwn (model X.prog X.w) X.A X.env X.xe) (hc : X.calm = true) (hi : PI X tgt iter (RDI Γ Wx src)) (hg : PG X tgt (RDG Γ is tg)) (hb : PSs X body (RDS Γ Wx b))
    (hf : ∀ x, foldedSetIterable iter X.env x = pure x := by intro _; rfl) : PS X (.For tgt iter body [] pos) (RDS Γ Wx (sFor src tg b)) := by
  refine PS.imp (ps_for hp hc hi hg hb hf) fun D σ H ⟨g, sl, h, hH, hS, q⟩ => ⟨g, sl, h, hH, hS, ?_⟩
  unfold sFor at q
  cases e : src sl h with
  | no => rw [e] at q; exact q.elim
  | exc c h1 => rw [e] at q; exact fun g' H' l y => q g' σ H' l y (SLk.mono l hS) rfl
  | ok p h1 =>
    rw [e] at q
    have q : RzS Γ Wx g σ.length (forL p.2 tg b p.1 sl h1) D := q
    intro g0 H0 J l0 y0 it
    refine ⟨fun i m σ' H' => m = p.1.length - i ∧ i ≤ p.1.length ∧ ∃ g' sl' h', g0.le g' ∧ RH Γ g' h' H' ∧ SLk Γ g' sl' σ' ∧ σ'.length = σ.length ∧ RzS Γ Wx g σ.length (forL p.2 tg b (p.1.drop i) sl' h') D, ⟨_, rfl, Nat.zero_le _, g0, sl, h1, .refl _, y0, SLk.mono l0 hS, rfl, q⟩, ?_⟩
    rintro i m σ' H' ⟨rfl, hi, g', sl', h', l, y, s', hn, q⟩
    by_cases hlt : i < p.1.length
    · obtain ⟨w, hw⟩ : ∃ w, p.1[i]? = some w := ⟨_, List.getElem?_eq_getElem hlt⟩
      have hd : p.1.drop i = w :: p.1.drop (i + 1) := by
        rw [List.drop_eq_getElem_cons hlt]
        rw [List.getElem?_eq_getElem hlt] at hw
        cases hw
        rfl
      rw [hd] at q
      unfold forL at q
      by_cases hk : p.2 h' = true
      · rw [if_pos hk] at q
        obtain ⟨go, yl⟩ := it.go g' h' H' i l y hk hlt
        refine .inr ⟨go, fun σ2 H2 => ∃ m', m' < p.1.length - i ∧ (m' = p.1.length - (i + 1) ∧ i + 1 ≤ p.1.length ∧ ∃ g' sl' h', g0.le g' ∧ RH Γ g' h' H2 ∧ SLk Γ g' sl' σ2 ∧ σ2.length = σ.length ∧ RzS Γ Wx g σ.length (forL p.2 tg b (p.1.drop (i + 1)) sl' h') D), fun σ2 H2 nx => nx, fun x H2 hy => ?_⟩
        obtain ⟨g2, l2, y2, rw2⟩ := yl x H2 hy
        refine ⟨g2, w, sl', h', y2, SLk.mono l2 s', rw2 w hw, ?_⟩
        cases et : tg w sl' h' with
        | none => rw [et] at q; exact q.elim
        | some sp =>
          obtain ⟨s1, h1⟩ := sp
          rw [et] at q
          have q : RzS Γ Wx g σ.length (match b s1 h1 with
            | .nx s2 h2 => forL p.2 tg b (p.1.drop (i+1)) s2 h2
            | .ct s2 h2 => forL p.2 tg b (p.1.drop (i+1)) s2 h2
            | .bk s2 h2 => .nx s2 h2
            | r => r) D := q
          intro g3 σ2 H3 l3 y3 s3 o3
          have lg : g.le g3 := l0.trans (l.trans (l2.trans l3))
          refine ⟨g3, s1, h1, y3, s3, ?_⟩
          have hn2 : σ2.length = σ.length := o3.1.trans hn
          rw [hn2]
          cases eb : b s1 h1 with
          | nx s2 h2 =>
            rw [eb] at q
            exact fun g4 σ4 H4 l4 y4 s4 n4 => ⟨p.1.length - (i + 1), by omega, rfl, hlt, g4, s2, h2, l.trans (l2.trans (l3.trans l4)), y4, s4, n4, q⟩
          | ct s2 h2 =>
            rw [eb] at q
            exact fun g4 σ4 H4 l4 y4 s4 n4 => ⟨p.1.length - (i + 1), by omega, rfl, hlt, g4, s2, h2, l.trans (l2.trans (l3.trans l4)), y4, s4, n4, q⟩
          | bk s2 h2 => rw [eb] at q; exact rzS_le lg q
          | rt w2 h2 => rw [eb] at q; exact rzS_le lg q
          | exc c s2 h2 => rw [eb] at q; exact rzS_le lg q
          | no => rw [eb] at q; exact q
      · rw [if_neg hk] at q
        exact q.elim
    · have e : i = p.1.length := by omega
      subst e
      rw [List.drop_length] at q
      unfold forL at q
      by_cases hk : p.2 h' = true
      · rw [if_pos hk] at q
        exact .inl ⟨it.stop g' h' H' l y hk, q g' σ' H' (l0.trans l) y s' hn⟩
      · rw [if_neg hk] at q
        exact q.elim
end
end Pk
end

/-! PkM -/
section
set_option Elab.async false
set_option linter.all false
set_option maxRecDepth 100000
set_option maxHeartbeats 2000000
namespace Pk
open PySem PySem.Spec L2
open Sem (wp)
/-! a generator's runs, told of a ghost x that the one who takes may change -/
structure GP (γ : Type) where
  R : γ → Result → Shared → Prop
  Y : γ → Value → γ → Shared → Prop
  Re : γ → γ → Shared → Prop
def EndG {γ : Type} (P : GP γ) (n : Nat) (go : Nat → γ → Code → Sem Fin → List Frame → Shared → Prop) (x : γ) (e : End) (s' : Shared) : Prop :=
  match e with
  | .ret r => P.R x r s'
  | .susp v g l k c p fs => (End.susp v g l k c p fs).quiet = true ∧ ∃ m, n = m + 1 ∧ ∃ x1, P.Y x v x1 s' ∧ ∀ x2 s2, P.Re x1 x2 s2 → go m x2 c (k (.send .none)) fs s2
def SegG {γ : Type} (M : Model) (A : Around) (P : GP γ) : Nat → γ → Code → Sem Fin → List Frame → Shared → Prop
  | 0 => fun x c t fs s => ∀ Γ p, Γ.code = c → Γ.Woken A → ∃ e s', Runs M Γ p t fs s e s' ∧ EndG P 0 (fun _ _ _ _ _ _ => False) x e s'
  | n + 1 => fun x c t fs s => ∀ Γ p, Γ.code = c → Γ.Woken A → ∃ e s', Runs M Γ p t fs s e s' ∧ EndG P (n + 1) (fun _ x2 c2 t2 fs2 s2 => SegG M A P n x2 c2 t2 fs2 s2) x e s'
section
variable {γ : Type} {M : Model} {A : Around} {P : GP γ} {n : Nat} {x : γ} {c : Code} {t : Sem Fin} {fs : List Frame} {s : Shared}
theorem segG_iff : SegG M A P n x c t fs s ↔ ∀ Γ p, Γ.code = c → Γ.Woken A → ∃ e s', Runs M Γ p t fs s e s' ∧ EndG P n (fun m x2 c2 t2 fs2 s2 => SegG M A P m x2 c2 t2 fs2 s2) x e s' := by
  have key : ∀ (e : End) (s' : Shared), (match n with
      | 0 => EndG P 0 (fun _ _ _ _ _ _ => False) x e s'
      | n + 1 => EndG P (n + 1) (fun _ x2 c2 t2 fs2 s2 => SegG M A P n x2 c2 t2 fs2 s2) x e s') ↔ EndG P n (fun m x2 c2 t2 fs2 s2 => SegG M A P m x2 c2 t2 fs2 s2) x e s' := by
    intro e s'
    cases n with
    | zero =>
      cases e with
      | ret r => exact Iff.rfl
      | susp v g l k c p fs =>
        constructor
        · rintro ⟨_, m, e, _⟩
          cases e
        · rintro ⟨_, m, e, _⟩
          cases e
    | succ n =>
      cases e with
      | ret r => exact Iff.rfl
      | susp v g l k c p fs =>
        constructor
        · rintro ⟨q, m, e, x1, y, z⟩
          cases e
          exact ⟨q, _, rfl, x1, y, z⟩
        · rintro ⟨q, m, e, x1, y, z⟩
          cases e
          exact ⟨q, _, rfl, x1, y, z⟩
  cases n with
  | zero => exact ⟨fun h Γ p a b => let ⟨e, s', r, z⟩ := h Γ p a b; ⟨e, s', r, (key e s').mp z⟩, fun h Γ p a b => let ⟨e, s', r, z⟩ := h Γ p a b; ⟨e, s', r, (key e s').mpr z⟩⟩
  | succ n => exact ⟨fun h Γ p a b => let ⟨e, s', r, z⟩ := h Γ p a b; ⟨e, s', r, (key e s').mp z⟩, fun h Γ p a b => let ⟨e, s', r, z⟩ := h Γ p a b; ⟨e, s', r, (key e s').mpr z⟩⟩
theorem segG_wrap {α : Type} {m : Sem α} {K : α → Sem Fin} {H : Value → Sem Fin} {gd lv}
    (h : wpAny M (A.over c fs) m (fun a s' => SegG M A P n x c (K a) fs s') (fun y s' => SegG M A P n x c (H y) fs s') s) :
    SegG M A P n x c (m.wrap K H gd lv) fs s := by
  rw [segG_iff]
  rintro Γ p rfl hΓ
  exact runs_wrap_of_wp K H gd lv m (h (Γ.over fs) p (hΓ.over fs)) (fun a p' s' h' => segG_iff.mp h' Γ p' rfl hΓ) (fun y p' s' h' => segG_iff.mp h' Γ p' rfl hΓ)
theorem segG_bind_wrap {α β : Type} {m : Sem α} {K : α → Sem β} {K' : β → Sem Fin} {H' : Value → Sem Fin} {gd lv}
    (h : wpAny M (A.over c fs) m (fun a s' => SegG M A P n x c ((K a).wrap K' H' gd lv) fs s') (fun y s' => SegG M A P n x c (H' y) fs s') s) : SegG M A P n x c ((m >>= K).wrap K' H' gd lv) fs s := by
  rw [Sem.bind_eq_wrap', Sem.wrap_wrap]; exact segG_wrap h
theorem segG_at {p' : Pos} {k : Unit → Sem Fin} (h : SegG M A P n x c (k ()) fs s) : SegG M A P n x c (.at p' k) fs s :=
  segG_wrap (m := standAt p') (K := k) (H := .raise) (gd := id) (lv := id) (wpAny_standAt h)
theorem segG_again {c' : Code} (hq : c'.quiet = true) (hc : SegG M A P n x c' (M.den c') fs s) : SegG M A P n x c (.pure (.again c')) fs s := by
  rw [segG_iff]
  rintro Γ p rfl hΓ
  obtain ⟨e, s', hr, he⟩ := segG_iff.mp hc (Γ.goto c') p rfl (hΓ.goto c')
  exact ⟨e, s', Runs.head (c₁ := c') (fun _ _ x => .again hq x) hr, he⟩
theorem segG_end (r : Result) (h : P.R x r s) : SegG M A P n x c (leafOf r) [] s := by
  rw [segG_iff]
  rintro Γ p rfl _
  exact ⟨.ret r, s, Runs.leaf r, h⟩
theorem segG_yield {v g l} {k : Resume → Sem Fin} {x1 : γ} (hfs : splitAtGen fs = none) (hg : g = false) (hfg : fs.any Frame.guarded = false)
    (hy : P.Y x v x1 s) (h : ∀ x2 s2, P.Re x1 x2 s2 → SegG M A P n x2 c (k (.send .none)) fs s2) : SegG M A P (n + 1) x c (.yield v g l k) fs s := by
  rw [segG_iff]
  rintro Γ p rfl _
  exact ⟨_, s, Runs.yield' fs hfs, ⟨by simp [End.quiet, hg, hfg], n, rfl, x1, hy, h⟩⟩
end
def GoesG {γ : Type} (M : Model) (A : Around) (P : GP γ) (n : Nat) (x : γ) (gs : GenState) (s : Shared) : Prop :=
  match gs with
  | .fresh c => SegG M A P n x c (M.den c) [] s
  | .suspended k _ c _ fs _ => SegG M A P n x c (k (.send .none)) fs s
  | _ => False
theorem wpAny_resumeG {γ : Type} {M : Model} {A : Around} {P : GP γ} {n : Nat} {x : γ} {E : Value → Shared → Prop} {s : Shared} {g : Nat} {gs : GenState} {l : List Value} {α : Type} {k : GenResult → Sem α} {Q : α → Shared → Prop} (hg : s.gens[g]? = some gs)
    (hgo : GoesG M A P n x gs (s.setGen g .running))
    (hR : ∀ r s₁, P.R x r s₁ → wpAny M A (k (End.ret r).result) Q E (s₁.setGen g .finished))
    (hY : ∀ v s₁ gs' m x1, gs'.bare = true → n = m + 1 → P.Y x v x1 s₁ → (∀ x2 s2, P.Re x1 x2 s2 → GoesG M A P m x2 gs' s2) → wpAny M A (k (.yielded v)) Q E (s₁.setGen g gs')) :
    wpAny M A (.resume g (.send .none) l k) Q E s := by
  intro Γ p hΓ
  rw [Sem.wp_resume]
  have hB : ∀ c, (Γ.wake c p).Woken A := fun c => hΓ.wake c p
  have fin : ∀ e₁ s₁, EndG P n (fun m x2 c2 t2 fs2 s2 => SegG M A P m x2 c2 t2 fs2 s2) x e₁ s₁ → wp M Γ (k e₁.result) (fun a _ s' => Q a s') (fun e _ s' => E e s') p (s₁.setGen g e₁.genState) := by
    intro e₁ s₁ he
    cases e₁ with
    | ret r => exact hR r s₁ he Γ p hΓ
    | susp v g₀ l₀ k₀ c₀ p₀ fs₀ =>
      obtain ⟨hq, m, hm, x1, hy, hz⟩ := he
      exact hY v s₁ _ m x1 (End.bare_of_quiet hq) hm hy (fun x2 s2 h2 => hz x2 s2 h2) Γ p hΓ
  have hqt : ∀ e₁ s₁, EndG P n (fun m x2 c2 t2 fs2 s2 => SegG M A P m x2 c2 t2 fs2 s2) x e₁ s₁ → e₁.quiet = true := by
    intro e₁ s₁ he
    cases e₁ with
    | ret r => rfl
    | susp v g₀ l₀ k₀ c₀ p₀ fs₀ => exact he.1
  cases gs with
  | fresh c =>
    obtain ⟨e₁, s₁, hr, he⟩ := segG_iff.mp hgo (Γ.wake c p) p rfl (hB c)
    exact ⟨_, _, by unfold Wakes; rw [hg]; exact ⟨e₁, s₁, hr, hqt e₁ s₁ he, rfl, rfl⟩, fin e₁ s₁ he⟩
  | suspended k₀ l₀ c₀ p₀ fs₀ cl =>
    obtain ⟨e₁, s₁, hr, he⟩ := segG_iff.mp hgo (Γ.wake c₀ p) p₀ rfl (hB c₀)
    exact ⟨_, _, by unfold Wakes; rw [hg]; exact ⟨e₁, s₁, hr, hqt e₁ s₁ he, rfl, rfl⟩, fin e₁ s₁ he⟩
  | running => exact hgo.elim
  | finished => exact hgo.elim
section
variable {γ : Type} {prog : Program} {w : World} {A : Around} {P : GP γ} {E : Value → Shared → Prop} {s : Shared}
theorem wpAny_pyNextG {a : Addr} {g n : Nat} {x : γ} {gs : GenState} {Q : Option Value → Shared → Prop} (hh : A.handled = none)
    (hl : s.heap.NoLimit) (hroom : A.depth < recursionLimit) (hg : s.heap.IsGen a g) (hgs : s.gens[g]? = some gs)
    (hgo : GoesG (model prog w) A.in1 P n x gs (s.setGen g .running))
    (hY : ∀ v s₁ gs' m x1, gs'.bare = true → n = m + 1 → P.Y x v x1 s₁ → (∀ x2 s2, P.Re x1 x2 s2 → GoesG (model prog w) A.in1 P m x2 gs' s2) → Q (some v) (s₁.setGen g gs'))
    (hR : ∀ r s₁, P.R x r s₁ → r = .ok .next ∧ ∀ h', (∀ b o, s₁.heap.get? b = some o → h'.get? b = some o) → Q none { s₁.setGen g .finished with heap := h' }) :
    wpAny (model prog w) A (pyNext (.ref a)) Q E s := by
  unfold pyNext
  refine wpAny_bind (wpAny_attempt (wpAny_callSpecial?_slot (name := Str.ofString "__next__") hg.typeIs slot_gen_next
    (wpAny_call_entry slot_gen_next hg.typeIs entry_gen_next ?_ (args_gen_next _))))
  show wpAny _ A.in1 (Builtin.Generator.genWake (.ref a) (.send .none)) _ _ s
  unfold Builtin.Generator.genWake
  refine wpAny_bind (wpAny_holding (wpAny_genNumber hg (wpAny_bind (wpAny_genState hgs ?_))))
  cases gs with
  | running => exact hgo.elim
  | finished => exact hgo.elim
  | _ =>
    refine wpAny_bind (wpAny_roomToWake hl hroom ?_)
    show wpAny _ A.in1 (.resume g (.send .none) [] _) _ _ s
    refine wpAny_resumeG hgs hgo (fun r s₁ hx => ?_) (fun v s₁ gs' m x1 hb hm hv hz => ?_)
    · obtain ⟨rfl, hp⟩ := hR r s₁ hx
      show wpAny _ A.in1 (newExc (.type "StopIteration") [] >>= _) _ _ _
      refine wpAny_bind ?_
      simp only [newExc, newTuple]
      refine wpAny_bind (wpAny_newObj_type ?_ (by size_fits))
      refine wpAny_bind (m := firstArgMember _ _) (wpAny_of_eq (a := Value.none) (by first | rfl | (simp only [firstArgMember]; rfl)) ?_)
      refine wpAny_newObj_type ?_ (by size_fits)
      simp only [raiseNew]
      refine wpAny_bind (wpAny_bind (wpAny_handled ?_))
      first | rw [show A.in1.handled = none from hh] | rw [hh]
      refine wpAny_throw ?_
      refine wpAny_bind (wpAny_isInstance (T := "StopIteration") (b := true) ⟨_, Heap.get?_push_size _ rfl, rfl⟩ isSubtype_stop ?_)
      exact wpAny_pure (hp _ fun b o hb => Heap.get?_push_of_some _ (Heap.get?_push_of_some _ hb))
    · exact wpAny_pure ⟨v, rfl, wpAny_pure (hY v s₁ gs' m x1 hb hm hv hz)⟩
end
end Pk
end

/-! PkN -/
section
set_option Elab.async false
set_option linter.all false
set_option maxRecDepth 100000
set_option maxHeartbeats 2000000
namespace Pk
open PySem PySem.Spec L2
/-- a generator expression's names: its own (places in N), and captured ones -/
structure GenB (N : List Str) (sc scope : Scope) (own : List (Str × Nat)) : Prop where
  kind : scope.kind = .function
  co : scope.isCoroutine = false
  cell : ∀ y ∈ scope.names, y.2 ≠ .cell
  dot : scope.names.lookup (".0" : Str) = some NameKind.local
  ix : ∀ p ∈ own, N[p.2]? = some p.1
  own : ∀ y ∈ scope.names, y.2 = .local → y.1 ∈ own.map (·.1) ∨ y.1 ∉ N
  free : ∀ y ∈ scope.names, y.2 = .free → sc.names.lookup y.1 = some .cell ∨ sc.names.lookup y.1 = some .free
def genBB (N : List Str) (sc scope : Scope) (own : List (Str × Nat)) : Bool :=
  decide (scope.kind = .function) && !scope.isCoroutine && scope.names.all (fun y => !decide (y.2 = .cell)) && decide (scope.names.lookup (".0" : Str) = some NameKind.local) &&
  own.all (fun p => decide (N[p.2]? = some p.1)) && scope.names.all (fun y => !decide (y.2 = .local) || (own.map (·.1)).contains y.1 || !N.contains y.1) &&
  scope.names.all fun y => !decide (y.2 = .free) || decide (sc.names.lookup y.1 = some .cell) || decide (sc.names.lookup y.1 = some .free)
theorem genB_by {N : List Str} {sc scope : Scope} {own : List (Str × Nat)} (h : genBB N sc scope own = true) : GenB N sc scope own := by
  unfold genBB at h
  simp only [Bool.and_eq_true, Bool.or_eq_true, Bool.not_eq_true', decide_eq_true_eq, decide_eq_false_iff_not, List.all_eq_true] at h
  obtain ⟨⟨⟨⟨⟨⟨h1, h2⟩, h3⟩, h4⟩, h5⟩, h6⟩, h7⟩ := h
  refine ⟨h1, h2, h3, h4, h5, fun y hy e => ?_, fun y hy e => ?_⟩
  · rcases h6 y hy with (z | z) | z
    · exact absurd e z
    · exact .inl (List.contains_iff_mem.mp z)
    · exact .inr fun q => by rw [List.contains_iff_mem.mpr q] at z; cases z
  · rcases h7 y hy with (z | z) | z
    · exact absurd e z
    · exact .inl z
    · exact .inr z
abbrev gnEnv (X : Cx) (scope : Scope) (C : Addr) (code : Value) : Env := genEnv scope (cloFrom X.env.cells scope.names []) C code builtinsNs X.env
abbrev gnCx (X : Cx) (Ag : Around) (s : Shared) (H : Hp) (cenv : Env) (fp : List Addr) : Cx := { X with A := Ag, s_0 := s, H_0 := H, env := cenv, outer := X.stack, stack := cenv :: X.stack, ex := fp, fn := fun _ => false, calm := true, pn := [], xe := fun _ _ => False }
section
variable {X : Cx} {pins : List (Addr × Obj)} {σ : L2.St} {H : Hp} {s : Shared}
theorem GenB.has {scope : Scope} {own : List (Str × Nat)} (ok : GenB X.N X.env.scope scope own) (I : Inv X pins σ H s) : ∀ y ∈ scope.names, y.2 = .free → ∃ c, X.env.cells.lookup y.1 = some c := fun y hy e => by
  rcases ok.free y hy e with k | k
  · exact I.ok.has _ (.inl k)
  · exact I.ok.has _ (.inr k)
theorem gen_start {Ag : Around} {scope : Scope} {own : List (Str × Nat)} {fp : List Addr} {it code : Value} {h' : Heap} {g' : Array GenState} {tk : Nat} (I : Inv X pins σ H s) (ok : GenB X.N X.env.scope scope own) (hN : X.N.Nodup) (hfp : ∀ b ∈ fp, FpOk X pins H b ∧ b < s.heap.objs.size)
    (hd : Ag.handled = none) (hfr : Ag.frames = some (gnEnv X scope s.heap.objs.size code :: X.stack)) (hns : h'.Ns s.heap.objs.size fun y => if y = ".0" then some it else none) (kp : ∀ b o, s.heap.get? b = some o → h'.get? b = some o) (hb : PyProof.Rows.AllBare g') :
    Inv (gnCx X Ag s H (gnEnv X scope s.heap.objs.size code) fp) [] (wipe σ (own.map (·.2))) H { s with heap := h', gens := g', toks := tk } := by
  have hfree := ok.has I
  have cm : ∀ {y c}, (cloFrom X.env.cells scope.names []).lookup y = some c → X.env.cells.lookup y = some c ∧ c < s.heap.objs.size := fun {y c} e => by
    rcases cloFrom_mem (PySem.mem_of_lookup e) with hm | ⟨h1, h2⟩
    · cases hm
    · obtain ⟨c1, hc⟩ := hfree _ h1 rfl
      have hc : X.env.cells.lookup y = some c1 := hc
      have e2 : c = c1 := by
        rw [h2, hc] <;> rfl
      rw [e2]
      obtain ⟨w, z⟩ := I.cell _ _ hc
      exact ⟨hc, z.lt⟩
  have look : ∀ {y}, scope.names.lookup y = some .free → ∃ c, (cloFrom X.env.cells scope.names []).lookup y = some c := fun {y} hl => by
    have hy : (y, NameKind.free) ∈ scope.names := PySem.mem_of_lookup hl
    exact mem_lookup (cloFrom_has (cells := X.env.cells) (acc := []) hy)
  have okB : (gnCx X Ag s H (gnEnv X scope s.heap.objs.size code) fp).Ok := by
    refine ⟨I.ok.mod, ok.kind, I.ok.glob, rfl, Nat.le_refl _, fun y z c e1 e2 => I.ok.inj y z c (cm e1).1 (cm e2).1, fun y hy => ?_, fun y c z _ => ?_, fun _ => hd, hfr, .inr ⟨rfl, rfl⟩, fun b hb => ⟨Nat.ne_of_lt (hfp b hb).2, fun y c e z => ?_⟩, I.bs, Nat.le_trans I.ok.bsz I.sz, fun b o e hb => ?_, fun b hb z => ?_, I.stack, I.stkFree⟩
    · have hy : scope.names.lookup y = some .cell ∨ scope.names.lookup y = some .free := hy
      rcases hy with hy | hy
      · exact absurd rfl (ok.cell _ (PySem.mem_of_lookup hy))
      · exact look hy
    · have z : false = true := z
      cases z
    · exact (hfp b hb).1.2.2.2.2.1 y c (cm e).1 z
    · rcases (hfp b hb).1.2.2.2.1 with z | z
      · exact I.ok.noex b o e z
      · exact absurd (Nat.lt_of_lt_of_le (Heap.lt_size e) (Nat.le_trans I.ok.bsz z)) (Nat.lt_irrefl _)
    · rcases List.mem_cons.mp (I.stkSub b z) with z | z
      · exact (hfp b hb).1.2.1 z
      · exact (hfp b hb).1.2.2.1 z
  refine ⟨okB, rfl, hb, Un.kept kp, ⟨_, hns, fun i y av e1 e2 e3 => ?_⟩, fun y c e => ?_, I.hok.fresh (Nat.le_refl _), fun y c e => I.freeC y c (cm e).1, fun p hp => absurd (show p ∈ ([] : List (Addr × Obj)) ++ [] from hp) (by simp), I.hok.kept kp, by rw [wipe_length]; exact I.len⟩
  · obtain ⟨e2, hne⟩ := wipe_some e2
    have e3 : Vis scope y := e3
    rcases e3 with k | k | k
    · rcases ok.own _ (PySem.mem_of_lookup k) rfl with z | z
      · obtain ⟨p, hp, hpy⟩ := List.mem_map.mp z
        have e4 := ok.ix p hp
        have : p.1 = y := hpy
        rw [this] at e4
        exact absurd (List.mem_map.mpr ⟨p, hp, nodup_ix hN e4 e1⟩) hne
      · exact absurd (List.mem_of_getElem? e1) z
    · exact absurd rfl (ok.cell _ (PySem.mem_of_lookup k))
    · obtain ⟨m, hn, hl⟩ := I.loc
      have hvis : Vis X.env.scope y := (ok.free _ (PySem.mem_of_lookup k) rfl).elim (fun k => .inr (.inl k)) (fun k => .inr (.inr k))
      obtain ⟨w', r, q⟩ := hl i y av e1 e2 hvis
      obtain ⟨c2, h2⟩ := look k
      refine ⟨w', r, .inr ⟨.inr k, c2, h2, ?_⟩⟩
      have c1 := (cm h2).1
      rcases q with ⟨k', _⟩ | ⟨_, c3, e', z⟩
      · have k' : X.env.scope.names.lookup y = some .local := k'
        rcases ok.free _ (PySem.mem_of_lookup k) rfl with k2 | k2 <;> rw [show X.env.scope.names.lookup y = _ from k2] at k' <;> cases k'
      · rw [c1] at e'
        cases e'
        exact z.keeps kp
  · obtain ⟨w', z⟩ := I.cell y c (cm e).1
    exact ⟨w', z.keeps kp⟩
end
end Pk
end

/-! PkO -/
section
set_option Elab.async false
set_option linter.all false
set_option maxRecDepth 100000
set_option maxHeartbeats 2000000
namespace Pk
open PySem PySem.Spec L2
structure Gho (α : Type) where
  acc : α
  i : Nat
  m : Nat
  H : Hp
  pins : List (Addr × Obj)
structure Gi (Xg : Cx) (σw : L2.St) (fp : List Addr) (tn : Nat → Heap → Prop) (pins : List (Addr × Obj)) (i : Nat) (H : Hp) (s : Shared) : Prop where
  inv : Inv Xg pins σw H s
  at_ : tn i s.heap
  nf : ∀ b ∈ fp, H b = none
  off : ∀ p ∈ pins, p.1 ∉ fp
def gpOf {α : Type} (Xg : Cx) (σw : L2.St) (fp : List Addr) (tn : Nat → Heap → Prop) (W : α → Nat → Nat → Hp → Prop) (Yl : α → V → Nat → Nat → Hp → Prop) (Fin : α → Hp → Prop) : GP (Gho α) where
  R := fun x r s => r = .ok .next ∧ ∃ H, Inv Xg x.pins σw H s ∧ Fin x.acc H
  Y := fun x v x1 s => x1.m < x.m ∧ x1.acc = x.acc ∧ x1.pins = x.pins ∧ Gi Xg σw fp tn x1.pins x1.i x1.H s ∧ ∃ y, RelV y v ∧ Yl x.acc y x1.i x1.m x1.H
  Re := fun x1 x2 s => x2.i = x1.i ∧ x2.m ≤ x1.m ∧ Gi Xg σw fp tn x2.pins x2.i x2.H s ∧ W x2.acc x2.i x2.m x2.H
def gTurn {α : Type} (J : It) (g : TG) (tt : TT) (te : TE) (vs : List Nat) (σw : L2.St) (W : α → Nat → Nat → Hp → Prop) (Yl : α → V → Nat → Nat → Hp → Prop) (Fin : α → Hp → Prop) : Prop :=
  ∀ acc i m H, W acc i m H → (J.stop i H ∧ Fin acc H) ∨ (J.go i H ∧ ∀ x H', J.yld i H x H' → g x σw H' fun σ2 H2 => wipe σ2 vs = σw ∧ tt σ2 H2 fun b H3 =>
    if b = true then te σ2 H3 fun y H4 => ∃ m', m' < m ∧ Yl acc y (i + 1) m' H4 else ∃ m', m' < m ∧ W acc (i + 1) m' H3)
section
variable {α : Type} {X : Cx} {s0 : Shared} {H0 : Hp} {cenv : Env} {fp : List Addr} {A : Around} {elt tg iter : Expr} {ifs : List Expr} {scope : Scope} {pos : Pos} {it : Addr} {tn : Nat → Heap → Prop} {J : It} {g : TG} {tt : TT} {te : TE} {vs : List Nat} {σw : L2.St}
  {W : α → Nat → Nat → Hp → Prop} {Yl : α → V → Nat → Nat → Hp → Prop} {Fin : α → Hp → Prop}
theorem gn_stat {Ag : Around} {pins : List (Addr × Obj)} {σ' : L2.St} {H' : Hp} {s' : Shared} (I' : Inv (gnCx X Ag s0 H0 cenv fp) pins σ' H' s') (hn : ∀ b ∈ fp, H' b = none) (off : ∀ p ∈ pins, p.1 ∉ fp) : ∀ b ∈ fp, FpOk (gnCx X Ag s0 H0 cenv fp) pins H' b := fun b hb =>
  ⟨hn b hb, (I'.ok.exf b hb).1, I'.ok.exfs b hb, .inl hb, fun x c e => (I'.ok.exf b hb).2 x c e, fun p hp z => by
    have hp : p ∈ ([] : List (Addr × Obj)) ++ pins := hp
    rw [List.nil_append] at hp
    exact off p hp (by rw [z]; exact hb)⟩
theorem segG_loop (hco : cenv.scope.isCoroutine = false)
    (T : Turn X.prog X.w X.K tg J fp it tn)
    (pg : PG (gnCx X (A.over (.compLoop (.GeneratorExp elt [⟨tg, iter, ifs, 0⟩] scope pos) 0 (.ref it) .none cenv) []) s0 H0 cenv fp) tg g)
    (pt : PTs (gnCx X (A.over (.compLoop (.GeneratorExp elt [⟨tg, iter, ifs, 0⟩] scope pos) 0 (.ref it) .none cenv) []) s0 H0 cenv fp) ifs tt)
    (pe : PE (gnCx X (A.over (.compLoop (.GeneratorExp elt [⟨tg, iter, ifs, 0⟩] scope pos) 0 (.ref it) .none cenv) []) s0 H0 cenv fp) elt te)
    (hw : ∀ (j : Nat) (v : V) (σ2 : L2.St), wipe σ2 vs = σw → σw[j]? = some (some v) → σ2[j]? = some (some v)) (turn : gTurn J g tt te vs σw W Yl Fin) :
    ∀ (m i : Nat) (H : Hp) (s : Shared) (x : Gho α) (n : Nat), m ≤ n → m ≤ x.m → Gi (gnCx X (A.over (.compLoop (.GeneratorExp elt [⟨tg, iter, ifs, 0⟩] scope pos) 0 (.ref it) .none cenv) []) s0 H0 cenv fp) σw fp tn x.pins i H s → W x.acc i m H →
      SegG (model X.prog X.w) A (gpOf (gnCx X (A.over (.compLoop (.GeneratorExp elt [⟨tg, iter, ifs, 0⟩] scope pos) 0 (.ref it) .none cenv) []) s0 H0 cenv fp) σw fp tn W Yl Fin) n x
        (.compLoop (.GeneratorExp elt [⟨tg, iter, ifs, 0⟩] scope pos) 0 (.ref it) .none cenv) ((model X.prog X.w).den (.compLoop (.GeneratorExp elt [⟨tg, iter, ifs, 0⟩] scope pos) 0 (.ref it) .none cenv)) [] s := by
  generalize hAg : A.over (.compLoop (.GeneratorExp elt [⟨tg, iter, ifs, 0⟩] scope pos) 0 (.ref it) .none cenv) [] = Ag at pg pt pe ⊢
  intro m
  induction m using Nat.strongRecOn with
  | _ m ih =>
  intro i H s x n hmn hmx gi w
  show SegG _ A _ n x _ ((compTurn (.GeneratorExp elt [⟨tg, iter, ifs, 0⟩] scope pos) 0 (.ref it) .none cenv).onRaise (leaving cenv)) [] s
  rw [compTurn_gen, Sem.onRaise_eq_wrap]
  refine segG_bind_wrap (wpAny_standAt ?_)
  rcases turn x.acc i m H w with ⟨stop, qq⟩ | ⟨go, step⟩
  · have td := T.done (gnCx X Ag s0 H0 cenv fp) rfl rfl rfl rfl i x.pins s _ H (fun _ _ => False) gi.inv (gn_stat gi.inv gi.nf gi.off) gi.at_ stop
    refine segG_bind_wrap ?_
    rw [hAg]
    refine thnF td fun r s6 ⟨hr, I6⟩ => ?_
    subst hr
    exact segG_end (.ok .next) ⟨rfl, H, I6, qq⟩
  · have ti := T.item (gnCx X Ag s0 H0 cenv fp) rfl rfl rfl rfl i x.pins s _ H (fun _ _ => False) gi.inv (gn_stat gi.inv gi.nf gi.off) gi.at_ go
    refine segG_bind_wrap ?_
    rw [hAg]
    refine thnF ti fun r s6 ⟨u, hr, h6⟩ => ?_
    subst hr
    refine segG_bind_wrap ?_
    rw [hAg]
    refine thnF h6 fun _ s7 ⟨xv, H7, I7, r7, y7, st7, n7⟩ => ?_
    have I7' := I7.pinned (gn_stat I7 n7 gi.off) (T.obj _ _ st7)
    refine segG_bind_wrap ?_
    rw [hAg]
    refine thnF (pg.run _ s7 _ H7 xv u _ I7' r7 (step xv H7 y7)) fun _ s8 ⟨σ8, H8, I8, hw8, q8⟩ => ?_
    refine segG_bind_wrap ?_
    rw [hAg]
    refine thnF (pt.run _ s8 σ8 H8 _ I8 q8) fun b s9 ⟨H9, I9, q9⟩ => ?_
    have fin : ∀ {s' : Shared} {H' : Hp}, Inv (gnCx X Ag s0 H0 cenv fp) (x.pins ++ pinsAt fp s7.heap) σ8 H' s' → Gi (gnCx X Ag s0 H0 cenv fp) σw fp tn x.pins (i + 1) H' s' := fun {s' H'} I' => by
      have pin' : ∀ b ∈ fp, ∀ o, s7.heap.get? b = some o → s'.heap.get? b = some o ∧ H' b = none := fun b hb o e =>
        let z := I'.pin (b, o) (List.mem_append_right _ (List.mem_append_right _ (mem_pinsAt hb e)))
        ⟨z.1, z.2.1⟩
      have hl : σw.length = σ8.length := by rw [← hw8, wipe_length]
      refine ⟨(I'.unpinned (pins := x.pins)).weak hl (fun j v e => hw j v σ8 hw8 e), T.keep _ _ _ st7 fun b hb o e => (pin' b hb o e).1, fun b hb => ?_, gi.off⟩
      obtain ⟨o, e, _⟩ := T.obj _ _ st7 b hb
      exact (pin' b hb o e).2
    cases b with
    | false =>
      simp only [Bool.false_eq_true, if_false] at q9 ⊢
      obtain ⟨m', hm, w'⟩ := q9
      exact segG_again rfl (ih m' hm (i + 1) H9 s9 x n (by omega) (by omega) (fin I9) w')
    | true =>
      simp only [if_true] at q9 ⊢
      have hy : ∀ v, yieldOut cenv v = yieldValue v := fun v => by simp only [yieldOut, hco, Bool.false_eq_true, if_false]
      simp only [hy]
      rw [Sem.bind_eq_wrap', Sem.bind_eq_wrap', Sem.wrap_wrap, Sem.wrap_wrap]
      refine segG_wrap ?_
      rw [hAg]
      refine thnF (pe.run _ s9 σ8 H9 _ I9 q9) fun z s10 ⟨yv, H10, I10, r10, m', hm, yl⟩ => ?_
      obtain ⟨n', rfl⟩ : ∃ n', n = n' + 1 := ⟨n - 1, by omega⟩
      refine segG_at (segG_yield (x1 := ⟨x.acc, i + 1, m', H10, x.pins⟩) rfl rfl rfl ⟨(by show m' < x.m; omega), rfl, rfl, fin I10, yv, r10, yl⟩ fun x2 s2 h2 => ?_)
      obtain ⟨e1, e2, gi2, w2⟩ := h2
      exact segG_again rfl (ih x2.m (by have : x2.m ≤ m' := e2; omega) x2.i x2.H s2 x2 n' (by have : x2.m ≤ m' := e2; omega) (Nat.le_refl _) gi2 w2)
end
end Pk
end

/-! PkP -/
section
set_option Elab.async false
set_option linter.all false
set_option maxRecDepth 100000
set_option maxHeartbeats 2000000
namespace Pk
open PySem PySem.Spec L2
/-- a generator expression that was made: what stays -/
structure GD (α : Type) where
  X : Cx
  pins : List (Addr × Obj)
  σ : L2.St
  s4 : Shared
  H4 : Hp
  cenv : Env
  fp : List Addr
  tn : Nat → Heap → Prop
  σw : L2.St
  Ag : Around
  Ac : Around
  W : α → Nat → Nat → Hp → Prop
  Yl : α → V → Nat → Nat → Hp → Prop
  Fin : α → Hp → Prop
  a : Addr
  g : Nat
  og : Obj
abbrev GD.Xg {α : Type} (d : GD α) : Cx := gnCx d.X d.Ag d.s4 d.H4 d.cenv d.fp
abbrev GD.P {α : Type} (d : GD α) : GP (Gho α) := gpOf d.Xg d.σw d.fp d.tn d.W d.Yl d.Fin
structure GD.Ok {α : Type} (d : GD α) : Prop where
  hd : d.Ac.handled = none
  dp : d.Ac.depth < recursionLimit
  gen : ∃ nm qn, d.og.cls = .type "generator" ∧ d.og.data = .fields #[.int d.g 0, nm, qn] ∧ d.og.slots = #[]
  obj : ∀ i h, d.tn i h → ∀ b ∈ d.fp, ∃ o, h.get? b = some o ∧ ∀ v, o.data ≠ .cell v
  keep : ∀ i h h', d.tn i h → (∀ b ∈ d.fp, ∀ o, h.get? b = some o → h'.get? b = some o) → d.tn i h'
  back : ∀ pins H' s', Inv d.Xg pins d.σw H' s' → Inv d.X d.pins d.σ H' s'
structure GOn {α : Type} (d : GD α) (acc : α) (i m : Nat) (H : Hp) (ps : List (Addr × Obj)) (s : Shared) : Prop where
  gi : Gi d.Xg d.σw d.fp d.tn ((d.a, d.og) :: ps) i H s
  up : ∀ p ∈ ps, d.s4.heap.objs.size ≤ p.1 ∧ p.1 ≠ d.a
  go : ∃ n gs, s.gens[d.g]? = some gs ∧ ∀ x2 s2, d.P.Re ⟨acc, i, m, H, (d.a, d.og) :: ps⟩ x2 s2 → GoesG (model d.X.prog d.X.w) d.Ac.in1 d.P n x2 gs s2
section
variable {α : Type} {d : GD α} {acc acc' : α} {i m m' : Nat} {H : Hp} {ps : List (Addr × Obj)} {s : Shared}
theorem inv_gens {X : Cx} {pins : List (Addr × Obj)} {σ : L2.St} {g' : Array GenState} {h' : Heap} {tk : Nat} (I : Inv X pins σ H s) (hg : PyProof.Rows.AllBare g') (k : ∀ b o, s.heap.get? b = some o → h'.get? b = some o) : Inv X pins σ H { s with heap := h', gens := g', toks := tk } :=
  I.call' (s' := { s with heap := h', gens := g', toks := tk }) (ch := []) rfl (Un.kept k) (I.hok.kept k) hg fun b z => absurd z (by simp)
theorem bare_set {s1 : Shared} {g : Nat} {x : GenState} (h : PyProof.Rows.AllBare s1.gens) (hx : x.bare = true) : PyProof.Rows.AllBare (s1.setGen g x).gens := by
  intro y hy
  have hy : y ∈ s1.gens.setIfInBounds g x := hy
  rcases Array.mem_or_eq_of_mem_setIfInBounds hy with z | z
  · exact h _ z
  · rw [z]; exact hx
theorem gOn_isGen (O : d.Ok) (G : GOn d acc i m H ps s) : s.heap.IsGen d.a d.g := by
  obtain ⟨nm, qn, e1, e2, e3⟩ := O.gen
  exact ⟨d.og, nm, qn, (G.gi.inv.pin (d.a, d.og) (List.mem_append_right _ List.mem_cons_self)).1, e1, e2, e3⟩
theorem gen_next {E : Value → Shared → Prop} (O : d.Ok) (G : GOn d acc i m H ps s) (hm : m' ≤ m) (w : d.W acc' i m' H) :
    wpAny (model d.X.prog d.X.w) d.Ac (pyNext (.ref d.a)) (fun r s' => (r = none ∧ ∃ H', Inv d.Xg ((d.a, d.og) :: ps) d.σw H' s' ∧ d.Fin acc' H') ∨
      ∃ v y i2 m2 H2, r = some v ∧ m2 < m' ∧ RelV y v ∧ GOn d acc' i2 m2 H2 ps s' ∧ d.Yl acc' y i2 m2 H2) E s := by
  obtain ⟨n, gs, hgs, hgo⟩ := G.go
  have hlt : d.g < s.gens.size := by
    rcases Nat.lt_or_ge d.g s.gens.size with h' | h'
    · exact h'
    · rw [Array.getElem?_eq_none h'] at hgs; cases hgs
  have IR : Gi d.Xg d.σw d.fp d.tn ((d.a, d.og) :: ps) i H (s.setGen d.g .running) := ⟨inv_gens (h' := s.heap) (tk := s.toks) G.gi.inv (bare_set G.gi.inv.bare rfl) fun _ _ e => e, G.gi.at_, G.gi.nf, G.gi.off⟩
  refine GenW.wpAny_gsz (n := s.gens.size) (Nat.le_refl _) ?_
  refine wpAny_pyNextG (P := d.P) (x := ⟨acc', i, m', H, (d.a, d.og) :: ps⟩) O.hd G.gi.inv.nolimit O.dp (gOn_isGen O G) hgs (hgo _ _ ⟨rfl, hm, IR, w⟩) (fun v s1 gs' n2 x1 hb hn hy hz hsz => ?_) fun r s1 hr => ?_
  · obtain ⟨e0, e1, e2, gi, y, ry, yl⟩ := hy
    obtain ⟨xa, xi, xm, xH, xp⟩ := x1
    have e1 : xa = acc' := e1
    have e2 : xp = (d.a, d.og) :: ps := e2
    subst e1
    subst e2
    rw [GenW.setGen_size] at hsz
    refine .inr ⟨v, y, xi, xm, xH, rfl, e0, ry, ⟨⟨inv_gens (h' := s1.heap) (tk := s1.toks) gi.inv (bare_set gi.inv.bare hb) fun _ _ e => e, gi.at_, gi.nf, gi.off⟩, G.up, n2, gs', ?_, hz⟩, yl⟩
    unfold Shared.setGen
    rw [Array.getElem?_setIfInBounds_self_of_lt (by omega)]
  · obtain ⟨e, H', I', f⟩ := hr
    refine ⟨e, fun h' k _ => .inl ⟨rfl, H', ?_, f⟩⟩
    exact inv_gens (s := s1) (h' := h') (tk := s1.toks) I' (bare_set I'.bare rfl) k
/-- the one who takes has an object S of its own, written -/
theorem GOn.obj {S : Addr} {o' : Obj} {h' : Heap} {tk : Nat} (O : d.Ok) (G : GOn d acc i m H ps s) (hps : (ps = [] ∧ s.heap.objs.size ≤ S) ∨ ∃ o, ps = [(S, o)]) (k : ∀ b o, b ≠ S → s.heap.get? b = some o → h'.get? b = some o) (hS : h'.get? S = some o') (hc : ∀ v, o'.data ≠ .cell v) :
    GOn d acc i m H [(S, o')] { s with heap := h', toks := tk } := by
  have I := G.gi.inv
  have base : H S = none ∧ S ≠ d.cenv.locals ∧ S ∉ d.Xg.fs ∧ d.s4.heap.objs.size ≤ S ∧ (∀ x c, d.cenv.cells.lookup x = some c → c ≠ S) ∧ S ≠ d.a ∧ S ∉ d.fp := by
    rcases hps with ⟨rfl, hz⟩ | ⟨o, rfl⟩
    · obtain ⟨f0, f1, f2, f3, f4, f5⟩ := I.fpOk hz (I.hok.fresh hz)
      refine ⟨f0, f1, f2, Nat.le_trans I.sz hz, f4, fun z => f5 (d.a, d.og) (List.mem_append_right _ List.mem_cons_self) z.symm, fun hb => ?_⟩
      obtain ⟨o, e, _⟩ := O.obj _ _ G.gi.at_ S hb
      exact absurd (Nat.lt_of_lt_of_le (Heap.lt_size e) hz) (Nat.lt_irrefl _)
    · obtain ⟨p1, p2, p3, p4, p5⟩ := I.pin (S, o) (List.mem_append_right _ (List.mem_cons_of_mem _ List.mem_cons_self))
      obtain ⟨u1, u2⟩ := G.up (S, o) List.mem_cons_self
      refine ⟨p2, p3, p4, u1, fun x c e z => ?_, u2, G.gi.off (S, o) (List.mem_cons_of_mem _ List.mem_cons_self)⟩
      obtain ⟨v, oc, ho, hd⟩ := I.cell x c e
      have p1 : s.heap.get? S = some o := p1
      rw [z, p1] at ho
      cases ho
      exact p5 _ hd
  obtain ⟨b0, b1, b2, b3, b4, b5, b6⟩ := base
  have I1 : Inv d.Xg [(d.a, d.og)] d.σw H s := I.pins_of fun p hp => by
    rw [List.mem_singleton.mp hp]
    exact I.pin (d.a, d.og) (List.mem_append_right _ List.mem_cons_self)
  have f : FpOk d.Xg [(d.a, d.og)] H S := ⟨b0, b1, b2, .inr b3, b4, fun p hp z => by
    have hp : p ∈ ([] : List (Addr × Obj)) ++ [(d.a, d.og)] := hp
    rw [List.nil_append] at hp
    rw [List.mem_singleton.mp hp] at z
    exact b5 z.symm⟩
  have I2 : Inv d.Xg [(d.a, d.og)] d.σw H { s with heap := h', toks := tk } := I1.turnedL (ch := [S]) (fun b o hb e => k b o (fun z => hb (by simp [z])) e) fun b hb => by
    rw [List.mem_singleton.mp hb]
    exact f
  refine ⟨⟨I2.pins_of fun p hp => ?_, O.keep _ _ _ G.gi.at_ fun b hb o e => k b o (fun z => b6 (z ▸ hb)) e, G.gi.nf, fun p hp => ?_⟩, fun p hp => ?_, ?_⟩
  · rcases List.mem_cons.mp hp with z | z
    · rw [z]
      exact I2.pin (d.a, d.og) (List.mem_append_right _ List.mem_cons_self)
    · rw [List.mem_singleton.mp z]
      exact ⟨hS, b0, b1, b2, hc⟩
  · rcases List.mem_cons.mp hp with z | z
    · rw [z]
      exact G.gi.off _ List.mem_cons_self
    · rw [List.mem_singleton.mp z]
      exact b6
  · rw [List.mem_singleton.mp hp]
    exact ⟨b3, b5⟩
  · obtain ⟨n, gs, e, go⟩ := G.go
    exact ⟨n, gs, e, fun x2 s2 ⟨h1, h2, h3, h4⟩ => go x2 s2 ⟨h1, h2, h3, h4⟩⟩
/-- .. nothing of its own: all stays -/
theorem GOn.kept {h' : Heap} {tk : Nat} (O : d.Ok) (G : GOn d acc i m H ps s) (k : ∀ b o, s.heap.get? b = some o → h'.get? b = some o) : GOn d acc i m H ps { s with heap := h', toks := tk } :=
  ⟨⟨G.gi.inv.kept k, O.keep _ _ _ G.gi.at_ fun b hb o e => k b o e, G.gi.nf, G.gi.off⟩, G.up, G.go⟩
end
end Pk
end

/-! PkQ -/
section
set_option Elab.async false
set_option linter.all false
set_option maxRecDepth 100000
set_option maxHeartbeats 4000000
namespace Pk
open PySem PySem.Spec L2
section
variable {γ : Type} {X : Cx} {A : Around} {P : GP γ} {elt tg iter : Expr} {ifs : List Expr} {scope : Scope} {pos : Pos} {it : Addr} {tn : Nat → Heap → Prop} {J : It} {fp : List Addr} {cenv : Env}
theorem segG_start (T : Turn X.prog X.w X.K tg J fp it tn) {n : Nat} {x : γ} {i : Nat} {s : Shared} (st : tn i s.heap)
    (loop : SegG (model X.prog X.w) A P n x (.compLoop (.GeneratorExp elt [⟨tg, iter, ifs, 0⟩] scope pos) 0 (.ref it) .none cenv) ((model X.prog X.w).den (.compLoop (.GeneratorExp elt [⟨tg, iter, ifs, 0⟩] scope pos) 0 (.ref it) .none cenv)) [] s) :
    SegG (model X.prog X.w) A P n x (.compStart (.GeneratorExp elt [⟨tg, iter, ifs, 0⟩] scope pos) 0 (.ref it) .none cenv) ((model X.prog X.w).den (.compStart (.GeneratorExp elt [⟨tg, iter, ifs, 0⟩] scope pos) 0 (.ref it) .none cenv)) [] s := by
  show SegG _ A _ n x _ ((compStart (.GeneratorExp elt [⟨tg, iter, ifs, 0⟩] scope pos) 0 (.ref it) .none cenv).onRaise (leaving cenv)) [] s
  unfold compStart
  rw [Sem.onRaise_eq_wrap]
  show SegG _ A _ n x _ ((ask >>= _).wrap _ _ _ _) [] s
  refine segG_bind_wrap (wpAny_askSetting ?_)
  split
  · exact segG_again rfl loop
  · first
      | exact segG_bind_wrap (wpAny_rule (segG_bind_wrap (wpAny_standAt (segG_bind_wrap (T.self _ i s _ _ st (segG_again rfl loop))))))
      | (refine segG_bind_wrap (wpAny_rule ?_); show SegG _ A _ n x _ ((standAt iter.pos >>= _).wrap _ _ _ _) [] s; exact segG_bind_wrap (wpAny_standAt (segG_bind_wrap (T.self _ i s _ _ st (segG_again rfl loop)))))
theorem room_over {k : Nat} {it : Value} (r : Room (k + 1) A) (hfr : X.A.frames = A.frames) : Room k (A.in4.in1.over (.compLoop (.GeneratorExp elt [⟨tg, iter, ifs, 0⟩] scope pos) 0 it .none cenv) []) := by
  refine ⟨?_, ?_, ?_⟩
  · simp [Around.over, marksOver]
    exact r.hd
  · have := r.dp
    simp [Around.over, frameCount, Code.weight, Code.frames, Code.isFrame, Code.isCreation, Code.isGuard, Code.isCaller]
    omega
  · have := r.un
    simp [Around.over, unitsOf, Code.cUnits, Code.frames, Code.isFrame]
    omega
theorem frames_over {it : Value} {l : List Env} (h : A.frames = some l) : (A.in4.in1.over (.compLoop (.GeneratorExp elt [⟨tg, iter, ifs, 0⟩] scope pos) 0 it .none cenv) []).frames = some (cenv :: l) := by
  simp [Around.over, pushEnvs, envsOf, Code.envs, Code.env?, Code.isFrame, h]
end
section
variable {α : Type} {X : Cx} {pins : List (Addr × Obj)} {σ : L2.St} {H : Hp} {s : Shared}
theorem gen_core {c P : Addr} {elt tg iter : Expr} {ifs : List Expr} {gpos : Pos} {scope : Scope} {own : List (Str × Nat)} {k : Nat} {wi : TI} {g : TG} {tt : TT} {te : TE} {Q' : Value → Shared → Prop} {Con : (α → Nat → Nat → Hp → Prop) → (α → V → Nat → Nat → Hp → Prop) → (α → Hp → Prop) → α → Nat → Hp → Prop}
    {T : List (Addr × Str)} (hr : Room (k + 1) X.A) (TB : LamX.TabB X.base X.mg c P) (hcode : X.env.code = .ref c) (hm : (P, X.env.qual ++ "<genexpr>") ∈ T) (hu : ∀ p ∈ T, p.1 = P → p.2 = X.env.qual ++ "<genexpr>") (ok : GenB X.N X.env.scope scope own) (hN : X.N.Nodup) (hi : PI X tg iter wi)
    (hg : ∀ (Ag : Around) (s : Shared) (H : Hp) (C : Addr) (code : Value) (fp : List Addr), Room k Ag → PG (gnCx X Ag s H (gnEnv X scope C code) fp) tg g)
    (ht : ∀ (Ag : Around) (s : Shared) (H : Hp) (C : Addr) (code : Value) (fp : List Addr), Room k Ag → PTs (gnCx X Ag s H (gnEnv X scope C code) fp) ifs tt)
    (he : ∀ (Ag : Around) (s : Shared) (H : Hp) (C : Addr) (code : Value) (fp : List Addr), Room k Ag → PE (gnCx X Ag s H (gnEnv X scope C code) fp) elt te)
    (hs : ∀ v, genFold iter X.env v = pure v) (I : Inv X pins σ H s)
    (h : wi σ H fun J H1 => LamX.Tabs T H1 ∧ ∀ H2, LamX.ExtN H1 H2 → LamX.Tabs T H2 →
      ∃ W Yl Fin acc m, gTurn (α := α) J g tt te (own.map (·.2)) (wipe σ (own.map (·.2))) W Yl Fin ∧ W acc 0 m H2 ∧ Con W Yl Fin acc m H2)
    (hQ : ∀ (d : GD α) (acc : α) (m : Nat) (H2 : Hp) (s5 : Shared), d.Ok → d.X = X → d.pins = pins → d.σ = σ → d.Ac = X.A.in4 → Con d.W d.Yl d.Fin acc m H2 → GOn d acc 0 m H2 [] s5 → d.W acc 0 m H2 → Q' (.ref d.a) s5) :
    wpAny (model X.prog X.w) X.A (eval (.GeneratorExp elt [⟨tg, iter, ifs, 0⟩] scope gpos) X.env) Q' X.xe s := by
  refine wpAny_GeneratorExp_make ok.co (closure_ok (ok.has I)) ok.cell ok.dot ok.kind (by have := hr.dp; omega) ?_ hs
  refine thn (hi.run pins s σ H _ I h) fun xv s1 h1 => thn h1 fun itv s2 h2 => ?_
  obtain ⟨it, fp, tn, J, H1, e, I2, Tn, st2, f2, hT, hcon⟩ := h2
  subst e
  obtain ⟨ps, hP, ht0, ha⟩ := hT _ hm
  have hPs : s2.heap.get? P = some { cls := .none, data := .fields ps } := I2.hok P _ hP
  have hPlt : P < s2.heap.objs.size := Heap.lt_size hPs
  have cd : PySem.W.CodeHd s2.heap c P := TB.code.keeps fun b u e => I2.bk b u e
  have cont : ∀ (code : Value) (h3 : Heap) (tk : Nat) (H4 : Hp), Heap.ExtBut P s2.heap h3 → s2.heap.objs.size ≤ h3.objs.size → Inv X pins σ H4 { s2 with heap := h3, toks := tk } → LamX.ExtN H1 H4 → LamX.Tabs T H4 → (∀ b, b < s2.heap.objs.size → H1 b = none → H4 b = none) →
      wpAny (model X.prog X.w) X.A (builtinsFor X.env.globals X.env.builtins) (fun bi s₄ =>
        ∀ h', h'.Ns s₄.heap.objs.size (fun y => if y = ".0" then some (.ref it) else none) → Heap.SameBut s₄.heap.objs.size (s₄.heap.push { cls := .type "frame", data := .dict #[] }) h' →
          Q' (.ref h'.objs.size) { s₄ with
            gens := s₄.gens.push (.fresh (.compStart (.GeneratorExp elt [⟨tg, iter, ifs, 0⟩] scope gpos) 0 (.ref it) .none (genEnv scope (cloFrom X.env.cells scope.names []) s₄.heap.objs.size code bi X.env))),
            toks := s₄.toks + 1 + 1 + 1,
            heap := h'.push { cls := .type "generator", data := .fields #[.int s₄.gens.size 0, .str "<genexpr>" (s₄.toks + 1), .str (X.env.qual ++ "<genexpr>") (s₄.toks + 1 + 1)] } }) X.xe { s2 with heap := h3, toks := tk } := by
    intro code h3 tk H4 hx hsz I3 hE hT4 hnf
    obtain ⟨bm, ob, e1, e2, e3, e4, e5, e6, e7, e8⟩ := TB.bm
    have keep3 : ∀ b u, b ≠ P → s2.heap.get? b = some u → h3.get? b = some u := fun b u hb e => hx b u hb e
    refine wpAny_builtinsFor (m := X.mg) (by rw [I2.ok.glob]; exact (I2.mod.glob.keeps I2.bk).extBut hx TB.gP) e1 e2 (keep3 _ _ e4 (I2.bk _ _ e5)) e6 e7 e8 ?_
    intro h' hn' hs'
    obtain ⟨W, Yl, Fin, acc, m, hturn, hw, hc⟩ := hcon H4 hE hT4
    have nP : ∀ b ∈ fp, b ≠ P := fun b hb z => by
      have q := (f2 b hb).1
      rw [z, hP] at q
      cases q
    have sz : ∀ b ∈ fp, b < s2.heap.objs.size := fun b hb => by
      obtain ⟨o, e, _⟩ := Tn.obj _ _ st2 b hb
      exact Heap.lt_size e
    have nf : ∀ b ∈ fp, H4 b = none := fun b hb => hnf b (sz b hb) (f2 b hb).1
    have f3 : ∀ b ∈ fp, FpOk X pins H4 b ∧ b < h3.objs.size := fun b hb => ⟨⟨nf b hb, (f2 b hb).2⟩, Nat.lt_of_lt_of_le (sz b hb) hsz⟩
    have st3 : tn 0 h3 := Tn.keep _ _ _ st2 fun b hb o e => keep3 b o (nP b hb) e
    have kp' : ∀ b o, h3.get? b = some o → h'.get? b = some o := fun b o e => hs'.extBut b o (Nat.ne_of_lt (Heap.lt_size e)) (Heap.get?_push_of_some _ e)
    have hsz' : h'.objs.size = h3.objs.size + 1 := by
      have := hs'.1
      rw [this, Heap.size_push]
    generalize hog : ({ cls := .type "generator", data := .fields #[.int s2.gens.size 0, .str "<genexpr>" (tk + 1), .str (X.env.qual ++ "<genexpr>") (tk + 1 + 1)] } : Obj) = og
    have hogd : og.data = .fields #[.int s2.gens.size 0, .str "<genexpr>" (tk + 1), .str (X.env.qual ++ "<genexpr>") (tk + 1 + 1)] := by rw [← hog]
    have kp5 : ∀ b o, h3.get? b = some o → (h'.push og).get? b = some o := fun b o e => Heap.get?_push_of_some _ (kp' b o e)
    have hog5 : (h'.push og).get? h'.objs.size = some og := by
      rw [← hog]
      exact Heap.get?_push_size _ rfl
    have I5 := gen_start (Ag := X.A.in4.in1.over (.compLoop (.GeneratorExp elt [⟨tg, iter, ifs, 0⟩] scope gpos) 0 (.ref it) .none (gnEnv X scope h3.objs.size code)) []) (code := code) (g' := s2.gens.push (.fresh (.compStart (.GeneratorExp elt [⟨tg, iter, ifs, 0⟩] scope gpos) 0 (.ref it) .none (gnEnv X scope h3.objs.size code)))) (h' := h'.push og) (tk := tk + 1 + 1 + 1) I3 ok hN f3
      (room_over hr rfl).hd (frames_over I3.ok.frames) (hn'.push _) kp5 (PyProof.Rows.AllBare.push I2.bare rfl)
    have hrg : Room k (X.A.in4.in1.over (.compLoop (.GeneratorExp elt [⟨tg, iter, ifs, 0⟩] scope gpos) 0 (.ref it) .none (gnEnv X scope h3.objs.size code)) []) := room_over hr rfl
    have hz5 : h3.objs.size ≤ h'.objs.size := by omega
    refine hQ ⟨X, pins, σ, { s2 with heap := h3, toks := tk }, H4, gnEnv X scope h3.objs.size code, fp, tn, wipe σ (own.map (·.2)), X.A.in4.in1.over (.compLoop (.GeneratorExp elt [⟨tg, iter, ifs, 0⟩] scope gpos) 0 (.ref it) .none (gnEnv X scope h3.objs.size code)) [], X.A.in4, W, Yl, Fin, h'.objs.size, s2.gens.size, og⟩
      acc m H4 _ ⟨hr.hd, by have := hr.dp; show X.A.depth < _; omega, ⟨_, _, by rw [← hog], hogd, by rw [← hog]⟩, Tn.obj, Tn.keep, fun pins' H' s' I' => ?_⟩ rfl rfl rfl rfl hc ⟨⟨?_, ?_, nf, ?_⟩, fun p hp => absurd hp (by simp), ?_⟩ hw
    · exact I3.call' (ch := fp) I'.os I'.base I'.hok I'.bare fun b hb => ⟨(f3 b hb).1.2.2.2.1, (f3 b hb).1.2.1, (f3 b hb).1.2.2.2.2.1, (f3 b hb).1.2.2.2.2.2⟩
    · refine I5.pins_of fun p hp => ?_
      rw [List.mem_singleton.mp hp]
      refine ⟨hog5, I3.hok.fresh hz5, ?_, fun z => ?_, fun v q => ?_⟩
      · show h'.objs.size ≠ h3.objs.size
        omega
      · rcases List.mem_cons.mp (I3.stkSub _ z) with z | z
        · have h1 := I3.lt
          rw [← z] at h1
          exact Nat.lt_irrefl _ (Nat.lt_of_lt_of_le h1 hz5)
        · exact I3.nofs hz5 z
      · have q : og.data = .cell v := q
        rw [hogd] at q
        cases q
    · exact Tn.keep _ _ _ st3 fun b hb o e => kp5 b o e
    · intro p hp
      rw [List.mem_singleton.mp hp]
      intro z
      have := (f3 _ z).2
      have : h'.objs.size < h3.objs.size := this
      omega
    · refine ⟨m, _, Array.getElem?_push_size .., fun x2 s2' ⟨e1, e2, gi2, w2⟩ => ?_⟩
      refine segG_start Tn gi2.at_ (segG_loop (A := X.A.in4.in1) ok.co Tn (hg _ _ _ _ _ _ hrg) (ht _ _ _ _ _ _ hrg) (he _ _ _ _ _ _ hrg) (fun j v σ2 e1 e2 => ?_) hturn x2.m x2.i x2.H s2' x2 m e2 (Nat.le_refl _) gi2 w2)
      rw [← e1] at e2
      exact (wipe_some e2).1
  refine ⟨I2.nolimit, ?_⟩
  cases hf : codeAmong gpos ps.toList with
  | none =>
    refine wpAny_genexprCodeX hcode (cd.code hPs ht0) (cd.tab hPs) hf fun c' h' tk hx hge hlt _ hrec htab' _ => ?_
    obtain ⟨c2, oc, vs, t, e2, hoc, hd, hv⟩ := hrec
    cases e2
    have nC : H1 c' = none := I2.hok.fresh hge
    have I4 := LamX.inv_table (t' := tk) (q := X.env.qual ++ "<genexpr>") (more := #[rawInt gpos.line, rawInt gpos.col, .ref c']) (h' := h') I2 hP (fun b o hb e => hx b o hb e) htab'.2 hge ⟨oc, vs, t, hoc, hd, hv⟩
    have hE : LamX.ExtN H1 (upd (upd H1 P (.tbl (ps ++ #[rawInt gpos.line, rawInt gpos.col, .ref c']))) c' (LamX.CodeO c' (X.env.qual ++ "<genexpr>"))) := fun b o e n => by
      rw [upd_ne (ne_of_none e nC), upd_ne (fun z => n ps (Option.some.inj (e.symm.trans (by rw [z]; exact hP))))]
      exact e
    have eL : (ps ++ #[rawInt gpos.line, rawInt gpos.col, .ref c']).toList = ps.toList ++ [rawInt gpos.line, rawInt gpos.col, .ref c'] := by simp
    refine cont _ h' tk _ hx (Nat.le_trans hge (Nat.le_of_lt hlt)) I4 hE (fun p hp => ?_) fun b hb n => ?_
    · by_cases hb : p.1 = P
      · rw [hu p hp hb, hb]
        refine ⟨_, by rw [upd_ne (ne_of_none hP nC), upd_same], by rw [eL]; exact PySem.TriplesOk_snoc _ _ _ _ ht0, fun p' cv hcv => ?_⟩
        rw [eL] at hcv
        rcases LamX.among_app _ ht0 hcv with z | z
        · obtain ⟨c0, e1, e2⟩ := ha p' cv z
          rw [hu _ hm rfl] at e2
          exact ⟨c0, e1, hE _ _ e2 LamX.codeO_ne⟩
        · exact ⟨c', z, upd_same⟩
      · obtain ⟨ps', a1, a2, a3⟩ := hT p hp
        refine ⟨ps', by rw [upd_ne (ne_of_none a1 nC), upd_ne hb]; exact a1, a2, fun p' cv hcv => ?_⟩
        obtain ⟨c0, e1, e2⟩ := a3 p' cv hcv
        exact ⟨c0, e1, hE _ _ e2 LamX.codeO_ne⟩
    · rw [upd_ne (fun z => absurd (Nat.lt_of_lt_of_le hb hge) (by rw [z]; exact Nat.lt_irrefl _)), upd_ne (fun z => by rw [z, hP] at n; cases n)]
      exact n
  | some cv =>
    refine wpAny_genexprCode_hit hcode (cd.code hPs ht0) hf ?_
    exact cont cv s2.heap s2.toks H1 (Heap.ExtBut.refl _ _) (Nat.le_refl _) I2 (LamX.ExtN.refl H1) hT fun b _ n => n
end
end Pk
end

/-! PkR -/
section
set_option Elab.async false
set_option linter.all false
set_option maxRecDepth 100000
set_option maxHeartbeats 4000000
namespace Pk
open PySem PySem.Spec L2
section
variable {α : Type} {d : GD α} {Q : VK} {s : Shared} {R : Result → Shared → Prop} {A : Around}
theorem of_in4 {β : Type} {M : Model} {A : Around} {t : Sem β} {Q : β → Shared → Prop} {E : Value → Shared → Prop} {s : Shared} (h : wpAny M A.in4 t Q E s) : wpAny M A.in1 t Q E s := wpAny_of_in1 (wpAny_of_in1 (wpAny_of_in1 h))
theorem of_in42 {β : Type} {M : Model} {A : Around} {t : Sem β} {Q : β → Shared → Prop} {E : Value → Shared → Prop} {s : Shared} (h : wpAny M A.in4 t Q E s) : wpAny M A.in1.in1 t Q E s := wpAny_of_in1 (wpAny_of_in1 h)
theorem of_in43 {β : Type} {M : Model} {A : Around} {t : Sem β} {Q : β → Shared → Prop} {E : Value → Shared → Prop} {s : Shared} (h : wpAny M A.in4 t Q E s) : wpAny M A.in1.in1.in1 t Q E s := wpAny_of_in1 h
theorem any_loopG (O : d.Ok) (hA : d.Ac = A.in4) (hfin : ∀ acc H, d.Fin acc H → Q (.bl false) H) (hyl : ∀ acc y i m H, d.Yl acc y i m H → ∃ b, y = .bl b ∧ (b = true → Q (.bl true) H) ∧ (b = false → ∃ acc' m', m' ≤ m ∧ d.W acc' i m' H))
    (hR : ∀ b H s', Inv d.X d.pins d.σ H s' → Q (.bl b) H → R (.ok (.ret (.bool b))) s') :
    ∀ (N : Nat) (acc acc0 : α) (i m m0 : Nat) (H : Hp) (s : Shared), m < N → m ≤ m0 → GOn d acc0 i m0 H [] s → d.W acc i m H → codeAny (model d.X.prog d.X.w) A (.builtin "any.loop" ⟨[.ref d.a], []⟩) R s := by
  intro N
  induction N with
  | zero => intro _ _ _ _ _ _ _ h; omega
  | succ N ih =>
    intro acc acc0 i m m0 H s hN hm G w
    refine codeAny_builtin F.entry_any_loop ?_
    rw [Around.under_plainId F.plain_any_loop _]
    show wpAny _ A.in1 (pyNext (.ref d.a) >>= _) _ _ s
    refine wpAny_bind (of_in4 ?_)
    rw [← hA]
    refine wpAny_mono (gen_next O G hm w) (fun r s1 h1 => ?_) fun _ _ e => e
    rcases h1 with ⟨rfl, H', I', f⟩ | ⟨v, y, i2, m2, H2, rfl, hlt, ry, G2, yl⟩
    · exact wpAny_bind (wpAny_rule (wpAny_pure (hR false H' s1 (O.back _ _ _ I') (hfin _ _ f))))
    · obtain ⟨b, rfl, q1, q2⟩ := hyl _ _ _ _ _ yl
      obtain rfl : v = .bool b := ry
      refine wpAny_bind (wpAny_holding (wpAny_truthy_bool ?_))
      refine wpAny_bind (wpAny_letGo ?_)
      cases b with
      | false =>
        simp only [Bool.false_eq_true, if_false]
        obtain ⟨acc', m', hm', w'⟩ := q2 rfl
        exact wpAny_pure ⟨plainId_quiet F.plain_any_loop _, ih acc' acc i2 m' m2 H2 s1 (by omega) hm' G2 w'⟩
      | true =>
        simp only [if_true]
        exact wpAny_bind (wpAny_rule (wpAny_pure (hR true H2 s1 (O.back _ _ _ G2.gi.inv) (q1 rfl))))
theorem all_loopG (O : d.Ok) (hA : d.Ac = A.in4) (hfin : ∀ acc H, d.Fin acc H → Q (.bl true) H) (hyl : ∀ acc y i m H, d.Yl acc y i m H → ∃ b, y = .bl b ∧ (b = false → Q (.bl false) H) ∧ (b = true → ∃ acc' m', m' ≤ m ∧ d.W acc' i m' H))
    (hR : ∀ b H s', Inv d.X d.pins d.σ H s' → Q (.bl b) H → R (.ok (.ret (.bool b))) s') :
    ∀ (N : Nat) (acc acc0 : α) (i m m0 : Nat) (H : Hp) (s : Shared), m < N → m ≤ m0 → GOn d acc0 i m0 H [] s → d.W acc i m H → codeAny (model d.X.prog d.X.w) A (.builtin "all.loop" ⟨[.ref d.a], []⟩) R s := by
  intro N
  induction N with
  | zero => intro _ _ _ _ _ _ _ h; omega
  | succ N ih =>
    intro acc acc0 i m m0 H s hN hm G w
    refine codeAny_builtin F.entry_all_loop ?_
    rw [Around.under_plainId F.plain_all_loop _]
    show wpAny _ A.in1 (pyNext (.ref d.a) >>= _) _ _ s
    refine wpAny_bind (of_in4 ?_)
    rw [← hA]
    refine wpAny_mono (gen_next O G hm w) (fun r s1 h1 => ?_) fun _ _ e => e
    rcases h1 with ⟨rfl, H', I', f⟩ | ⟨v, y, i2, m2, H2, rfl, hlt, ry, G2, yl⟩
    · exact wpAny_bind (wpAny_rule (wpAny_pure (hR true H' s1 (O.back _ _ _ I') (hfin _ _ f))))
    · obtain ⟨b, rfl, q1, q2⟩ := hyl _ _ _ _ _ yl
      obtain rfl : v = .bool b := ry
      refine wpAny_bind (wpAny_holding (wpAny_truthy_bool ?_))
      refine wpAny_bind (wpAny_letGo ?_)
      cases b with
      | true =>
        simp only [if_true]
        obtain ⟨acc', m', hm', w'⟩ := q2 rfl
        exact wpAny_pure ⟨plainId_quiet F.plain_all_loop _, ih acc' acc i2 m' m2 H2 s1 (by omega) hm' G2 w'⟩
      | false =>
        simp only [Bool.false_eq_true, if_false]
        exact wpAny_bind (wpAny_rule (wpAny_pure (hR false H2 s1 (O.back _ _ _ G2.gi.inv) (q1 rfl))))
theorem sum_loopG {d : GD Int} (O : d.Ok) (hA : d.Ac = A.in4) (hfin : ∀ acc H, d.Fin acc H → Q (.int acc) H) (hyl : ∀ acc y i m H, d.Yl acc y i m H → ∃ n, y = .int n ∧ InLong n ∧ InLong (acc + n) ∧ ∃ m', m' ≤ m ∧ d.W (acc + n) i m' H)
    (hR : ∀ n t H s', Inv d.X d.pins d.σ H s' → Q (.int n) H → R (.ok (.ret (.int n t))) s') (S : Addr) :
    ∀ (N : Nat) (acc acc0 : Int) (i m m0 : Nat) (H : Hp) (s : Shared) (tA : Tok) (c : Nat), m < N → m ≤ m0 → GOn d acc0 i m0 H [(S, { cls := .type "list", dict := none, data := .seq #[.int acc tA] c, slots := #[] })] s → d.W acc i m H →
      codeAny (model d.X.prog d.X.w) A (.builtin "sum.loop" ⟨[.ref d.a, .ref S, rawInt 0, rawInt 0], []⟩) R s := by
  intro N
  induction N with
  | zero => intro _ _ _ _ _ _ _ _ _ h; omega
  | succ N ih =>
    intro acc acc0 i m m0 H s tA c hN hm G w
    have hS : s.heap.get? S = some { cls := .type "list", dict := none, data := .seq #[.int acc tA] c, slots := #[] } := (G.gi.inv.pin (S, _) (List.mem_append_right _ (List.mem_cons_of_mem _ List.mem_cons_self))).1
    refine codeAny_builtin F.entry_sum_loop ?_
    rw [Around.under_plainId F.plain_sum_loop _]
    show wpAny _ A.in1 (seqItems? (.ref S) >>= _) _ _ s
    refine wpAny_bind (wpAny_seqItems hS rfl ?_)
    show wpAny _ A.in1 (tryCatch (pyNext (.ref d.a)) _ >>= _) _ _ s
    refine wpAny_bind (wpAny_tryCatch (of_in4 ?_))
    rw [← hA]
    refine wpAny_mono (gen_next O G hm w) (fun r s1 h1 => ?_) fun _ _ e => e
    rcases h1 with ⟨rfl, H', I', f⟩ | ⟨v, y, i2, m2, H2, rfl, hlt, ry, G2, yl⟩
    · exact wpAny_pure (hR acc tA H' s1 (O.back _ _ _ I') (hfin _ _ f))
    · obtain ⟨n, rfl, ⟨f1, f2⟩, ⟨f3, f4⟩, m', hm', w'⟩ := hyl _ _ _ _ _ yl
      obtain ⟨t, rfl⟩ := (show ∃ t, v = Value.int n t from ry)
      have hS' : s1.heap.get? S = some { cls := .type "list", dict := none, data := .seq #[.int acc tA] c, slots := #[] } := (G2.gi.inv.pin (S, _) (List.mem_append_right _ (List.mem_cons_of_mem _ List.mem_cons_self))).1
      have hc : ((decide (-(2 ^ 63) ≤ n) && decide (n < 2 ^ 63)) && (decide (-(2 ^ 63) ≤ acc + n) && decide (acc + n < 2 ^ 63))) = true := by
        simp only [Bool.and_eq_true, decide_eq_true_eq]
        exact ⟨⟨f1, f2⟩, f3, f4⟩
      show wpAny _ A.in1 (if (_ : Bool) = true then (mkInt (acc + n) >>= _) else _) _ _ _
      split
      · refine wpAny_bind (wpAny_mkInt ?_)
        show wpAny _ A.in1 (updateSeq S (fun _ => #[.int (acc + n) s1.toks]) >>= _) _ _ _
        refine wpAny_bind ?_
        refine wpAny_updateSeq hS' rfl (wpAny_pure ⟨plainId_quiet F.plain_sum_loop _, ih (acc + n) acc i2 m' m2 H2 _ s1.toks _ (by omega) hm' (GOn.obj (s := s1) (tk := s1.toks + 1) (S := S) O G2 (.inr ⟨_, rfl⟩) (fun b o hb e => (Heap.get?_update_other _ _ (Ne.symm hb)).trans e) (Heap.get?_update_self _ hS' rfl) fun v z => nomatch z) w'⟩)
      · rename_i hneg
        exact absurd hc hneg
theorem call_anyG (O : d.Ok) (hA : d.Ac = A.in4) {E : Value → Shared → Prop} {acc : α} {i m : Nat} {H : Hp} (G : GOn d acc i m H [] s) (w : d.W acc i m H) (hfin : ∀ acc H, d.Fin acc H → Q (.bl false) H) (hyl : ∀ acc y i m H, d.Yl acc y i m H → ∃ b, y = .bl b ∧ (b = true → Q (.bl true) H) ∧ (b = false → ∃ acc' m', m' ≤ m ∧ d.W acc' i m' H)) :
    wpAny (model d.X.prog d.X.w) A (call (.builtin "any") [.ref d.a]) (EP d.X d.pins d.σ Q) E s := by
  refine call_function_tree F.kind_any F.plain_any F.entry_any (F.args_any1 _) ?_
  unfold Builtin.«any»
  refine wpAny_bind (m := oneArg "any" _) (wpAny_pure ?_)
  refine wpAny_bind (wpAny_pyIter_gen (gOn_isGen O G) ?_)
  exact wpAny_pure ⟨plainId_quiet F.plain_any_loop _, any_loopG O hA hfin hyl (fun b H s' I q => ⟨.bl b, H, I, rfl, q⟩) (m + 1) acc acc i m m H s (by omega) (Nat.le_refl _) G w⟩
theorem call_allG (O : d.Ok) (hA : d.Ac = A.in4) {E : Value → Shared → Prop} {acc : α} {i m : Nat} {H : Hp} (G : GOn d acc i m H [] s) (w : d.W acc i m H) (hfin : ∀ acc H, d.Fin acc H → Q (.bl true) H) (hyl : ∀ acc y i m H, d.Yl acc y i m H → ∃ b, y = .bl b ∧ (b = false → Q (.bl false) H) ∧ (b = true → ∃ acc' m', m' ≤ m ∧ d.W acc' i m' H)) :
    wpAny (model d.X.prog d.X.w) A (call (.builtin "all") [.ref d.a]) (EP d.X d.pins d.σ Q) E s := by
  refine call_function_tree F.kind_all F.plain_all F.entry_all (F.args_all1 _) ?_
  unfold Builtin.«all»
  refine wpAny_bind (m := oneArg "all" _) (wpAny_pure ?_)
  refine wpAny_bind (wpAny_pyIter_gen (gOn_isGen O G) ?_)
  exact wpAny_pure ⟨plainId_quiet F.plain_all_loop _, all_loopG O hA hfin hyl (fun b H s' I q => ⟨.bl b, H, I, rfl, q⟩) (m + 1) acc acc i m m H s (by omega) (Nat.le_refl _) G w⟩
theorem call_sumG {d : GD Int} (O : d.Ok) (hA : d.Ac = A.in4) {E : Value → Shared → Prop} {i m : Nat} {H : Hp} (G : GOn d 0 i m H [] s) (w : d.W 0 i m H) (hfin : ∀ acc H, d.Fin acc H → Q (.int acc) H) (hyl : ∀ acc y i m H, d.Yl acc y i m H → ∃ n, y = .int n ∧ InLong n ∧ InLong (acc + n) ∧ ∃ m', m' ≤ m ∧ d.W (acc + n) i m' H) :
    wpAny (model d.X.prog d.X.w) A (call (.builtin "sum") [.ref d.a]) (EP d.X d.pins d.σ Q) E s := by
  refine call_function_tree F.kind_sum F.plain_sum F.entry_sum (F.args_sum1 _) ?_
  unfold Builtin.«sum»
  simp only [List.length_cons, List.length_nil]
  rw [if_neg (by decide)]
  refine wpAny_bind (wpAny_of_eq (show Builtin.Builtins.bindParams "sum" ["start"] 0 { } = pure [none] from rfl) ?_)
  refine wpAny_bind (wpAny_pyIter_gen (gOn_isGen O G) ?_)
  refine wpAny_bind (wpAny_mkInt ?_)
  refine wpAny_bind (wpAny_pure ?_)
  simp only [List.forIn_cons, List.forIn_nil]
  refine wpAny_bind (wpAny_bind (wpAny_bind (wpAny_isInstance (T := "int") (b := false) (typeIs_int _ _ _) sub_int_str ?_)))
  simp only [Bool.false_eq_true, if_false]
  refine wpAny_pure (wpAny_bind (wpAny_bind (wpAny_isInstance (T := "int") (b := false) (typeIs_int _ _ _) sub_int_bytes ?_)))
  simp only [Bool.false_eq_true, if_false]
  refine wpAny_pure (wpAny_bind (wpAny_bind (wpAny_isInstance (T := "int") (b := false) (typeIs_int _ _ _) sub_int_bytearray ?_)))
  simp only [Bool.false_eq_true, if_false]
  refine wpAny_pure (wpAny_pure ?_)
  refine wpAny_bind (wpAny_newObj_type ?_)
  exact wpAny_pure ⟨plainId_quiet F.plain_sum_loop _, sum_loopG O hA hfin hyl (fun n t H s' I q => ⟨.int n, H, I, ⟨t, rfl⟩, q⟩) s.heap.objs.size (m + 1) 0 0 i m m H _ s.toks 0 (by omega) (Nat.le_refl _)
    (GOn.obj (s := s) (tk := s.toks + 1) (S := s.heap.objs.size) O G (.inl ⟨rfl, Nat.le_refl _⟩) (fun b o _ e => Heap.get?_push_of_some _ e) (Heap.get?_push_size _ rfl) fun v z => nomatch z) w⟩
/-! the list that is collected -/
theorem extend_loopG {d : GD (List V)} {B : Around} (O : d.Ok) (lift : ∀ (t : Sem (Option Value)) (Q : Option Value → Shared → Prop) (E : Value → Shared → Prop) (s : Shared), wpAny (model d.X.prog d.X.w) d.Ac t Q E s → wpAny (model d.X.prog d.X.w) B.in1 t Q E s)
    (hyl : ∀ acc y i m H, d.Yl acc y i m H → acc.length < sizeLine ∧ ∃ m', m' ≤ m ∧ d.W (acc ++ [y]) i m' H) (S : Addr) (res : Value)
    (hR : ∀ vs (its : Array Value) c H s', vs.length ≤ sizeLine → Inv d.X d.pins d.σ H s' → s'.heap.get? S = some { cls := .type "list", dict := none, data := .seq its c, slots := #[] } → L2.Vals vs its.toList → d.Fin vs H → R (.ok (.ret res)) s') :
    ∀ (N : Nat) (acc acc0 : List V) (i m m0 : Nat) (H : Hp) (s : Shared) (its : Array Value) (c : Nat), m < N → m ≤ m0 → acc.length ≤ sizeLine → L2.Vals acc its.toList → GOn d acc0 i m0 H [(S, { cls := .type "list", dict := none, data := .seq its c, slots := #[] })] s → d.W acc i m H →
      codeAny (model d.X.prog d.X.w) B (.builtin "list.extend.loop" ⟨[.ref S, .ref d.a, res], []⟩) R s := by
  intro N
  induction N with
  | zero => intro _ _ _ _ _ _ _ _ _ h; omega
  | succ N ih =>
    intro acc acc0 i m m0 H s its c hN hm hz rv G w
    refine codeAny_builtin F.entry_extend_loop ?_
    rw [Around.under_plainId F.plain_extend_loop _]
    show wpAny _ B.in1 (pyNext (.ref d.a) >>= _) _ _ s
    refine wpAny_bind (lift _ _ _ _ ?_)
    refine wpAny_mono (gen_next O G hm w) (fun r s1 h1 => ?_) fun _ _ e => e
    rcases h1 with ⟨rfl, H', I', f⟩ | ⟨v, y, i2, m2, H2, rfl, hlt, ry, G2, yl⟩
    · have hS : s1.heap.get? S = some { cls := .type "list", dict := none, data := .seq its c, slots := #[] } := (I'.pin (S, _) (List.mem_append_right _ (List.mem_cons_of_mem _ List.mem_cons_self))).1
      exact wpAny_pure (hR acc its c H' s1 hz (O.back _ _ _ I') hS rv f)
    · obtain ⟨hz2, m', hm', w'⟩ := hyl _ _ _ _ _ yl
      have hS' : s1.heap.get? S = some { cls := .type "list", dict := none, data := .seq its c, slots := #[] } := (G2.gi.inv.pin (S, _) (List.mem_append_right _ (List.mem_cons_of_mem _ List.mem_cons_self))).1
      have hl : its.size = acc.length := by
        have := rv.length
        simpa using this.symm
      show wpAny _ B.in1 (updateSeq S (·.push v) >>= _) _ _ _
      refine wpAny_bind ?_
      refine wpAny_updateSeq hS' rfl (wpAny_pure ⟨plainId_quiet F.plain_extend_loop _, ih (acc ++ [y]) acc i2 m' m2 H2 _ (its.push v) _ (by omega) hm' (by rw [List.length_append]; exact hz2) (by rw [Array.toList_push]; exact rv.append (.cons ry .nil))
        (GOn.obj (s := s1) (tk := s1.toks) (S := S) O G2 (.inr ⟨_, rfl⟩) (fun b o hb e => (Heap.get?_update_other _ _ (Ne.symm hb)).trans e) (Heap.get?_update_self _ hS' rfl) fun v z => nomatch z) w'⟩)
        (by omega) (by show (its.push v).size ≤ sizeLine + 1; rw [Array.size_push]; omega)
theorem collectG {d : GD (List V)} {B : Around} {E : Value → Shared → Prop} {i m : Nat} {H : Hp} {Ql : List Value → Shared → Prop} (O : d.Ok) (lift : ∀ (t : Sem (Option Value)) (Q : Option Value → Shared → Prop) (E : Value → Shared → Prop) (s : Shared), wpAny (model d.X.prog d.X.w) d.Ac t Q E s → wpAny (model d.X.prog d.X.w) B.in1 t Q E s)
    (G : GOn d [] i m H [] s) (w : d.W [] i m H) (hyl : ∀ acc y i m H, d.Yl acc y i m H → acc.length < sizeLine ∧ ∃ m', m' ≤ m ∧ d.W (acc ++ [y]) i m' H)
    (hQ : ∀ vs its H s', vs.length ≤ sizeLine → Inv d.X d.pins d.σ H s' → L2.Vals vs its → d.Fin vs H → Ql its s') : wpAny (model d.X.prog d.X.w) B (collect (.ref d.a)) Ql E s := by
  have hT : ∀ (s9 : Shared), s9.heap.IsGen d.a d.g → s9.TypeIs (.ref d.a) "generator" := fun s9 h => h.typeIs
  have IG := gOn_isGen O G
  have hSI : s.heap.objs.size ≠ d.a := fun e => by
    obtain ⟨o, _, _, ho, _⟩ := IG
    have := Heap.lt_size ho
    rw [← e] at this
    exact Nat.lt_irrefl _ this
  unfold collect
  refine wpAny_bind (wpAny_runValue (codeAny_builtin F.entry_proto_collect ?_))
  rw [Around.under_plainId F.plain_proto_collect _]
  show wpAny _ B.in1 (newList [] >>= fun l => again (.builtin "list.__iadd__" ⟨[l, .ref d.a], []⟩)) _ _ s
  refine wpAny_bind (wpAny_newObj_type ?_)
  refine wpAny_pure ⟨plainId_quiet F.plain_list_iadd _, codeAny_builtin F.entry_list_iadd ?_⟩
  rw [Around.under_plainId F.plain_list_iadd _]
  have IG1 : (s.heap.push { cls := .type "list", data := .seq ([] : List Value).toArray }).IsGen d.a d.g := IG.push _
  show wpAny _ B.in1 (Builtin.List.listExtendWith (.ref s.heap.objs.size) (.ref d.a) (.ref s.heap.objs.size)) _ _ _
  unfold Builtin.List.listExtendWith
  refine wpAny_bind (wpAny_typeOf (hT _ IG1) ?_)
  have h1 : Builtin.List.listSameRef (.ref s.heap.objs.size) (.ref d.a) = false := by simp [Builtin.List.listSameRef, hSI]
  have h2 : (Value.type "generator" == Value.type "list") = false := by decide
  have h3 : (Value.type "generator" == Value.type "tuple") = false := by decide
  simp only [h1, h2, h3, Bool.or_false, Bool.false_eq_true, if_false]
  refine wpAny_bind (wpAny_pyIter_gen IG1 ?_)
  refine wpAny_bind (wpAny_holding ?_)
  unfold Builtin.List.listLengthHint
  refine wpAny_bind (wpAny_specialOf (hT _ IG1) F.gen_no_len ?_)
  show wpAny _ B.in1 (specialOf (Value.ref d.a) (Str.ofString "__length_hint__") >>= _) _ _ _
  refine wpAny_bind (wpAny_specialOf (hT _ IG1) F.gen_no_hint ?_)
  refine wpAny_pure ?_
  show wpAny _ B.in1 (rule "list.extend.makes-room" >>= fun _ => Builtin.List.listTouch (.ref s.heap.objs.size) >>= fun _ =>
    again (.builtin "list.extend.loop" ⟨[.ref s.heap.objs.size, .ref d.a, .ref s.heap.objs.size], []⟩)) _ _ _
  refine wpAny_bind (wpAny_rule ?_)
  have hS₁ : (s.heap.push { cls := .type "list", data := .seq ([] : List Value).toArray }).get? s.heap.objs.size = some { cls := .type "list", data := .seq ([] : List Value).toArray } := Heap.get?_push_size _ rfl
  refine wpAny_bind ?_
  show wpAny _ B.in1 (updateSeq s.heap.objs.size (·.push .none) >>= fun _ => updateSeq s.heap.objs.size (·.pop)) _ _ _
  refine wpAny_bind (wpAny_updateSeq hS₁ rfl ?_)
  have hS₂ := Heap.get?_update_self (Obj.mapSeq (·.push Value.none)) hS₁ rfl
  refine wpAny_updateSeq hS₂ rfl ?_
  have hS₃ := Heap.get?_update_self (Obj.mapSeq (·.pop)) hS₂ rfl
  have oth : ∀ b o, b ≠ s.heap.objs.size → s.heap.get? b = some o →
      (((s.heap.push { cls := .type "list", data := .seq ([] : List Value).toArray }).update s.heap.objs.size (Obj.mapSeq (·.push Value.none))).update s.heap.objs.size (Obj.mapSeq (·.pop))).get? b = some o :=
    fun b o hb e => (Heap.get?_update_other _ _ (Ne.symm hb)).trans ((Heap.get?_update_other _ _ (Ne.symm hb)).trans (Heap.get?_push_of_some _ e))
  refine wpAny_pure ⟨plainId_quiet F.plain_extend_loop _, extend_loopG O lift hyl s.heap.objs.size _ (fun vs its c H s' hz I hS rv f => ?_) (m + 1) [] [] i m m H _ #[] _ (by omega) (Nat.le_refl _) (Nat.zero_le _) .nil
    (GOn.obj (s := s) (tk := s.toks) (S := s.heap.objs.size) O G (.inl ⟨rfl, Nat.le_refl _⟩) oth hS₃ fun v z => nomatch z) w⟩
  show wpAny _ B (load s.heap.objs.size >>= _) _ _ s'
  refine wpAny_bind (wpAny_load hS ?_)
  exact wpAny_pure (hQ vs its.toList H s' hz I rv f)
theorem call_tupleG {d : GD (List V)} (O : d.Ok) (hA : d.Ac = A.in4) {E : Value → Shared → Prop} {i m : Nat} {H : Hp} (G : GOn d [] i m H [] s) (w : d.W [] i m H) (hfin : ∀ acc H, d.Fin acc H → ∀ T, H T = none → Q (.ref T) (upd H T (.tup acc)))
    (hyl : ∀ acc y i m H, d.Yl acc y i m H → acc.length < sizeLine ∧ ∃ m', m' ≤ m ∧ d.W (acc ++ [y]) i m' H) :
    wpAny (model d.X.prog d.X.w) A (call (.type "tuple") [.ref d.a]) (EP d.X d.pins d.σ Q) E s := by
  refine callType_codes (Q₁ := fun obj s₁ => s₁.TypeIs obj "tuple" ∧ EP d.X d.pins d.σ Q obj s₁) F.called_tuple (F.typeCall_tuple_1 _) F.entry_object_init ?_ fun obj s₁ h₁ => ?_
  · refine codeAny_of_tree ?_
    show wpAny _ A.in1.in1 (do checkBuiltinCall "tuple.__new__" ⟨[.type "tuple", .ref d.a], []⟩; again (.builtin "tuple.__new__" ⟨[.type "tuple", .ref d.a], []⟩)) _ _ s
    refine wpAny_bind (wpAny_of_eq (F.newCall_tuple_1 _) (wpAny_pure ⟨plainId_quiet F.plain_tuple_new _, codeAny_builtin F.entry_tuple_new ?_⟩))
    rw [Around.under_plainId F.plain_tuple_new _]
    have hsub := sub_tuple_self
    have hinit := init_tuple_lookup
    have hmh := madeHere_tuple
    have hTI := (gOn_isGen O G).typeIs
    have key : ∀ {Ql : List Value → Shared → Prop} {E : Value → Shared → Prop} (hQ : ∀ vs its H s', vs.length ≤ sizeLine → Inv d.X d.pins d.σ H s' → L2.Vals vs its → d.Fin vs H → Ql its s'), wpAny (model d.X.prog d.X.w) A.in1.in1 (collect (.ref d.a)) Ql E s := fun hQ =>
      collectG O (fun t Q E s h => of_in43 (A := A) (by rw [← hA]; exact h)) G w hyl hQ
    wp_walk using wpAny_typeOf hTI, key
    intro vs its H' s' hz I rv f
    show wpAny _ _ (Builtin.Tuple.tupleExact its.toArray >>= fun v => ret v) _ _ _
    unfold Builtin.Tuple.tupleExact
    have hl : its.length = vs.length := rv.length.symm
    refine wpAny_bind (wpAny_newObj_type ?_ (by show its.toArray.size ≤ sizeLine; rw [List.size_toArray]; omega))
    refine wpAny_pure ?_
    refine ⟨⟨_, Heap.get?_push_size _ rfl, rfl⟩, .ref s'.heap.objs.size, upd H' s'.heap.objs.size (.tup vs), ?_, rfl, hfin _ _ f _ (I.hok.fresh (Nat.le_refl _))⟩
    exact I.laid (t' := s'.toks) (fun b o e => Heap.get?_push_of_some _ e) (Nat.le_refl _) (show ObjOk d.X.prog d.X.w _ _ _ (.tup vs) from ⟨hz, its, rv, PyProof.Rows.IsTup.new _ _⟩)
  · exact ⟨h₁.1, F.args_object_init_2 obj _, object_init_meets F.called_tuple.init.lookup F.called_tuple.made (by decide) d.X.prog d.X.w A.in1 _ s₁ ⟨h₁.1, rfl, h₁.2⟩⟩
end
end Pk
end

/-! PkS -/
section
set_option Elab.async false
set_option linter.all false
set_option maxRecDepth 100000
set_option maxHeartbeats 4000000
namespace Pk
open PySem PySem.Spec L2
def gNext {β ω : Type} (step : β → W → Option (Sum ω β)) (go : β → HS → R ω) (b : β) (y : W) (h : HS) : R ω := match step b y with
  | some (.inl z) => .ok z h
  | some (.inr b') => go b' h
  | none => .no
def gLoop {β ω : Type} (own : List Nat) (kp : HS → Bool) (tg : Gx) (tt : Tx) (te : Ex) (sl : Sl) (fin : β → HS → R ω) (step : β → W → Option (Sum ω β)) : List W → β → HS → R ω
  | [], b, h => if kp h = true then fin b h else .no
  | w :: ws, b, h => if kp h = true then (match tg w (wipeS sl own) h with
    | some (s, h1) => (noX (tt s h1)).bind fun c h2 => if c = true then (noX (te s h2)).bind fun y h3 => gNext step (gLoop own kp tg tt te sl fin step ws) b y h3 else gLoop own kp tg tt te sl fin step ws b h2
    | none => .no) else .no
def eGen {β ω : Type} (own : List Nat) (src : Ix) (tg : Gx) (tt : Tx) (te : Ex) (b0 : β) (fin : β → HS → R ω) (step : β → W → Option (Sum ω β)) : Sl → HS → R ω := fun sl h => (src sl h).bind fun p h1 => gLoop own p.2 tg tt te sl fin step p.1 b0 h1
section
variable {β ω α ν : Type}
def gW (Γ : Γ) (Wx : WX) (Rl : G → ω → ν → Prop) (Rb : G → β → α → Prop) (g : G) (own : List Nat) (kp : HS → Bool) (tg : Gx) (tt : Tx) (te : Ex) (sl : Sl) (fin : β → HS → R ω) (step : β → W → Option (Sum ω β)) (ws : List W) (σ : L2.St) (Q : ν → Hp → Prop) : α → Nat → Nat → Hp → Prop := fun a i m H =>
  m = ws.length - i ∧ i ≤ ws.length ∧ ∃ g' h' b, g.le g' ∧ RH Γ g' h' H ∧ Rb g' b a ∧ Rz Γ Wx Rl g (gLoop own kp tg tt te sl fin step (ws.drop i) b h') σ Q
def gYl (Γ : Γ) (Wx : WX) (Rl : G → ω → ν → Prop) (Rb : G → β → α → Prop) (g : G) (own : List Nat) (kp : HS → Bool) (tg : Gx) (tt : Tx) (te : Ex) (sl : Sl) (fin : β → HS → R ω) (step : β → W → Option (Sum ω β)) (ws : List W) (σ : L2.St) (Q : ν → Hp → Prop) : α → V → Nat → Nat → Hp → Prop := fun a y i m H =>
  m = ws.length - i ∧ i ≤ ws.length ∧ ∃ g' h' b w, g.le g' ∧ RH Γ g' h' H ∧ Rb g' b a ∧ RW Γ.K g' w y ∧ Rz Γ Wx Rl g (gNext step (gLoop own kp tg tt te sl fin step (ws.drop i)) b w h') σ Q
def gFin (Γ : Γ) (Wx : WX) (Rl : G → ω → ν → Prop) (Rb : G → β → α → Prop) (g : G) (fin : β → HS → R ω) (σ : L2.St) (Q : ν → Hp → Prop) : α → Hp → Prop := fun a H =>
  ∃ g' h' b, g.le g' ∧ RH Γ g' h' H ∧ Rb g' b a ∧ Rz Γ Wx Rl g (fin b h') σ Q
end
section
variable {β ω α ν : Type} {Γ : Γ} {Wx : WX} {g : G} {h : HS} {H : Hp} {sl : Sl} {σ : L2.St}
theorem g_rd {Rl : G → ω → ν → Prop} {Rb : G → β → α → Prop} {own is : List Nat} {kp : HS → Bool} {tg : Gx} {tt : Tx} {te : Ex} {fin : β → HS → R ω} {step : β → W → Option (Sum ω β)} {ws : List W} {J : It} {Q : ν → Hp → Prop} (hs : ∀ j ∈ is, j ∈ own) (mono : ∀ (g g' : G) (b : β) (a : α), g.le g' → Rb g b a → Rb g' b a)
    (hS : SLk Γ g sl σ) (it : ItG Γ J ws kp g) :
    gTurn J (RDG Γ is tg) (RDT Γ W0 tt) (RDE Γ W0 te) own (wipe σ own) (gW Γ Wx Rl Rb g own kp tg tt te sl fin step ws σ Q) (gYl Γ Wx Rl Rb g own kp tg tt te sl fin step ws σ Q) (gFin Γ Wx Rl Rb g fin σ Q) := by
  rintro a i m H ⟨rfl, hi, g', h', b, l, y, rb, q⟩
  by_cases hlt : i < ws.length
  · obtain ⟨w, hw⟩ : ∃ w, ws[i]? = some w := ⟨_, List.getElem?_eq_getElem hlt⟩
    have hd : ws.drop i = w :: ws.drop (i + 1) := by
      rw [List.drop_eq_getElem_cons hlt]
      rw [List.getElem?_eq_getElem hlt] at hw
      cases hw
      rfl
    rw [hd] at q
    unfold gLoop at q
    by_cases hk : kp h' = true
    · rw [if_pos hk] at q
      obtain ⟨go, yl⟩ := it.go g' h' H i l y hk hlt
      refine .inr ⟨go, fun x H2 hy => ?_⟩
      obtain ⟨g2, l2, y2, rw2⟩ := yl x H2 hy
      refine ⟨g2, w, wipeS sl own, h', y2, SLk.wipe (SLk.mono (l.trans l2) hS), rw2 w hw, ?_⟩
      cases et : tg w (wipeS sl own) h' with
      | none => rw [et] at q; exact q.elim
      | some sp =>
        obtain ⟨s1, h1⟩ := sp
        rw [et] at q
        intro g3 σ2 H3 l3 y3 s3 o3
        refine ⟨wipe_eq hs o3, g3, s1, h1, y3, s3, ?_⟩
        have l03 : g.le g3 := l.trans (l2.trans l3)
        have q : Rz Γ Wx Rl g ((noX (tt s1 h1)).bind fun c h2 => if c = true then (noX (te s1 h2)).bind fun y h3 => gNext step (gLoop own kp tg tt te sl fin step (ws.drop (i + 1))) b y h3 else gLoop own kp tg tt te sl fin step (ws.drop (i + 1)) b h2) σ Q := q
        refine Rz.mono (fun c H4 ⟨g4, h4, c', l4, y4, ec, q4⟩ => ?_) (rz_noX σ2 g3 q)
        subst ec
        by_cases hb : c' = true
        · rw [if_pos hb] at q4 ⊢
          refine ⟨g4, s1, h4, y4, SLk.mono l4 s3, Rz.mono (fun yv H5 ⟨g5, h5, yw, l5, y5, ry, q5⟩ => ?_) (rz_noX σ2 g4 q4)⟩
          have l05 : g'.le g5 := l2.trans (l3.trans (l4.trans l5))
          exact ⟨ws.length - (i + 1), by omega, rfl, hlt, g5, h5, b, yw, l.trans l05, y5, mono _ _ _ _ l05 rb, ry, q5⟩
        · rw [if_neg hb] at q4 ⊢
          have l05 : g'.le g4 := l2.trans (l3.trans l4)
          exact ⟨ws.length - (i + 1), by omega, rfl, hlt, g4, h4, b, l.trans l05, y4, mono _ _ _ _ l05 rb, q4⟩
    · rw [if_neg hk] at q
      exact q.elim
  · have e : i = ws.length := by omega
    subst e
    rw [List.drop_length] at q
    unfold gLoop at q
    by_cases hk : kp h' = true
    · rw [if_pos hk] at q
      exact .inl ⟨it.stop g' h' H l y hk, g', h', b, l, y, rb, q⟩
    · rw [if_neg hk] at q
      exact q.elim
end
/-! any, all, sum, tuple -/
def stAny (_ : Unit) (y : W) : Option (Sum W Unit) := match y with
  | .bl b => if b then some (.inl (.bl true)) else some (.inr ())
  | _ => none
def stAll (_ : Unit) (y : W) : Option (Sum W Unit) := match y with
  | .bl b => if b then some (.inr ()) else some (.inl (.bl false))
  | _ => none
def inL (i : Int) : Bool := decide (-(2 ^ 63) ≤ i) && decide (i < 2 ^ 63)
def stSum (n : Int) (y : W) : Option (Sum W Int) := match y with
  | .int k => if (inL k && inL (n + k)) = true then some (.inr (n + k)) else none
  | _ => none
def stTup (ws : List W) (y : W) : Option (Sum W (List W)) := if ws.length < sizeLine then some (.inr (ws ++ [y])) else none
def eAny (own : List Nat) (src : Ix) (tg : Gx) (tt : Tx) (te : Ex) : Ex := eGen own src tg tt te () (fun _ h => .ok (.bl false) h) stAny
def eAll (own : List Nat) (src : Ix) (tg : Gx) (tt : Tx) (te : Ex) : Ex := eGen own src tg tt te () (fun _ h => .ok (.bl true) h) stAll
def eSumG (own : List Nat) (src : Ix) (tg : Gx) (tt : Tx) (te : Ex) : Ex := eGen own src tg tt te 0 (fun n h => .ok (.int n) h) stSum
def eTupG (own : List Nat) (src : Ix) (tg : Gx) (tt : Tx) (te : Ex) : Ex := eGen own src tg tt te [] (fun ws h => .ok (.tup ws) h) stTup
theorem stSum_yes {n k : Int} (h : (inL k && inL (n + k)) = true) : stSum n (.int k) = some (.inr (n + k)) := if_pos h
theorem stSum_no {n k : Int} (h : ¬ (inL k && inL (n + k)) = true) : stSum n (.int k) = none := if_neg h
theorem stTup_yes {ws : List W} {y : W} (h : ws.length < sizeLine) : stTup ws y = some (.inr (ws ++ [y])) := if_pos h
theorem stTup_no {ws : List W} {y : W} (h : ¬ ws.length < sizeLine) : stTup ws y = none := if_neg h
/-- what a def with generator expressions has: its code object c, the table P -/
structure HasTab (Γ : Γ) (X : Cx) (q : Str) (k : Nat) (c P : Addr) : Prop where
  room : Room (k + 1) X.A
  tb : LamX.TabB X.base X.mg c P
  code : X.env.code = .ref c
  mem : (P, X.env.qual ++ q) ∈ Γ.tabs
  uni : ∀ p ∈ Γ.tabs, p.1 = P → p.2 = X.env.qual ++ q
section
variable {Γ : Γ} {Wx : WX} {X : Cx} {c P : Addr} {elt tg iter : Expr} {ifs : List Expr} {gpos p pos : Pos} {scope : Scope} {own : List (Str × Nat)} {is : List Nat} {k : Nat} {src : Ix} {tgx : Gx} {tt : Tx} {te : Ex}
theorem gen_rd {β ω α : Type} {pins : List (Addr × Obj)} {σ : L2.St} {H : Hp} {s : Shared} {ν : Type} {Rl : G → ω → ν → Prop} {Q : ν → Hp → Prop} {Q' : Value → Shared → Prop} (Rb : G → β → α → Prop) {b0 : β} {fin : β → HS → R ω} {step : β → W → Option (Sum ω β)} (a0 : α)
    (T : HasTab Γ X "<genexpr>" k c P) (hN : X.N.Nodup) (ok : GenB X.N X.env.scope scope own) (hi : PI X tg iter (RDI Γ Wx src))
    (hg : ∀ (Ag : Around) (s : Shared) (H : Hp) (C : Addr) (code : Value) (fp : List Addr), Room k Ag → PG (gnCx X Ag s H (gnEnv X scope C code) fp) tg (RDG Γ is tgx))
    (ht : ∀ (Ag : Around) (s : Shared) (H : Hp) (C : Addr) (code : Value) (fp : List Addr), Room k Ag → PTs (gnCx X Ag s H (gnEnv X scope C code) fp) ifs (RDT Γ W0 tt))
    (he : ∀ (Ag : Around) (s : Shared) (H : Hp) (C : Addr) (code : Value) (fp : List Addr), Room k Ag → PE (gnCx X Ag s H (gnEnv X scope C code) fp) elt (RDE Γ W0 te))
    (hs : ∀ j ∈ is, j ∈ own.map (·.2)) (mono : ∀ (g g' : G) (b : β) (a : α), g.le g' → Rb g b a → Rb g' b a) (hb : ∀ g, Rb g b0 a0)
    (hf : ∀ v, genFold iter X.env v = pure v) (I : Inv X pins σ H s)
    (h : ∃ g sl h, RH Γ g h H ∧ SLk Γ g sl σ ∧ Rz Γ Wx Rl g (eGen (own.map (·.2)) src tgx tt te b0 fin step sl h) σ Q)
    (hQ : ∀ (d : GD α) (m : Nat) (H2 : Hp) (s5 : Shared) (ws : List W) (kp : HS → Bool) (sl : Sl) (g : G), d.Ok → d.X = X → d.pins = pins → d.σ = σ → d.Ac = X.A.in4 →
      (∀ a i m H, d.W a i m H ↔ gW Γ Wx Rl Rb g (own.map (·.2)) kp tgx tt te sl fin step ws σ Q a i m H) → (∀ a y i m H, d.Yl a y i m H → gYl Γ Wx Rl Rb g (own.map (·.2)) kp tgx tt te sl fin step ws σ Q a y i m H) → (∀ a H, d.Fin a H → gFin Γ Wx Rl Rb g fin σ Q a H) →
      GOn d a0 0 m H2 [] s5 → d.W a0 0 m H2 → Q' (.ref d.a) s5) :
    wpAny (model X.prog X.w) X.A (eval (.GeneratorExp elt [⟨tg, iter, ifs, 0⟩] scope gpos) X.env) Q' X.xe s := by
  obtain ⟨g, sl, h, hH, hS, q⟩ := h
  refine gen_core (α := α) (Con := fun Wp Yl Fin acc m H2 => acc = a0 ∧ ∃ (ws : List W) (kp : HS → Bool) (sl : Sl) (g : G),
      (∀ a i m H, Wp a i m H ↔ gW Γ Wx Rl Rb g (own.map (·.2)) kp tgx tt te sl fin step ws σ Q a i m H) ∧ (∀ a y i m H, Yl a y i m H → gYl Γ Wx Rl Rb g (own.map (·.2)) kp tgx tt te sl fin step ws σ Q a y i m H) ∧ (∀ a H, Fin a H → gFin Γ Wx Rl Rb g fin σ Q a H))
    T.room T.tb T.code T.mem T.uni ok hN hi hg ht he hf I ⟨g, sl, h, hH, hS, ?_⟩ fun d acc m H2 s5 O e1 e2 e3 e4 ⟨ea, ws, kp, sl, g, h1, h2, h3⟩ G w => ?_
  · unfold eGen at q
    cases es : src sl h with
    | no => rw [es] at q; exact q.elim
    | exc c h1 => rw [es] at q; exact q
    | ok p h1 =>
      rw [es] at q
      intro g' H' J l y it
      refine ⟨y.tab, fun H2 hE hT => ?_⟩
      exact ⟨gW Γ Wx Rl Rb g' (own.map (·.2)) p.2 tgx tt te sl fin step p.1 σ Q, gYl Γ Wx Rl Rb g' (own.map (·.2)) p.2 tgx tt te sl fin step p.1 σ Q, gFin Γ Wx Rl Rb g' fin σ Q, a0, _, g_rd (Rb := Rb) hs mono (SLk.mono l hS) it,
        ⟨rfl, Nat.zero_le _, g', h1, b0, .refl _, y.tabs hE hT, hb _, (by exact Rz.le l q)⟩, rfl, p.1, p.2, sl, g', fun _ _ _ _ => Iff.rfl, fun _ _ _ _ _ z => z, fun _ _ z => z⟩
  · subst ea
    exact hQ d m H2 s5 ws kp sl g O e1 e2 e3 e4 h1 h2 h3 G w
theorem e_any (T : HasTab Γ X "<genexpr>" k c P) (hN : X.N.Nodup) (hm : X.mg "any" = none) (ok : GenB X.N X.env.scope scope own) (hi : PI X tg iter (RDI Γ Wx src))
    (hg : ∀ (Ag : Around) (s : Shared) (H : Hp) (C : Addr) (code : Value) (fp : List Addr), Room k Ag → PG (gnCx X Ag s H (gnEnv X scope C code) fp) tg (RDG Γ is tgx))
    (ht : ∀ (Ag : Around) (s : Shared) (H : Hp) (C : Addr) (code : Value) (fp : List Addr), Room k Ag → PTs (gnCx X Ag s H (gnEnv X scope C code) fp) ifs (RDT Γ W0 tt))
    (he : ∀ (Ag : Around) (s : Shared) (H : Hp) (C : Addr) (code : Value) (fp : List Addr), Room k Ag → PE (gnCx X Ag s H (gnEnv X scope C code) fp) elt (RDE Γ W0 te))
    (hs : ∀ j ∈ is, j ∈ own.map (·.2) := by decide) (hl : Gl X "any" := by rfl) (hf : ∀ v, genFold iter X.env v = pure v := by intro _; rfl)
    (hse : starEach [.GeneratorExp elt [⟨tg, iter, ifs, 0⟩] scope gpos] X.env = (false, eval (.GeneratorExp elt [⟨tg, iter, ifs, 0⟩] scope gpos) X.env) :: starEach [] X.env := by rfl) :
    PE X (.Call (.Name "any" p) [.GeneratorExp elt [⟨tg, iter, ifs, 0⟩] scope gpos] [] pos) (RDE Γ Wx (eAny (own.map (·.2)) src tgx tt te)) := by
  refine ⟨fun pins s σ H Q I h => ?_⟩
  refine wpAny_Call_Name_kw (ld_blt I hl hm PyProof.Rows.boot_any ?_)
  refine PyProof.Rows.callWith_builtin1 ?_ hse (by rfl)
  rw [hse]
  show wpAny _ _ (spliced ((false, eval (.GeneratorExp elt [⟨tg, iter, ifs, 0⟩] scope gpos) X.env) :: backTo pos (starEach [] X.env))) _ _ s
  refine Calls.spliced_cons (gen_rd (Rb := fun _ (_ : Unit) (_ : Unit) => True) () T hN ok hi hg ht he hs (fun _ _ _ _ _ _ => trivial) (fun _ => trivial) hf I h fun d m H2 s5 ws kp sl g O e1 e2 e3 e4 hW hY hF G w => ?_)
  refine Calls.spliced_nil ?_
  subst e1; subst e2; subst e3
  refine call_anyG O e4 G w (fun acc H f => ?_) fun acc y i m H yl => ?_
  · obtain ⟨g', h', b, l, yH, _, q⟩ := hF _ _ f
    exact q g' _ H l yH (mbl _)
  · obtain ⟨em, hi', g', h', b, w', l, yH, _, rw', q⟩ := hY _ _ _ _ _ yl
    unfold gNext at q
    cases w' with
    | bl bb =>
      obtain rfl := rbl rw'
      refine ⟨bb, rfl, fun e => ?_, fun e => ?_⟩
      · subst e
        exact q g' _ H l yH (mbl _)
      · subst e
        exact ⟨(), m, Nat.le_refl _, (hW _ _ _ _).mpr ⟨em, hi', g', h', (), l, yH, trivial, q⟩⟩
    | _ => exact q.elim
end
end Pk
end

/-! PkT -/
section
set_option Elab.async false
set_option linter.all false
set_option maxRecDepth 100000
set_option maxHeartbeats 4000000
namespace Pk
open PySem PySem.Spec L2
section
variable {Γ : Γ} {Wx : WX} {X : Cx} {c P : Addr} {elt tg iter : Expr} {ifs : List Expr} {gpos p pos : Pos} {scope : Scope} {own : List (Str × Nat)} {is : List Nat} {k : Nat} {src : Ix} {tgx : Gx} {tt : Tx} {te : Ex}
theorem e_all (T : HasTab Γ X "<genexpr>" k c P) (hN : X.N.Nodup) (hm : X.mg "all" = none) (ok : GenB X.N X.env.scope scope own) (hi : PI X tg iter (RDI Γ Wx src))
    (hg : ∀ (Ag : Around) (s : Shared) (H : Hp) (C : Addr) (code : Value) (fp : List Addr), Room k Ag → PG (gnCx X Ag s H (gnEnv X scope C code) fp) tg (RDG Γ is tgx))
    (ht : ∀ (Ag : Around) (s : Shared) (H : Hp) (C : Addr) (code : Value) (fp : List Addr), Room k Ag → PTs (gnCx X Ag s H (gnEnv X scope C code) fp) ifs (RDT Γ W0 tt))
    (he : ∀ (Ag : Around) (s : Shared) (H : Hp) (C : Addr) (code : Value) (fp : List Addr), Room k Ag → PE (gnCx X Ag s H (gnEnv X scope C code) fp) elt (RDE Γ W0 te))
    (hs : ∀ j ∈ is, j ∈ own.map (·.2) := by decide) (hl : Gl X "all" := by rfl) (hf : ∀ v, genFold iter X.env v = pure v := by intro _; rfl)
    (hse : starEach [.GeneratorExp elt [⟨tg, iter, ifs, 0⟩] scope gpos] X.env = (false, eval (.GeneratorExp elt [⟨tg, iter, ifs, 0⟩] scope gpos) X.env) :: starEach [] X.env := by rfl) :
    PE X (.Call (.Name "all" p) [.GeneratorExp elt [⟨tg, iter, ifs, 0⟩] scope gpos] [] pos) (RDE Γ Wx (eAll (own.map (·.2)) src tgx tt te)) := by
  refine ⟨fun pins s σ H Q I h => ?_⟩
  refine wpAny_Call_Name_kw (ld_blt I hl hm PyProof.Rows.boot_all ?_)
  refine PyProof.Rows.callWith_builtin1 ?_ hse (by rfl)
  rw [hse]
  show wpAny _ _ (spliced ((false, eval (.GeneratorExp elt [⟨tg, iter, ifs, 0⟩] scope gpos) X.env) :: backTo pos (starEach [] X.env))) _ _ s
  refine Calls.spliced_cons (gen_rd (Rb := fun _ (_ : Unit) (_ : Unit) => True) () T hN ok hi hg ht he hs (fun _ _ _ _ _ _ => trivial) (fun _ => trivial) hf I h fun d m H2 s5 ws kp sl g O e1 e2 e3 e4 hW hY hF G w => ?_)
  refine Calls.spliced_nil ?_
  subst e1; subst e2; subst e3
  refine call_allG O e4 G w (fun acc H f => ?_) fun acc y i m H yl => ?_
  · obtain ⟨g', h', b, l, yH, _, q⟩ := hF _ _ f
    exact q g' _ H l yH (mbl _)
  · obtain ⟨em, hi', g', h', b, w', l, yH, _, rw', q⟩ := hY _ _ _ _ _ yl
    unfold gNext at q
    cases w' with
    | bl bb =>
      obtain rfl := rbl rw'
      refine ⟨bb, rfl, fun e => ?_, fun e => ?_⟩
      · subst e
        exact q g' _ H l yH (mbl _)
      · subst e
        exact ⟨(), m, Nat.le_refl _, (hW _ _ _ _).mpr ⟨em, hi', g', h', (), l, yH, trivial, q⟩⟩
    | _ => exact q.elim
theorem e_sumG (T : HasTab Γ X "<genexpr>" k c P) (hN : X.N.Nodup) (hm : X.mg "sum" = none) (ok : GenB X.N X.env.scope scope own) (hi : PI X tg iter (RDI Γ Wx src))
    (hg : ∀ (Ag : Around) (s : Shared) (H : Hp) (C : Addr) (code : Value) (fp : List Addr), Room k Ag → PG (gnCx X Ag s H (gnEnv X scope C code) fp) tg (RDG Γ is tgx))
    (ht : ∀ (Ag : Around) (s : Shared) (H : Hp) (C : Addr) (code : Value) (fp : List Addr), Room k Ag → PTs (gnCx X Ag s H (gnEnv X scope C code) fp) ifs (RDT Γ W0 tt))
    (he : ∀ (Ag : Around) (s : Shared) (H : Hp) (C : Addr) (code : Value) (fp : List Addr), Room k Ag → PE (gnCx X Ag s H (gnEnv X scope C code) fp) elt (RDE Γ W0 te))
    (hs : ∀ j ∈ is, j ∈ own.map (·.2) := by decide) (hl : Gl X "sum" := by rfl) (hf : ∀ v, genFold iter X.env v = pure v := by intro _; rfl)
    (hse : starEach [.GeneratorExp elt [⟨tg, iter, ifs, 0⟩] scope gpos] X.env = (false, eval (.GeneratorExp elt [⟨tg, iter, ifs, 0⟩] scope gpos) X.env) :: starEach [] X.env := by rfl) :
    PE X (.Call (.Name "sum" p) [.GeneratorExp elt [⟨tg, iter, ifs, 0⟩] scope gpos] [] pos) (RDE Γ Wx (eSumG (own.map (·.2)) src tgx tt te)) := by
  refine ⟨fun pins s σ H Q I h => ?_⟩
  refine wpAny_Call_Name_kw (ld_blt I hl hm PyProof.Rows.boot_sum ?_)
  refine PyProof.Rows.callWith_builtin1 ?_ hse (by rfl)
  rw [hse]
  show wpAny _ _ (spliced ((false, eval (.GeneratorExp elt [⟨tg, iter, ifs, 0⟩] scope gpos) X.env) :: backTo pos (starEach [] X.env))) _ _ s
  refine Calls.spliced_cons (gen_rd (Rb := fun _ (a : Int) (b : Int) => a = b) (0 : Int) T hN ok hi hg ht he hs (fun _ _ _ _ _ z => z) (fun _ => rfl) hf I h fun d m H2 s5 ws kp sl g O e1 e2 e3 e4 hW hY hF G w => ?_)
  refine Calls.spliced_nil ?_
  subst e1; subst e2; subst e3
  refine call_sumG O e4 G w (fun acc H f => ?_) fun acc y i m H yl => ?_
  · obtain ⟨g', h', b, l, yH, rfl, q⟩ := hF _ _ f
    exact q g' _ H l yH (mint _)
  · obtain ⟨em, hi', g', h', b, w', l, yH, rfl, rw', q⟩ := hY _ _ _ _ _ yl
    unfold gNext at q
    cases w' with
    | int kk =>
      obtain rfl := rint rw'
      by_cases hc : (inL kk && inL (b + kk)) = true
      · rw [stSum_yes hc] at q
        unfold inL at hc
        simp only [Bool.and_eq_true, decide_eq_true_eq] at hc
        exact ⟨kk, rfl, hc.1, hc.2, m, Nat.le_refl _, (hW _ _ _ _).mpr ⟨em, hi', g', h', _, l, yH, rfl, q⟩⟩
      · rw [stSum_no hc] at q
        exact q.elim
    | _ => exact q.elim
theorem e_tupG (T : HasTab Γ X "<genexpr>" k c P) (hN : X.N.Nodup) (hm : X.mg "tuple" = none) (ok : GenB X.N X.env.scope scope own) (hi : PI X tg iter (RDI Γ Wx src))
    (hg : ∀ (Ag : Around) (s : Shared) (H : Hp) (C : Addr) (code : Value) (fp : List Addr), Room k Ag → PG (gnCx X Ag s H (gnEnv X scope C code) fp) tg (RDG Γ is tgx))
    (ht : ∀ (Ag : Around) (s : Shared) (H : Hp) (C : Addr) (code : Value) (fp : List Addr), Room k Ag → PTs (gnCx X Ag s H (gnEnv X scope C code) fp) ifs (RDT Γ W0 tt))
    (he : ∀ (Ag : Around) (s : Shared) (H : Hp) (C : Addr) (code : Value) (fp : List Addr), Room k Ag → PE (gnCx X Ag s H (gnEnv X scope C code) fp) elt (RDE Γ W0 te))
    (hs : ∀ j ∈ is, j ∈ own.map (·.2) := by decide) (hl : Gl X "tuple" := by rfl) (hf : ∀ v, genFold iter X.env v = pure v := by intro _; rfl)
    (hse : starEach [.GeneratorExp elt [⟨tg, iter, ifs, 0⟩] scope gpos] X.env = (false, eval (.GeneratorExp elt [⟨tg, iter, ifs, 0⟩] scope gpos) X.env) :: starEach [] X.env := by rfl) :
    PE X (.Call (.Name "tuple" p) [.GeneratorExp elt [⟨tg, iter, ifs, 0⟩] scope gpos] [] pos) (RDE Γ Wx (eTupG (own.map (·.2)) src tgx tt te)) := by
  refine ⟨fun pins s σ H Q I h => ?_⟩
  refine wpAny_Call_Name_kw (ld_blt I hl hm PyProof.Rows.boot_tuple ?_)
  refine PyProof.Rows.callWith_type1 ?_ hse (by rfl)
  rw [hse]
  show wpAny _ _ (spliced ((false, eval (.GeneratorExp elt [⟨tg, iter, ifs, 0⟩] scope gpos) X.env) :: backTo pos (starEach [] X.env))) _ _ s
  refine Calls.spliced_cons (gen_rd (Rb := fun g a b => RWs Γ.K g a b) ([] : List V) T hN ok hi hg ht he hs (fun _ _ _ _ l z => RWs.mono l _ _ z) (fun _ => .nil) hf I h fun d m H2 s5 ws kp sl g O e1 e2 e3 e4 hW hY hF G w => ?_)
  refine Calls.spliced_nil ?_
  subst e1; subst e2; subst e3
  refine call_tupleG O e4 G w (fun acc H f T hT => ?_) fun acc y i m H yl => ?_
  · obtain ⟨g', h', b, l, yH, rb, q⟩ := hF _ _ f
    exact mkT_ok (Wx := Wx) (σ := d.σ) yH hT rb (Rz.le l q)
  · obtain ⟨em, hi', g', h', b, w', l, yH, rb, rw', q⟩ := hY _ _ _ _ _ yl
    unfold gNext at q
    by_cases hc : b.length < sizeLine
    · rw [stTup_yes hc] at q
      exact ⟨by rw [← rb.len]; exact hc, m, Nat.le_refl _, (hW _ _ _ _).mpr ⟨em, hi', g', h', _, l, yH, rb.app (.cons rw' .nil), q⟩⟩
    · rw [stTup_no hc] at q
      exact q.elim
end
end Pk
end

/-! PkU -/
section
set_option Elab.async false
set_option linter.all false
set_option maxRecDepth 100000
set_option maxHeartbeats 4000000
namespace Pk
open PySem PySem.Spec L2
/-! _law_told(lambda: e) -/
def told (excs : List Nat) (ret : Str) (r : R W) : R W := match r with
  | .ok w h => .ok w h
  | .exc c h => if excs.contains c then .ok (.str ret) h else .no
  | .no => .no
def eTold (excs : List Nat) (ret : Str) (te : Ex) : Ex := fun sl h => told excs ret (te sl h)
theorem told_rd {Γ : Γ} {Wx : WX} {g : G} {K : PySem.W.Frag} {CS : Addr} {excs : List Nat} {ret : Str} {r : R W} {σ : L2.St} {Q : VK} (hx : ∀ c ∈ excs, PySem.W.exmOne K (.ref (Γ.cls c)) (.ref CS) = some true) (q : Rz Γ Wx (RW Γ.K) g (told excs ret r) σ Q) :
    Rz Γ (fun cls _ _ H' => ∃ b, PySem.W.exmOne K cls (.ref CS) = some b ∧ (b = true → Q (.str ret) H') ∧ (b = false → False)) (RW Γ.K) g r σ Q := by
  cases r with
  | ok w h => exact q
  | no => exact q
  | exc c h =>
    unfold told at q
    by_cases hc : excs.contains c = true
    · have q : Rz Γ Wx (RW Γ.K) g (if excs.contains c then .ok (.str ret) h else .no) σ Q := q
      rw [if_pos hc] at q
      exact fun g' H' l y => ⟨true, hx c (List.contains_iff_mem.mp hc), fun _ => q g' _ H' l y (mstr _), fun z => by cases z⟩
    · have q : Rz Γ Wx (RW Γ.K) g (if excs.contains c then .ok (.str ret) h else .no) σ Q := q
      rw [if_neg hc] at q
      exact q.elim
section
variable {Γ : Γ} {Wx : WX} {X : Cx} {c P g CS : Addr} {k : Nat} {x a e ret : Str} {pg : Arguments} {sg : Scope} {dV kV doc pm cdv ct oc : Value} {an od : Option Addr} {osl : Array (Option Value)} {Ng : List Str}
    {params : Arguments} {body : Expr} {scope : Scope} {te : Ex} {p lpos pos : Pos} {j : Nat} {p1 p2 p3 p4 p5 p6 p7 p8 : Pos} {excs : List Nat}
theorem e_told (T : HasTab Γ X "<lambda>" (k + 1) c P) (hg : Gl X x) (hm : X.mg x = some (.ref g)) (hk : PySem.W.keepIn X.K (.ref g) = true)
    (lk : X.K.lookup g = some ⟨oc, od, .func (PySem.W.fnOf x x pg [.Try [.Return (some (.Call (.Name a p1) [] [] p2)) p3] [.ExceptHandler (some (.Name e p4)) none [.Return (some (.Constant (.str ret) j p5)) p6] p7] [] [] p8] sg dV kV doc pm an cdv ct), osl⟩)
    (hcg : PySem.W.codeIn X.K cdv x = true) (hb : L2.Binds X.K (PySem.W.fnOf x x pg [.Try [.Return (some (.Call (.Name a p1) [] [] p2)) p3] [.ExceptHandler (some (.Name e p4)) none [.Return (some (.Constant (.str ret) j p5)) p6] p7] [] [] p8] sg dV kV doc pm an cdv ct) [a] []) (Sg : FnScope Ng [a] sg) (hNg : Ng[0]? = some a) (hva : Vis sg a)
    (hge : sg.names.lookup e = some .globalImplicit) (hme : X.mg e = some (.ref CS)) (hde : (e == ("__debug__" : Str)) = false) (h0 : ∀ f : Addr, (L2.start Ng [V.ref f])[0]? = some (some (V.ref f)))
    (hx : ∀ c ∈ excs, PySem.W.exmOne X.K (.ref (Γ.cls c)) (.ref CS) = some true)
    (L : LamX.LamS X.env.scope scope) (hdef : defaultsOf params X.env = ([], [])) (hbind : ∀ (q : Str) (cl : List (Str × Addr)) (pm cv ctv : Value), bindArgs (PySem.W.kla_fn "<lambda>" q params body scope cl pm cv ctv) ⟨[], []⟩ = pure [])
    (hbody : ∀ (A : Around) (outer : List Env) (s : Shared) (H : Hp) (E : XK) (f c' : Addr), Room k (A.deeper (LamX.lamEnv X scope s.heap.objs.size f c')) → Takes (LamX.lamCx X A outer s H E scope f c') (fun c d _ H' => E c d H') → PE (LamX.lamCx X A outer s H E scope f c') body (RDE Γ (fun c d _ H' => E c d H') te))
    (hdb : (x == ("__debug__" : Str)) = false := by decide) (hd : (a == ("__debug__" : Str)) = false := by decide) (hcd : (a == ("__classdict__" : Str)) = false := by decide) :
    PE X (.Call (.Name x p) [.Lambda params body scope lpos] [] pos) (RDE Γ Wx (eTold excs ret te)) := by
  refine PE.imp (LamX.pe_lamcall (T := Γ.tabs) (t := fun E => RDE Γ (fun c d _ H' => E c d H') te) (TT := LamX.TTold X.K CS ret) hg hm hk lk hcg hb Sg hNg hva (LamX.told_gives hge hme hde h0) T.tb T.code T.mem T.uni T.room L hdef hbind
    (fun A outer s H E f c' hr => hbody A outer s H E f c' hr (takes_of rfl rfl rfl rfl)) hdb hd hcd) fun σ H Q ⟨g, sl, h, hH, hS, q⟩ => ?_
  refine ⟨hH.tab, fun H1 hE hT => ⟨g, sl, h, hH.tabs hE hT, hS, told_rd hx q⟩⟩
end
end Pk
end

/-! PkV -/
section
set_option Elab.async false
set_option linter.all false
set_option maxRecDepth 100000
set_option maxHeartbeats 4000000
namespace Pk
open PySem PySem.Spec L2
/-! a list comprehension whose tests know the def's own state too -/
section
variable {X : Cx}
theorem lc_coreI {pins : List (Addr × Obj)} {s : Shared} {σ : L2.St} {H : Hp} {Q : VK} {elt tg iter : Expr} {ifs : List Expr} {scope : Scope} {own : List (Str × Nat)} {pos pos' : Pos} {wi : TI} {g : TG} {tt : TT} {te : TE} {use : Option (Value → Sem Unit)} {Qf : Value → Shared → Prop}
    (hc : X.calm = true) (hN : X.N.Nodup) (I : Inv X pins σ H s) (hi : PI X tg iter wi) (ok : BlkOk X.N X.env.scope scope own)
    (hg : ∀ (s : Shared) (H : Hp) (C : Addr) (cl : List (Str × Addr)) (fp : List Addr), PG (X.blk s H scope (compEnvC scope cl C X.env) fp) tg g) (ht : ∀ (s : Shared) (H : Hp) (C : Addr) (cl : List (Str × Addr)) (fp : List Addr), Inv X pins σ H s → (∀ b ∈ fp, FpOk X pins H b) → PTs (X.blk s H scope (compEnvC scope cl C X.env) fp) ifs tt)
    (he : ∀ (s : Shared) (H : Hp) (C : Addr) (cl : List (Str × Addr)) (fp : List Addr), PE (X.blk s H scope (compEnvC scope cl C X.env) fp) elt te) (hs : ∀ x, foldedSetIterable iter X.env x = pure x)
    (h : tLc wi g tt te (own.map (·.2)) σ H Q)
    (hRR : ∀ D C s' m H', Inv X pins σ H' s' → Q (.ref D) H' → s'.heap.Ns C m → FpOk X pins H' C → compPost (model X.prog X.w) X.A X.xe use Qf (.ref D) C (.ok .next) s') :
    wpAny (model X.prog X.w) X.A (comprehension (.ListComp elt [⟨tg, iter, ifs, 0⟩] scope pos) scope X.env pos' (newList []) false (eval iter X.env) use) Qf X.xe s := by
  have hfree : ∀ y ∈ scope.names, y.2 = .free → ∃ c, X.env.cells.lookup y.1 = some c := fun y hy e => by
    rcases ok.free y hy e with k | k
    · exact I.ok.has _ (.inl k)
    · exact I.ok.has _ (.inr k)
  refine wpAny_comprehension_free (use := use) rfl hs (closure_ok hfree) ok.kind (fun y hy e => by rw [ok.uniq y hy, e])
    (thn (hi.run pins s σ H _ I h) fun xv s1 hx => thn hx fun itv s2 h2 => ?_)
  obtain ⟨it, fp, tn, J, H2, e, I2, T, st2, f2, q⟩ := h2
  subst e
  refine wpAny_newObj_type (newEnv_comp ?_) (by show 0 ≤ sizeLine; decide)
  generalize hD : s2.heap.objs.size = D
  have hDn : H2 D = none := I2.hok.fresh (Nat.le_of_eq hD)
  obtain ⟨W, ⟨m0, w0⟩, turn⟩ := q D hDn
  -- the new list
  generalize hs3 : ({ s2 with heap := s2.heap.push { cls := .type "list", data := .seq ([] : List Value).toArray } } : Shared) = s3
  have I3 : Inv X pins σ (upd H2 D (.lst [])) s3 := by
    rw [← hs3]
    refine I2.laid (t' := s2.toks) (fun b o e => Heap.get?_push_of_some _ e) (Nat.le_of_eq hD) ⟨Nat.zero_le _, [], 0, .nil, ?_⟩
    rw [← hD]
    exact Heap.get?_push_size _ rfl
  have h3 : s3.heap = s2.heap.push { cls := .type "list", data := .seq ([] : List Value).toArray } := by rw [← hs3]
  have sz : ∀ b ∈ fp, b < s2.heap.objs.size := fun b hb => by
    obtain ⟨o, e, _⟩ := T.obj _ _ st2 b hb
    exact Heap.lt_size e
  have f3 : ∀ b ∈ fp, FpOk X pins (upd H2 D (.lst [])) b ∧ b < s3.heap.objs.size := fun b hb => by
    have hlt := sz b hb
    refine ⟨⟨?_, (f2 b hb).2⟩, by rw [h3, Heap.size_push]; exact Nat.lt_succ_of_lt hlt⟩
    rw [upd_ne (by rw [← hD]; exact Nat.ne_of_lt hlt)]
    exact (f2 b hb).1
  have st3 : tn 0 s3.heap := T.keep _ _ _ st2 fun b _ o e => by rw [h3]; exact Heap.get?_push_of_some _ e
  have I4 := block_start I3 ok hN f3
  have pg := hg s3 (upd H2 D (.lst [])) s3.heap.objs.size (cellsFrom (s3.heap.objs.size + 1) scope.names (cloFrom X.env.cells scope.names [])) fp
  have pt := ht s3 (upd H2 D (.lst [])) s3.heap.objs.size (cellsFrom (s3.heap.objs.size + 1) scope.names (cloFrom X.env.cells scope.names [])) fp I3 fun b hb => (f3 b hb).1
  have pe := he s3 (upd H2 D (.lst [])) s3.heap.objs.size (cellsFrom (s3.heap.objs.size + 1) scope.names (cloFrom X.env.cells scope.names [])) fp
  show codeAny _ _ (.compStart (.ListComp elt [⟨tg, iter, ifs, 0⟩] scope pos) 0 (.ref it) (.ref D) (compEnvC scope (cellsFrom (s3.heap.objs.size + 1) scope.names (cloFrom X.env.cells scope.names [])) s3.heap.objs.size X.env)) (compPost (model X.prog X.w) X.A X.xe use Qf (.ref D) s3.heap.objs.size) { s3 with heap := pushCells (s3.heap.push { cls := .type "dict", data := .dict #[] }) scope.names }
  have nfp : ∀ b ∈ fp, (upd H2 D (.lst [])) b = none := fun b hb => (f3 b hb).1.1
  generalize hce : compEnvC scope (cellsFrom (s3.heap.objs.size + 1) scope.names (cloFrom X.env.cells scope.names [])) s3.heap.objs.size X.env = ce at I4 pg pt pe ⊢
  have cL : ce.locals = s3.heap.objs.size := by subst hce; rfl
  generalize hH3 : upd H2 D (.lst []) = H3 at I3 I4 pg pt pe w0 nfp f3
  generalize hs4 : ({ s3 with heap := pushCells (s3.heap.push { cls := .type "dict", data := .dict #[] }) scope.names } : Shared) = s4 at I4 ⊢
  have st4 : tn 0 s4.heap := T.keep _ _ _ st3 fun b _ o e => by rw [← hs4]; exact pushCells_keeps _ _ _ _ (Heap.get?_push_of_some _ e)
  have stat : ∀ {σ' : L2.St} {H' : Hp} {s' : Shared}, Inv (X.blk s3 H3 scope ce fp) [] σ' H' s' → (∀ b ∈ fp, H' b = none) → ∀ b ∈ fp, FpOk (X.blk s3 H3 scope ce fp) [] H' b := fun {σ' H' s'} I' hn b hb =>
    ⟨hn b hb, (I'.ok.exf b hb).1, I'.ok.exfs b hb, .inl hb, fun x c e => (I'.ok.exf b hb).2 x c e, fun p hp => absurd (show p ∈ ([] : List (Addr × Obj)) ++ [] from hp) (by simp)⟩
  have loop : codeAny (model X.prog X.w) X.A (.compLoop (.ListComp elt [⟨tg, iter, ifs, 0⟩] scope pos) 0 (.ref it) (.ref D) ce) (compPost (model X.prog X.w) X.A X.xe use Qf (.ref D) s3.heap.objs.size) s4 := by
    refine compLoop_any (fun n s' => ∃ i H', Inv (X.blk s3 H3 scope ce fp) [] (wipe σ (own.map (·.2))) H' s' ∧ tn i s'.heap ∧ (∀ b ∈ fp, H' b = none) ∧ W i n H') ?_ m0 ⟨0, H3, I4, st4, nfp, w0⟩
    rintro n s5 ⟨i, H5, I5, st5, n5, w5⟩
    rcases turn i n H5 w5 with ⟨stop, qq⟩ | ⟨go, Nx, hNx, step⟩
    · have td := T.done (X.blk s3 H3 scope ce fp) rfl rfl rfl hc i [] s5 _ H5 (fun _ _ => False) I5 (stat I5 n5) st5 stop
      refine thnF td fun r s6 ⟨hr, I6⟩ => ?_
      subst hr
      -- back in the def's context
      have I7 : Inv X pins σ H5 s6 := I3.call' (ch := fp) I6.os I6.base I6.hok I6.bare fun b hb => ⟨(f3 b hb).1.2.2.2.1, (f3 b hb).1.2.1, (f3 b hb).1.2.2.2.2.1, (f3 b hb).1.2.2.2.2.2⟩
      have nC : H5 s3.heap.objs.size = none := by
        have z : H5 ce.locals = none := I6.free
        rw [cL] at z
        exact z
      obtain ⟨m, hn, _⟩ := I6.loc
      have hn : s6.heap.Ns ce.locals m := hn
      rw [cL] at hn
      exact hRR D s3.heap.objs.size s6 m H5 I7 qq hn (I3.fpOk (Nat.le_refl _) nC)
    · have ti := T.item (X.blk s3 H3 scope ce fp) rfl rfl rfl hc i [] s5 _ H5 (fun _ _ => False) I5 (stat I5 n5) st5 go
      refine thnF ti fun r s6 ⟨u, hr, h6⟩ => ?_
      subst hr
      refine thnF h6 fun _ s7 ⟨x, H7, I7, r7, y7, st7, n7⟩ => ?_
      have I7' := I7.pinned (stat I7 n7) (T.obj _ _ st7)
      refine thnF (pg.run _ s7 _ H7 x u _ I7' r7 (step x H7 y7)) fun _ s8 ⟨σ8, H8, I8, hw8, q8⟩ => ?_
      refine thnF (pt.run _ s8 σ8 H8 _ I8 q8) fun b s9 ⟨H9, I9, q9⟩ => ?_
      -- the turn's end
      have fin : ∀ {s' : Shared} {H' : Hp}, Inv (X.blk s3 H3 scope ce fp) ([] ++ pinsAt fp s7.heap) σ8 H' s' → Nx H' → ∃ m, m < n ∧ ∃ i H', Inv (X.blk s3 H3 scope ce fp) [] (wipe σ (own.map (·.2))) H' s' ∧ tn i s'.heap ∧ (∀ b ∈ fp, H' b = none) ∧ W i m H' := fun {s' H'} I' nx => by
        obtain ⟨m', hm, w'⟩ := hNx H' nx
        have pin' : ∀ b ∈ fp, ∀ o, s7.heap.get? b = some o → s'.heap.get? b = some o ∧ H' b = none := fun b hb o e =>
          let z := I'.pin (b, o) (List.mem_append_right _ (List.mem_append_right _ (mem_pinsAt hb e)))
          ⟨z.1, z.2.1⟩
        have hl : (wipe σ (own.map (·.2))).length = σ8.length := by rw [← hw8, wipe_length]
        refine ⟨m', hm, i + 1, H', (I'.unpinned (pins := [])).weak hl (fun j v e => ?_), T.keep _ _ _ st7 fun b hb o e => (pin' b hb o e).1, fun b hb => ?_, w'⟩
        · rw [← hw8] at e
          exact (wipe_some e).1
        · obtain ⟨o, e, _⟩ := T.obj _ _ st7 b hb
          exact (pin' b hb o e).2
      cases b with
      | false =>
        simp only [Bool.false_eq_true, if_false] at q9 ⊢
        exact fin I9 q9
      | true =>
        simp only [if_true] at q9 ⊢
        refine thnF (pe.run _ s9 σ8 H9 _ I9 q9) fun z s10 ⟨yv, H10, I10, r10, acc, hD10, hz10, nx⟩ => ?_
        exact app_ok (X := X.blk s3 H3 scope ce fp) I10 hD10 hz10 r10 fun s11 I11 => fin I11 nx
  exact codeAny_compStart_list loop (T.self X.A 0 _ _ _ st4 loop)
theorem pe_lcI {elt tg iter : Expr} {ifs : List Expr} {scope : Scope} {own : List (Str × Nat)} {pos : Pos} {wi : TI} {g : TG} {tt : TT} {te : TE} (hc : X.calm = true) (hN : X.N.Nodup) (hi : PI X tg iter wi) (ok : BlkOk X.N X.env.scope scope own)
    (hg : ∀ (s : Shared) (H : Hp) (C : Addr) (cl : List (Str × Addr)) (fp : List Addr), PG (X.blk s H scope (compEnvC scope cl C X.env) fp) tg g) (ht : ∀ (pins : List (Addr × Obj)) (σ : L2.St) (s : Shared) (H : Hp) (C : Addr) (cl : List (Str × Addr)) (fp : List Addr), Inv X pins σ H s → (∀ b ∈ fp, FpOk X pins H b) → PTs (X.blk s H scope (compEnvC scope cl C X.env) fp) ifs tt)
    (he : ∀ (s : Shared) (H : Hp) (C : Addr) (cl : List (Str × Addr)) (fp : List Addr), PE (X.blk s H scope (compEnvC scope cl C X.env) fp) elt te) (hs : ∀ x, foldedSetIterable iter X.env x = pure x := by intro _; rfl) :
    PE X (.ListComp elt [⟨tg, iter, ifs, 0⟩] scope pos) (tLc wi g tt te (own.map (·.2))) := by
  refine ⟨fun pins s σ H Q I h => ?_⟩
  rw [eval_ListComp]
  refine lc_coreI hc hN I hi ok hg (ht pins σ) he hs h fun D C s' m H' I' q hn f => ⟨m, hn, fun h'' sb => ?_⟩
  obtain ⟨f0, f1, f2, f3, f4, f5⟩ := f
  exact ⟨.ref D, H', I'.turned (t' := s'.toks) (fun b o hb e => (sb.2 b hb).trans e) f0 f1 f3 f4 f5, rfl, q⟩
end
end Pk
end

/-! PkW -/
section
set_option Elab.async false
set_option linter.all false
set_option maxRecDepth 100000
set_option maxHeartbeats 4000000
namespace Pk
open PySem PySem.Spec PyProof.Rows L2 LamX
/-! lambdas kept in a list -/
/-- the function object of a lambda at f, its code object at c' -/
def LamO (f c' : Addr) (q : Str) (params : Arguments) (body : Expr) (scope : Scope) (cl : List (Str × Addr)) : HO := .ext fun h => ∃ pm ctv, h.get? f = some (PySem.W.kla_obj "<lambda>" q params body scope cl pm c' ctv)
section
variable {X : Cx} {pins : List (Addr × Obj)} {σ : L2.St} {H HZ : Hp} {s s1 : Shared}
theorem lamO_ok {P : Program} {w : World} {H : Hp} {h : Heap} {f c' : Addr} {q : Str} {params : Arguments} {body : Expr} {scope : Scope} {cl : List (Str × Addr)} {pm ctv : Value} (e : h.get? f = some (PySem.W.kla_obj "<lambda>" q params body scope cl pm c' ctv)) :
    ObjOk P w H h f (LamO f c' q params body scope cl) := ⟨⟨pm, ctv, e⟩, ⟨_, e⟩, fun h1 h2 ⟨pm, ctv, a⟩ k => ⟨pm, ctv, k _ a⟩⟩
theorem lam_makeT {T : List (Addr × Str)} {c P : Addr} {params : Arguments} {body : Expr} {scope : Scope} {pos : Pos} {E : Value → Shared → Prop} {Q : Value → Shared → Prop} (I : Inv X pins σ H s) (TB : TabB X.base X.mg c P) (hcode : X.env.code = .ref c)
    (hm : (P, X.env.qual ++ "<lambda>") ∈ T) (hu : ∀ p ∈ T, p.1 = P → p.2 = X.env.qual ++ "<lambda>") (hT : Tabs T H) (hdef : defaultsOf params X.env = ([], [])) (hfree : ∀ y ∈ scope.names, y.2 = .free → ∃ c, X.env.cells.lookup y.1 = some c)
    (h : ∀ (f c' : Addr) (H1 : Hp) (s' : Shared), ExtN H H1 → Tabs T H1 → H1 f = none → H1 c' = some (CodeO c' (X.env.qual ++ "<lambda>")) → Inv X pins σ (upd H1 f (LamO f c' (X.env.qual ++ "<lambda>") params body scope (cloFrom X.env.cells scope.names []))) s' → Q (.ref f) s') :
    wpAny (model X.prog X.w) X.A (eval (.Lambda params body scope pos) X.env) Q E s := by
  obtain ⟨ps, hP, ht, ha⟩ := hT _ hm
  refine PySem.W.kla_eval hdef ?_
  have bP : s.heap.BuiltinsAt X.mg P := TB.bm.keeps I.bk
  have hP' : s.heap.get? P = some { cls := .none, data := .fields ps } := I.hok P _ hP
  cases hc : codeAmong pos ps.toList with
  | none =>
    refine PySem.W.kla_makeFunction (mg := X.mg) (c := c) (P := P) (ps := ps) (closure_ok hfree) I.ok.glob (I.mod.glob.keeps I.bk) hcode (TB.code.keeps I.bk) hP' ht hc TB.gP bP fun c' ctv h' tk hx hge hlt hrec htb => ?_
    obtain ⟨c2, oc, vs, t, e2, hoc, hd, hv⟩ := hrec
    cases e2
    have hsz : s.heap.objs.size ≤ h'.objs.size := Nat.le_trans hge (Nat.le_of_lt hlt)
    have nC : H c' = none := I.hok.fresh hge
    have I0 := inv_table (t' := tk) (more := #[rawInt pos.line, rawInt pos.col, .ref c']) (h' := h') I hP
      (fun b o hb e => hx b o hb e) htb hge ⟨oc, vs, t, hoc, hd, hv⟩
    have I1 := I0.laid (a := h'.objs.size) (o := LamO h'.objs.size c' (X.env.qual ++ "<lambda>") params body scope (cloFrom X.env.cells scope.names [])) (t' := tk) (h' := h'.push (PySem.W.kla_obj "<lambda>" (X.env.qual ++ "<lambda>") params body scope (cloFrom X.env.cells scope.names []) ((X.mg "__name__").getD .none) c' ctv))
      (fun b o e => Heap.get?_push_of_some _ e) (Nat.le_refl _) (lamO_ok (Heap.get?_push_size _ rfl))
    have hE : ExtN H (upd (upd H P (.tbl (ps ++ #[rawInt pos.line, rawInt pos.col, .ref c']))) c' (CodeO c' (X.env.qual ++ "<lambda>"))) := fun b o e n => by
      rw [upd_ne (ne_of_none e nC), upd_ne (fun z => n ps (Option.some.inj (e.symm.trans (by rw [z]; exact hP))))]
      exact e
    have eL : (ps ++ #[rawInt pos.line, rawInt pos.col, .ref c']).toList = ps.toList ++ [rawInt pos.line, rawInt pos.col, .ref c'] := by simp
    refine h h'.objs.size c' _ _ hE (fun p hp => ?_) ?_ upd_same I1
    · by_cases hb : p.1 = P
      · rw [hu p hp hb, hb]
        refine ⟨_, by rw [upd_ne (ne_of_none hP nC), upd_same], by rw [eL]; exact PySem.TriplesOk_snoc _ _ _ _ ht, fun p' cv hcv => ?_⟩
        rw [eL] at hcv
        rcases among_app _ ht hcv with z | z
        · obtain ⟨c0, e1, e2⟩ := ha p' cv z
          exact ⟨c0, e1, hE _ _ e2 codeO_ne⟩
        · exact ⟨c', z, upd_same⟩
      · obtain ⟨ps', a1, a2, a3⟩ := hT p hp
        refine ⟨ps', by rw [upd_ne (ne_of_none a1 nC), upd_ne hb]; exact a1, a2, fun p' cv hcv => ?_⟩
        obtain ⟨c0, e1, e2⟩ := a3 p' cv hcv
        exact ⟨c0, e1, hE _ _ e2 codeO_ne⟩
    · have n1 : h'.objs.size ≠ c' := Nat.ne_of_gt hlt
      have n2 : h'.objs.size ≠ P := Nat.ne_of_gt (Nat.lt_of_lt_of_le (Heap.lt_size hP') hsz)
      rw [upd_ne n1, upd_ne n2]
      exact I.hok.fresh hsz
  | some cv =>
    obtain ⟨c', e, hco⟩ := ha pos cv hc
    subst e
    refine PySem.W.kla_makeFunctionHit (mg := X.mg) (c := c) (P := P) (ps := ps) (closure_ok hfree) I.ok.glob (I.mod.glob.keeps I.bk) hcode (TB.code.keeps I.bk) hP' ht hc bP fun ctv h' tk hx hsz => ?_
    have I0 : Inv X pins σ H { s with heap := h', toks := tk } := I.kept hx
    have I1 := I0.laid (a := h'.objs.size) (o := LamO h'.objs.size c' (X.env.qual ++ "<lambda>") params body scope (cloFrom X.env.cells scope.names [])) (t' := tk) (h' := h'.push (PySem.W.kla_obj "<lambda>" (X.env.qual ++ "<lambda>") params body scope (cloFrom X.env.cells scope.names []) ((X.mg "__name__").getD .none) c' ctv))
      (fun b o e => Heap.get?_push_of_some _ e) (Nat.le_refl _) (lamO_ok (Heap.get?_push_size _ rfl))
    exact h h'.objs.size c' H _ (ExtN.refl H) hT (I.hok.fresh hsz) hco I1
theorem pe_actT {CXg : CXT} {Eg : XK} {Ng : List Str} {qg : Str} {sg : Scope} {g f c' : Addr} {cdg : Value} {params : Arguments} {body : Expr} {scope : Scope} {k i : Nat} {a : Str} {pn : List (Addr × Obj)} {xe : Value → Shared → Prop} {W : WX} {E : XK} {tb : TE} {p1 p2 : Pos}
    (I : Inv X pins σ H s) (L : LamS X.env.scope scope) 
    (hbind : ∀ (q : Str) (cl : List (Str × Addr)) (pm cv ctv : Value), bindArgs (PySem.W.kla_fn "<lambda>" q params body scope cl pm cv ctv) ⟨[], []⟩ = pure [])
    (tk : Takes ((cxOf CXg X.prog X.w X.K X.mg X.base Ng qg sg g cdg X.A X.stack s H Eg).tr pn xe) W) (hW : ∀ cls d σ' H', E cls d H' → W cls d σ' H') (hr : Room (k + 1) (X.A.deeper (envOfC qg sg s.heap.objs.size g cdg)))
    (hbody : ∀ (A : Around) (outer : List Env) (s : Shared) (H : Hp), Room k (A.deeper (lamEnv X scope s.heap.objs.size f c')) → PE (lamCx X A outer s H E scope f c') body tb)
    (hN : Ng[i]? = some a) (hv : Vis sg a) (hd : (a == ("__debug__" : Str)) = false := by decide) (hcd : (a == ("__classdict__" : Str)) = false := by decide) :
    PE ((cxOf CXg X.prog X.w X.K X.mg X.base Ng qg sg g cdg X.A X.stack s H Eg).tr pn xe) (.Call (.Name a p1) [] [] p2)
      (fun σZ HZ Q => σZ[i]? = some (some (.ref f)) ∧ HZ f = some (LamO f c' (X.env.qual ++ "<lambda>") params body scope (cloFrom X.env.cells scope.names [])) ∧ HZ c' = some (CodeO c' (X.env.qual ++ "<lambda>")) ∧ tb σ HZ Q) := by
  refine ⟨fun pinsZ sZ σZ HZ Q IZ h => ?_⟩
  obtain ⟨hs, hf, hc, ht⟩ := h
  refine wpAny_Call_Name_kw (thn ((pe_var (pos := p1) (i := i) hN hv hd hcd).run pinsZ sZ σZ HZ (fun v H1 => v = .ref f ∧ H1 = HZ) IZ ⟨.ref f, hs, rfl, rfl⟩) fun u s1 ⟨v, H1, I1, r1, q1⟩ => ?_)
  obtain ⟨ev, eH⟩ := q1
  subst ev
  rw [eH] at I1
  obtain rfl : u = Value.ref f := r1
  obtain ⟨⟨pm, ctv, of1⟩, _, _⟩ := I1.hok f _ hf
  refine PySem.W.callWith_F0 ⟨_, _, _, _, of1⟩ ?_
  have un : Un (frs X.stack) [] H HZ s.heap s1.heap := I1.base
  obtain ⟨⟨oc, vs, t, hoc, hdc, hvc⟩, _, _⟩ := I1.hok c' _ hc
  have rc : codeAny (model X.prog X.w) (X.A.deeper (envOfC qg sg s.heap.objs.size g cdg)) (.call (.ref f) ⟨[], []⟩) (CR (L2.CX X.prog X.w) (envOfC qg sg s.heap.objs.size g cdg :: X.stack) X.prog X.w HZ s1 Q E) s1 := by
    refine PySem.W.kla_callFunE hr.depth of1 rfl L.co L.gen rfl ⟨c', oc, vs, t, rfl, hoc, hdc, hvc⟩ ?_
    rw [hbind _ _ _ _ _]
    refine wpAny_pure (wpAny_newFunctionEnv (fun y hy => (L.own y hy).2) (fun y hy => absurd hy (by simp)) (fun h₁ hns hsb => ⟨I1.nolimit.fresh _ hsb, ?_⟩) L.kind)
    show codeAny _ _ (.expr body (lamEnv X scope s1.heap.objs.size f c')) _ _
    have kp : ∀ b o, s1.heap.get? b = some o → h₁.get? b = some o := fun b o e => hsb.extBut b o (Nat.ne_of_lt (Heap.lt_size e)) (Heap.get?_push_of_some _ e)
    have J : Inv (lamCx X (X.A.deeper (envOfC qg sg s.heap.objs.size g cdg)) (envOfC qg sg s.heap.objs.size g cdg :: X.stack) s1 HZ E scope f c') [] σ HZ { s1 with heap := h₁, toks := s1.toks + ([] : List (Str × Value)).length } :=
      lam_start2 I L I1.env0 hr.hd un hns kp
    refine PySem.W.kla_codeExpr (wpAny_mono ((hbody _ _ s1 HZ (hr.deeper _)).run [] _ _ HZ Q J ht) (fun v s' hq => ?_) fun e s' hq => hq)
    obtain ⟨w', H', J', rv, q⟩ := hq
    exact ⟨w', H', J'.os, J'.bare, J'.base, J'.hok, rv, q⟩
  have hx : Passes (L2.CX X.prog X.w) ((cxOf CXg X.prog X.w X.K X.mg X.base Ng qg sg g cdg X.A X.stack s H Eg).tr pn xe) E := passes_call tk hW
  refine wpAny_call (codeAny_mono rc fun r s' hq => ?_)
  cases r with
  | error e => exact hx pinsZ σZ HZ s1 e s' I1 hq
  | ok fl =>
    cases fl with
    | ret u => exact I1.after hq
    | next => exact False.elim hq
    | brk => exact False.elim hq
    | cont => exact False.elim hq
end
end Pk
end

/-! PkX -/
section
set_option Elab.async false
set_option linter.all false
set_option maxRecDepth 100000
set_option maxHeartbeats 4000000
namespace Pk
open PySem PySem.Spec PyProof.Rows L2 LamX
abbrev LamD := Arguments × Expr × Scope
/-- f is the lambda l of this activation -/
def LamF (q : Str) (cells : List (Str × Addr)) (g : G) (f : Addr) (l : LamD) : Prop := ∃ c', g.F f = some (LamO f c' q l.1 l.2.1 l.2.2 (cloFrom cells l.2.2.names [])) ∧ g.F c' = some (CodeO c' q)
def LamsF (q : Str) (cells : List (Str × Addr)) (g : G) : List Addr → List LamD → Prop
  | [], [] => True
  | f :: fs, l :: ls => LamF q cells g f l ∧ LamsF q cells g fs ls
  | _, _ => False
theorem LamF.mono {q : Str} {cells : List (Str × Addr)} {g g' : G} {f : Addr} {l : LamD} (k : g.le g') (h : LamF q cells g f l) : LamF q cells g' f l := by
  obtain ⟨c', a, b⟩ := h
  exact ⟨c', k.F _ _ a, k.F _ _ b⟩
theorem LamsF.mono {q : Str} {cells : List (Str × Addr)} {g g' : G} (k : g.le g') : ∀ {fs : List Addr} {ls : List LamD}, LamsF q cells g fs ls → LamsF q cells g' fs ls
  | [], [], h => trivial
  | _ :: _, _ :: _, h => ⟨h.1.mono k, LamsF.mono k h.2⟩
  | [], _ :: _, h => h.elim
  | _ :: _, [], h => h.elim
theorem LamsF.get {q : Str} {cells : List (Str × Addr)} {g : G} : ∀ {fs : List Addr} {ls : List LamD} {j : Nat}, LamsF q cells g fs ls → j < fs.length → ∃ f l, fs[j]? = some f ∧ ls[j]? = some l ∧ LamF q cells g f l
  | f :: fs, l :: ls, 0, h, _ => ⟨f, l, rfl, rfl, h.1⟩
  | f :: fs, l :: ls, j + 1, h, hj => by
    obtain ⟨f', l', a, b, c⟩ := LamsF.get (j := j) h.2 (by simpa using hj)
    exact ⟨f', l', a, b, c⟩
  | _ :: _, [], _, h, _ => h.elim
theorem LamsF.len {q : Str} {cells : List (Str × Addr)} {g : G} : ∀ {fs : List Addr} {ls : List LamD}, LamsF q cells g fs ls → fs.length = ls.length
  | [], [], _ => rfl
  | _ :: fs, _ :: ls, h => by simp [LamsF.len h.2]
  | [], _ :: _, h => h.elim
  | _ :: _, [], h => h.elim
theorem RH.atF {Γ : Γ} {g : G} {h : HS} {H : Hp} (x : RH Γ g h H) {p : Addr} {φ : Heap → Prop} (e : g.F p = some (.ext φ)) : H p = some (.ext φ) := by
  rcases x.fr _ _ e with z | ⟨d, _⟩
  · exact z
  · exact d.elim
theorem RH.atL {Γ : Γ} {g : G} {h : HS} {H : Hp} (x : RH Γ g h H) {p : Addr} {xs : List V} (e : g.F p = some (.lst xs)) : H p = some (.lst xs) := by
  rcases x.fr _ _ e with z | ⟨d, _⟩
  · exact z
  · exact d.elim
/-! the display -/
def RDLs (Γ : Γ) (q : Str) (cells : List (Str × Addr)) (ls : List LamD) : TA := fun σ H Q => ∃ g h, RH Γ g h H ∧ ∀ g' fs H', g.le g' → RH Γ g' h H' → LamsF q cells g' fs ls → Q (fs.map V.ref) H'
section
variable {Γ : Γ} {X : Cx} {c P : Addr} {k : Nat}
theorem a_lam0 {q : Str} {cells : List (Str × Addr)} : PA X [] (RDLs Γ q cells []) := PA.imp pa_nil fun σ H Q ⟨g, h, hH, q⟩ => q g [] H (.refl g) hH trivial
theorem a_lam {params : Arguments} {body : Expr} {scope : Scope} {lpos : Pos} {es : List Expr} {ls : List LamD} (T : HasTab Γ X "<lambda>" k c P) (L : LamS X.env.scope scope) (hdef : defaultsOf params X.env = ([], [])) (hr : PA X es (RDLs Γ (X.env.qual ++ "<lambda>") X.env.cells ls))
    (hs : starEach (.Lambda params body scope lpos :: es) X.env = (false, eval (.Lambda params body scope lpos) X.env) :: starEach es X.env := by rfl) :
    PA X (.Lambda params body scope lpos :: es) (RDLs Γ (X.env.qual ++ "<lambda>") X.env.cells ((params, body, scope) :: ls)) := by
  have pl : PE X (.Lambda params body scope lpos) (fun σ H Q => ∃ g h, RH Γ g h H ∧ ∀ g' f H', g.le g' → RH Γ g' h H' → LamF (X.env.qual ++ "<lambda>") X.env.cells g' f (params, body, scope) → Q (.ref f) H') := by
    refine ⟨fun pins s σ H Q I ⟨g, h, hH, q⟩ => ?_⟩
    refine lam_makeT I T.tb T.code T.mem T.uni hH.tab hdef (L.has I.ok) fun f c' H1 s' eN T1 hf hco I1 => ?_
    have y1 := (hH.tabs eN T1).aux hf (LamO f c' (X.env.qual ++ "<lambda>") params body scope (cloFrom X.env.cells scope.names []))
    obtain ⟨g2, l2, y2, e2⟩ := y1.ext (p := f) upd_same
    have hco2 : upd H1 f (LamO f c' (X.env.qual ++ "<lambda>") params body scope (cloFrom X.env.cells scope.names [])) c' = some (CodeO c' (X.env.qual ++ "<lambda>")) := by
      rw [upd_ne (ne_of_none hco hf)]
      exact hco
    obtain ⟨g3, l3, y3, e3⟩ := y2.ext (p := c') hco2
    exact ⟨.ref f, _, I1, rfl, q g3 f _ (l2.trans l3) y3 ⟨c', l3.F _ _ e2, e3⟩⟩
  refine PA.imp (pa_cons pl hr hs) fun σ H Q ⟨g, h, hH, q⟩ => ?_
  refine ⟨g, h, hH, fun g1 f H1 l1 y1 lf => ⟨g1, h, y1, fun g2 fs H2 l2 y2 lfs => ?_⟩⟩
  exact q g2 (f :: fs) H2 (l1.trans l2) y2 ⟨lf.mono l2, lfs⟩
/-- what is known of slot i: a list of these lambdas -/
def BadAt (i : Nat) (q : Str) (cells : List (Str × Addr)) (ls : List LamD) (g : G) (σ : L2.St) : Prop := ∃ L fs, σ[i]? = some (some (.ref L)) ∧ g.F L = some (.lst (fs.map V.ref)) ∧ LamsF q cells g fs ls
def sBad (i : Nat) : Sx := fun sl h => .nx (sl.set i none) h
end
/-! readings with something more known at the start -/
abbrev EP0 := G → L2.St → Prop
def RDEx (Γ : Γ) (Wx : WX) (E : EP0) (f : Ex) : TE := fun σ H Q => ∃ g sl h, RH Γ g h H ∧ SLk Γ g sl σ ∧ E g σ ∧ Rz Γ Wx (RW Γ.K) g (f sl h) σ Q
def RDTx (Γ : Γ) (Wx : WX) (E : EP0) (f : Tx) : TT := fun σ H Q => ∃ g sl h, RH Γ g h H ∧ SLk Γ g sl σ ∧ E g σ ∧ Rz Γ Wx (fun _ (a b : Bool) => a = b) g (f sl h) σ Q
def RDSx (Γ : Γ) (Wx : WX) (E : EP0) (f : Sx) : TS := fun D σ H => ∃ g sl h, RH Γ g h H ∧ SLk Γ g sl σ ∧ E g σ ∧ RzS Γ Wx g σ.length (f sl h) D
section
variable {Γ : Γ} {Wx : WX} {X : Cx} {E : EP0} {a b c : Expr} {fa fb : Ex} {t ta tb : Tx} {s1 s2 : Sx} {pos : Pos} {m : W → W → HS → R W} {rest : List Expr} {body orelse : List Stmt}
theorem x_cmp {op : CmpOp} (o : OpS Γ Wx X (compareOp op) m) (ha : PE X a (RDEx Γ Wx E fa)) (hb : PE X b (RDE Γ Wx fb)) (hm : behindInMarks op b = false := by first | exact nomark _ (by decide) (by decide) | rfl | with_unfolding_all rfl) : PE X (.Compare a [op] [b] pos) (RDEx Γ Wx E (eBin m fa fb)) := by
  obtain ⟨r, o1, o2⟩ := o
  refine PE.imp (pe_cmpR o1 ha hb hm) fun σ H Q ⟨g, sl, h, hH, hS, e, q⟩ => ?_
  refine ⟨g, sl, h, hH, hS, e, Rz.mono (fun v H1 ⟨g1, h1, w1, l1, hH1, r1, q1⟩ => ?_) (rz_step q)⟩
  refine RDE.mono (fun v2 H2 ⟨g2, h2, w2, l2, hH2, r2, q2⟩ => ?_) (RDE.step hH1 (SLk.mono l1 hS) q1)
  exact o2 hH2 (RW.mono l2 _ _ r1) r2 q2
theorem x_tcmp {op : CmpOp} (o : OpS Γ Wx X (compareOp op) m) (ha : PE X a (RDEx Γ Wx E fa)) (hb : PE X b (RDE Γ Wx fb)) (hm : behindInMarks op b = false := by first | exact nomark _ (by decide) (by decide) | rfl | with_unfolding_all rfl) : PT X (.Compare a [op] [b] pos) (RDTx Γ Wx E (tVal (eBin m fa fb))) := by
  obtain ⟨r, o1, o2⟩ := o
  refine PT.imp (pt_cmpR o1 ha hb hm) fun σ H Q ⟨g, sl, h, hH, hS, e, q⟩ => ?_
  have q : Rz Γ Wx (fun _ (a b : Bool) => a = b) g ((fa sl h).bind fun x h1 => (fb sl h1).bind fun y h2 => (m x y h2).bind asB) σ Q := by
    have bb : ∀ {α β γ : Type} (r : R α) (k : α → HS → R β) (k2 : β → HS → R γ), (r.bind k).bind k2 = r.bind fun a h => (k a h).bind k2 := fun r k k2 => by cases r <;> rfl
    have q : Rz Γ Wx (fun _ (a b : Bool) => a = b) g (((fa sl h).bind fun x h1 => (fb sl h1).bind fun y h2 => m x y h2).bind asB) σ Q := q
    rw [bb] at q
    have e : (fun a h => ((fb sl h).bind fun y h2 => m a y h2).bind asB) = fun a h => (fb sl h).bind fun y h2 => (m a y h2).bind asB := by
      funext a h
      exact bb _ _ _
    rw [e] at q
    exact q
  refine ⟨g, sl, h, hH, hS, e, Rz.mono (fun v H1 ⟨g1, h1, w1, l1, hH1, r1, q1⟩ => ?_) (rz_step q)⟩
  refine RDE.mono (fun v2 H2 ⟨g2, h2, w2, l2, hH2, r2, q2⟩ => ?_) (RDE.step hH1 (SLk.mono l1 hS) q1)
  refine o2 hH2 (RW.mono l2 _ _ r1) r2 (Rz.mono (fun v H1 ⟨g1, h1, w1, l1, hH1, r1, q1⟩ => ?_) (rz_step q2))
  exact rz_asB hH1 r1 q1
theorem x_or (ha : PT X a (RDTx Γ Wx E ta)) (hb : PW X (.BoolOp .Or (b :: rest) pos) (RDT Γ Wx tb)) : PW X (.BoolOp .Or (a :: b :: rest) pos) (RDTx Γ Wx E (tOrx ta tb)) := by
  refine ⟨fun whole pins s σ H Q I x => (pw_or ha hb).run whole pins s σ H Q I ?_⟩
  obtain ⟨g, sl, h, hH, hS, e, q⟩ := x
  refine ⟨g, sl, h, hH, hS, e, Rz.mono (fun v H1 ⟨g1, h1, w1, l1, hH1, r1, q1⟩ => ?_) (rz_step q)⟩
  subst r1
  by_cases hk : w1 = true
  · rw [if_pos hk] at q1 ⊢
    exact q1 g1 _ _ (.refl _) hH1 rfl
  · rw [if_neg hk] at q1 ⊢
    exact ⟨g1, sl, h1, hH1, SLk.mono l1 hS, q1⟩
theorem x_if (p : PT X c (RDTx Γ Wx E t)) (ha : PSs X body (RDS Γ Wx s1)) (hb : PSs X orelse (RDS Γ Wx s2)) : PS X (.If c body orelse pos) (RDSx Γ Wx E (sIf t s1 s2)) := by
  refine PS.imp (ps_if p ha hb) fun D σ H ⟨g, sl, h, hH, hS, e, q⟩ => ⟨g, sl, h, hH, hS, e, Rz.mono (fun v H1 ⟨g1, h1, w1, l1, hH1, r1, q1⟩ => ?_) (rz_st hS q)⟩
  subst r1
  by_cases hk : w1 = true
  · rw [if_pos hk] at q1 ⊢
    exact ⟨g1, sl, h1, hH1, SLk.mono l1 hS, q1⟩
  · rw [if_neg hk] at q1 ⊢
    exact ⟨g1, sl, h1, hH1, SLk.mono l1 hS, q1⟩
theorem x_ret (p : PE X a (RDEx Γ Wx E fa)) : PS X (.Return (some a) pos) (RDSx Γ Wx E (sRet fa)) :=
  PS.imp (ps_ret p) fun D σ H ⟨g, sl, h, hH, hS, e, q⟩ => ⟨g, sl, h, hH, hS, e, Rz.mono (fun v H1 ⟨g1, h1, w1, l1, hH1, r1, q1⟩ => q1 g1 _ _ (.refl _) hH1 r1) (rz_st hS q)⟩
theorem x_one {st : Stmt} (p : PS X st (RDSx Γ Wx E s1)) : PSs X [st] (RDSx Γ Wx E s1) := pss_one p
theorem x_cons {st : Stmt} {rest : List Stmt} (p : PS X st (RDSx Γ Wx E s1)) (q : PSs X rest (RDS Γ Wx s2)) : PSs X (st :: rest) (RDSx Γ Wx E (sSeq s1 s2)) := by
  refine PSs.imp (pss_cons p q) fun D σ H ⟨g, sl, h, hH, hS, e, q⟩ => ⟨g, sl, h, hH, hS, e, ?_⟩
  unfold sSeq at q
  cases e : s1 sl h with
  | nx s h1 =>
    rw [e] at q
    intro g' σ' H' l a b hl
    refine ⟨g', s, h1, a, b, ?_⟩
    rw [hl]
    exact rzS_le l q
  | rt w h1 => rw [e] at q; exact q
  | bk s h1 => rw [e] at q; exact q
  | ct s h1 => rw [e] at q; exact q
  | exc c s h1 => rw [e] at q; exact q
  | no => rw [e] at q; exact q
/-- bad = [lambda: .., ..], and what comes behind -/
theorem s_bad {c P : Addr} {k i : Nat} {x : Str} {pos' lp : Pos} {es : List Expr} {ls : List LamD} {rest : List Stmt} (hN : X.N.Nodup) (ha : PA X es (RDLs Γ (X.env.qual ++ "<lambda>") X.env.cells ls)) (hz : ls.length ≤ sizeLine) (hr : PSs X rest (RDSx Γ Wx (BadAt i (X.env.qual ++ "<lambda>") X.env.cells ls) s2)) (hi : X.N[i]? = some x := by rfl) (hx : Loc X.env.scope x := by first | exact Or.inl rfl | exact Or.inr rfl)
    (hl : ∀ (pins : List (Addr × Obj)) (s : Shared) (σ : L2.St) (H : Hp), Inv X pins σ H s → i < σ.length := by
      intro pins s σ H I; rw [I.len]; exact (by decide))
    (hs : swapsWith (.List es lp) (some (.Name x pos')) pos.line X.env = pure false := by rfl) (hf : X.fn x = true ∨ X.env.scope.names.lookup x = some .local := by first | exact .inl rfl | exact .inr rfl) :
    PSs X (.Assign [.Name x pos'] (.List es lp) pos :: rest) (RDS Γ Wx (sSeq (sBad i) s2)) := by
  refine ⟨fun pins s σ H D I ⟨g, sl, h, hH, hS, q⟩ => (pss_cons (ps_set (pos' := pos') hN hi hx (pe_lst ha) hs hf) hr).run pins s σ H D I ⟨g, h, hH, fun g1 fs H1 l1 y1 lf => ⟨?_, fun p hp => ?_⟩⟩⟩
  · rw [List.length_map, lf.len]
    exact hz
  · obtain ⟨l2, y2, e2⟩ := y1.frz hp (.lst (fs.map V.ref))
    have hlt := hl pins s σ H I
    refine ⟨g1.frz p (.lst (fs.map V.ref)), sl.set i none, h, y2, ?_, ⟨p, fs, ?_, e2, lf.mono l2⟩, ?_⟩
    · intro j w e
      by_cases hj : i = j
      · subst hj
        by_cases hb : i < sl.length
        · rw [List.getElem?_set_self hb] at e; cases e
        · rw [List.getElem?_eq_none (by simpa using hb)] at e; cases e
      · rw [List.getElem?_set_ne hj] at e
        obtain ⟨v, e1, r1⟩ := hS j w e
        exact ⟨v, by rw [List.getElem?_set_ne hj]; exact e1, RW.mono (l1.trans l2) _ _ r1⟩
    · rw [List.getElem?_set_self hlt]
    · rw [List.length_set]
      exact rzS_le (l1.trans l2) q
end
end Pk
end

/-! PkY -/
section
set_option Elab.async false
set_option linter.all false
set_option maxRecDepth 100000
set_option maxHeartbeats 4000000
namespace Pk
open PySem PySem.Spec PyProof.Rows L2 LamX
/-- x is a def that tells what a call without arguments gives, ret where an exception of the class at CS comes -/
def ToldT (K : PySem.W.Frag) (mg : Str → Option Value) (x ret : Str) (CS : Addr) : Prop :=
  ∃ (g : Addr) (a e : Str) (j : Nat) (p1 p2 p3 p4 p5 p6 p7 p8 : Pos) (pg : Arguments) (sg : Scope) (dV kV doc pm cdv ct oc : Value) (an od : Option Addr) (osl : Array (Option Value)) (Ng : List Str),
    mg x = some (.ref g) ∧ PySem.W.keepIn K (.ref g) = true ∧
    K.lookup g = some ⟨oc, od, .func (PySem.W.fnOf x x pg [.Try [.Return (some (.Call (.Name a p1) [] [] p2)) p3] [.ExceptHandler (some (.Name e p4)) none [.Return (some (.Constant (.str ret) j p5)) p6] p7] [] [] p8] sg dV kV doc pm an cdv ct), osl⟩ ∧
    PySem.W.codeIn K cdv x = true ∧ L2.Binds K (PySem.W.fnOf x x pg [.Try [.Return (some (.Call (.Name a p1) [] [] p2)) p3] [.ExceptHandler (some (.Name e p4)) none [.Return (some (.Constant (.str ret) j p5)) p6] p7] [] [] p8] sg dV kV doc pm an cdv ct) [a] [] ∧
    FnScope Ng [a] sg ∧ Ng[0]? = some a ∧ Vis sg a ∧ sg.names.lookup e = some .globalImplicit ∧ mg e = some (.ref CS) ∧ (e == ("__debug__" : Str)) = false ∧ (∀ f : Addr, (L2.start Ng [V.ref f])[0]? = some (some (V.ref f))) ∧
    (x == ("__debug__" : Str)) = false ∧ (a == ("__debug__" : Str)) = false ∧ (a == ("__classdict__" : Str)) = false
section
variable {Γ : Γ} {Wx : WX} {X : Cx} {c P CS : Addr} {k : Nat} {x ret : Str} {params : Arguments} {body : Expr} {scope : Scope} {te : Ex} {p lpos pos : Pos} {excs : List Nat}
/-- _law_told(lambda: e) -/
theorem e_toldT (T : HasTab Γ X "<lambda>" (k + 1) c P) (D : ToldT X.K X.mg x ret CS) (hx : ∀ c ∈ excs, PySem.W.exmOne X.K (.ref (Γ.cls c)) (.ref CS) = some true)
    (L : LamX.LamS X.env.scope scope) (hbody : ∀ (A : Around) (outer : List Env) (s : Shared) (H : Hp) (E : XK) (f c' : Addr), Room k (A.deeper (LamX.lamEnv X scope s.heap.objs.size f c')) → Takes (LamX.lamCx X A outer s H E scope f c') (fun c d _ H' => E c d H') → PE (LamX.lamCx X A outer s H E scope f c') body (RDE Γ (fun c d _ H' => E c d H') te))
    (hg : Gl X x := by rfl) (hdef : defaultsOf params X.env = ([], []) := by rfl) (hbind : ∀ (q : Str) (cl : List (Str × Addr)) (pm cv ctv : Value), bindArgs (PySem.W.kla_fn "<lambda>" q params body scope cl pm cv ctv) ⟨[], []⟩ = pure [] := by intro _ _ _ _ _; rfl) :
    PE X (.Call (.Name x p) [.Lambda params body scope lpos] [] pos) (RDE Γ Wx (eTold excs ret te)) := by
  obtain ⟨g, a, e, j, p1, p2, p3, p4, p5, p6, p7, p8, pg, sg, dV, kV, doc, pm, cdv, ct, oc, an, od, osl, Ng, hm, hk, lk, hcg, hb, Sg, hNg, hva, hge, hme, hde, h0, h1, h2, h3⟩ := D
  exact e_told T hg hm hk lk hcg hb Sg hNg hva hge hme hde h0 hx L hdef hbind hbody h1 h2 h3
/-- a lambda's body is told by m -/
structure LamOk (Γ : Pk.Γ) (X : Cx) (k : Nat) (l : LamD) (m : Ex) : Prop where
  L : LamX.LamS X.env.scope l.2.2
  bind : ∀ (q : Str) (cl : List (Str × Addr)) (pm cv ctv : Value), bindArgs (PySem.W.kla_fn "<lambda>" q l.1 l.2.1 l.2.2 cl pm cv ctv) ⟨[], []⟩ = pure []
  body : ∀ (A : Around) (outer : List Env) (s : Shared) (H : Hp) (E : XK) (f c' : Addr), Room k (A.deeper (LamX.lamEnv X l.2.2 s.heap.objs.size f c')) → Takes (LamX.lamCx X A outer s H E l.2.2 f c') (fun c d _ H' => E c d H') → PE (LamX.lamCx X A outer s H E l.2.2 f c') l.2.1 (RDE Γ (fun c d _ H' => E c d H') m)
def LamsOk (Γ : Pk.Γ) (X : Cx) (k : Nat) : List LamD → List Ex → Prop
  | [], [] => True
  | l :: ls, m :: ms => LamOk Γ X k l m ∧ LamsOk Γ X k ls ms
  | _, _ => False
theorem LamsOk.get : ∀ {ls : List LamD} {ms : List Ex} {j : Nat} {l : LamD}, LamsOk Γ X k ls ms → ls[j]? = some l → ∃ m, ms[j]? = some m ∧ LamOk Γ X k l m
  | l :: ls, m :: ms, 0, l', h, e => by cases e; exact ⟨m, rfl, h.1⟩
  | l :: ls, m :: ms, j + 1, l', h, e => by
    obtain ⟨m', a, b⟩ := LamsOk.get (j := j) h.2 (by simpa using e)
    exact ⟨m', a, b⟩
  | [], [], _, _, _, e => by cases e
  | [], _ :: _, _, _, h, _ => h.elim
  | _ :: _, [], _, _, h, _ => h.elim
theorem LamsOk.len : ∀ {ls : List LamD} {ms : List Ex}, LamsOk Γ X k ls ms → ls.length = ms.length
  | [], [], _ => rfl
  | _ :: ls, _ :: ms, h => by simp [LamsOk.len h.2]
  | [], _ :: _, h => h.elim
  | _ :: _, [], h => h.elim
def badL (excs : List Nat) (sl : Sl) : List Ex → HS → R Unit
  | [], h => .ok () h
  | m :: ms, h => match m sl h with
    | .exc c h1 => if excs.contains c then badL excs sl ms h1 else .no
    | _ => .no
def eBads (bx : Bool) (excs : List Nat) (ms : List Ex) : Ex := fun sl h => (badL excs sl ms h).bind fun _ h1 => mkL bx [] h1
/-- told(f) != ret within the comprehension's block -/
def ttB (Γ : Pk.Γ) (X : Cx) (k : Nat) (CS : Addr) (ret : Str) (q : Str) (iv : Nat) (σ : L2.St) : TT := fun σ' H' Q => ∃ (f : Addr) (l : LamD) (m : Ex) (c' : Addr), σ'[iv]? = some (some (.ref f)) ∧ H' f = some (LamO f c' q l.1 l.2.1 l.2.2 (cloFrom X.env.cells l.2.2.names [])) ∧ H' c' = some (CodeO c' q) ∧ LamOk Γ X k l m ∧
  RDE Γ (fun cls _ _ H2 => ∃ b, PySem.W.exmOne X.K cls (.ref CS) = some b ∧ (b = true → Q false H2) ∧ (b = false → False)) m σ H' (fun _ _ => False)
theorem pt_bad {pins : List (Addr × Obj)} {σ : L2.St} {s : Shared} {H : Hp} {C : Addr} {cl : List (Str × Addr)} {fp : List Addr} {bscope : Scope} {fv : Str} {pf pc p5 p6 : Pos} {iv jj : Nat} (D : ToldT X.K X.mg x ret CS) (hr : Room (k + 2) X.A) (I3 : Inv X pins σ H s) (f3 : ∀ b ∈ fp, FpOk X pins H b)
    (hN : X.N[iv]? = some fv) (hgx : (relS bscope X.env.scope).names.lookup x = some .globalImplicit) (hv : Vis (relS bscope X.env.scope) fv) (hd : (fv == ("__debug__" : Str)) = false) (hcd : (fv == ("__classdict__" : Str)) = false) :
    PTs (X.blk s H bscope (compEnvC bscope cl C X.env) fp) [.Compare (.Call (.Name x p) [.Name fv pf] [] pc) [.NotEq] [.Constant (.str ret) jj p5] p6] (ttB Γ X k CS ret (X.env.qual ++ "<lambda>") iv σ) := by
  obtain ⟨g, a, e, j, q1, q2, q3, q4, q5, q6, q7, q8, pg, sg, dV, kV, doc, pm, cdv, ct, oc, an, od, osl, Ng, hm, hk, lk, hcg, hb, Sg, hNg, hva, hge, hme, hde, h0, hdx, hda, hca⟩ := D
  refine pts_one ⟨fun pins' s' σ' H' Q Ib h => ?_⟩
  obtain ⟨f, l, m, c', hσ, hf, hco, lo, rd⟩ := h
  refine wpAny_isTrue_Compare1 ?_
  refine thn (Q := EP (X.blk s H bscope (compEnvC bscope cl C X.env) fp) pins' σ' (fun v H2 => v = .str ret ∧ Q false H2)) ?_ fun v s1 ⟨y, H1, I1, r1, ey, hq⟩ => ?_
  · have hgl : Gl (X.blk s H bscope (compEnvC bscope cl C X.env) fp) x := hgx
    refine wpAny_Call_Name_kw (ld_glob Ib hgl hm ?_ hdx)
    refine PySem.W.callWith_K (h₀ := X.base) Ib.ok.mod.kin hk ?_ (by rfl) (by rfl)
    show wpAny _ _ (spliced ((false, eval (.Name fv pf) (X.blk s H bscope (compEnvC bscope cl C X.env) fp).env) :: backTo pc (starEach [] (X.blk s H bscope (compEnvC bscope cl C X.env) fp).env))) _ _ s'
    refine Calls.spliced_cons (thn ((pe_var (X := X.blk s H bscope (compEnvC bscope cl C X.env) fp) (pos := pf) (i := iv) hN hv hd hcd).run pins' s' σ' H' (fun v H1 => v = .ref f ∧ H1 = H') Ib ⟨.ref f, hσ, rfl, rfl⟩) fun u s1 ⟨v, H1, I1, r1, ev, eH⟩ => ?_)
    subst ev
    rw [eH] at I1
    obtain rfl : u = Value.ref f := r1
    refine Calls.spliced_nil ⟨I1.kIn, ?_⟩
    have IX : Inv X pins σ H' s1 := I3.call' (ch := fp) I1.os I1.base I1.hok I1.bare fun b hb => ⟨(f3 b hb).2.2.2.1, (f3 b hb).2.1, (f3 b hb).2.2.2.2.1, (f3 b hb).2.2.2.2.2⟩
    have rc : codeAny (model X.prog X.w) X.A (.call (.ref g) ⟨[.ref f], []⟩) (CR C8.CX0 X.stack X.prog X.w H' s1 (fun v H2 => v = .str ret ∧ Q false H2) C8.E0) s1 := by
      refine run_ofS (N := Ng) (ps := [a]) (us := [.ref f]) (vs := [.ref f]) lk hcg Sg hr IX.env0 (hb s1 [.ref f] IX.kIn rfl) (.cons rfl .nil) rfl fun hr' => ?_
      have htt : TTold X.K CS ret (fun E H1 Q1 => H1 f = some (LamO f c' (X.env.qual ++ "<lambda>") l.1 l.2.1 l.2.2 (cloFrom X.env.cells l.2.2.names [])) ∧ RDE Γ (fun c d _ H' => E c d H') m σ H1 Q1) H' (fun v H2 => v = .str ret ∧ Q false H2) := by
        unfold TTold
        refine ⟨hf, ?_⟩
        obtain ⟨g0, sl0, h0', y1, y2, y3⟩ := rd
        refine ⟨g0, sl0, h0', y1, y2, ?_⟩
        cases em : m sl0 h0' with
        | ok w h1 => rw [em] at y3; exact fun g' v H1 l y r => (y3 g' v H1 l y r).elim
        | no => rw [em] at y3; exact y3
        | exc cc h1 =>
          rw [em] at y3
          intro g' H1 l y
          obtain ⟨b, z1, z2, z3⟩ := y3 g' H1 l y
          exact ⟨b, z1, fun hb => ⟨rfl, z2 hb⟩, z3⟩
      obtain ⟨t', ht', hq'⟩ := told_gives (X := X) (x := x) (q := X.env.qual ++ "<lambda>") (p1 := q1) (p2 := q2) (p3 := q3) (p4 := q4) (p5 := q5) (p6 := q6) (p7 := q7) (p8 := q8) (j := j) (g := g) (cdg := cdv) hge hme hde h0 f c' s1 H' (fun v H2 => v = .str ret ∧ Q false H2)
        (fun E H1 Q1 => H1 f = some (LamO f c' (X.env.qual ++ "<lambda>") l.1 l.2.1 l.2.2 (cloFrom X.env.cells l.2.2.names [])) ∧ RDE Γ (fun c d _ H' => E c d H') m σ H1 Q1)
        (fun W pn xe E p1 p2 tk hW => PE.imp (pe_actT (i := 0) IX lo.L lo.bind tk hW hr' (fun A outer s H hr2 => lo.body A outer s H E f c' hr2 (takes_of rfl rfl rfl rfl)) hNg hva hda hca) fun σZ HZ QZ ⟨z1, z2, z3, z4⟩ => ⟨z1, z3, z2, z4⟩) hco htt
      exact ⟨t', ht'.nox, hq'⟩
    refine wpAny_call (codeAny_mono rc fun r s2 hq => ?_)
    cases r with
    | error e => exact (show False from hq).elim
    | ok fl =>
      cases fl with
      | ret u => exact I1.after hq
      | next => exact False.elim hq
      | brk => exact False.elim hq
      | cont => exact False.elim hq
  · subst ey
    obtain ⟨t, rfl⟩ := (show ∃ t, v = Value.str ret t from r1)
    refine Calls.Constant_str ?_
    refine PySem.P.ne_str ?_
    refine wpAny_truthy_bool ⟨H1, I1.tok _, ?_⟩
    have eb : (ret.cps.toList != ret.cps.toList) = false := by simp
    first
      | exact hq
      | (simpa using hq)
end
end Pk
end

/-! PkZ -/
section
set_option Elab.async false
set_option linter.all false
set_option maxRecDepth 100000
set_option maxHeartbeats 4000000
namespace Pk
open PySem PySem.Spec PyProof.Rows L2 LamX
section
variable {Γ : Γ} {Wx : WX} {X : Cx} {CS : Addr} {k : Nat} {x ret : Str} {p : Pos} {excs : List Nat} {ls : List LamD} {ms : List Ex}
/-- [1 for f in bad if told(f) != ret]: each is told -/
theorem x_bads {bscope : Scope} {own : List (Str × Nat)} {fv bad : Str} {p0 pfv pb pf pc p5 p6 bpos : Pos} {ib iv j0 jj : Nat} (bx : Bool) (D : ToldT X.K X.mg x ret CS) (hx : ∀ c ∈ excs, PySem.W.exmOne X.K (.ref (Γ.cls c)) (.ref CS) = some true) (hr : Room (k + 2) X.A) (hc : X.calm = true) (hN : X.N.Nodup)
    (ok : BlkOk X.N X.env.scope bscope own) (lo : LamsOk Γ X k ls ms) (hib : X.N[ib]? = some bad := by rfl) (hvb : Vis X.env.scope bad := by first | exact .inl rfl | exact .inr (.inl rfl)) (hiv : X.N[iv]? = some fv := by rfl) (hio : iv ∈ own.map (·.2) := by decide)
    (hgx : (relS bscope X.env.scope).names.lookup x = some .globalImplicit := by rfl) (hlf : (relS bscope X.env.scope).names.lookup fv = some .local := by rfl)
    (hdb : (bad == ("__debug__" : Str)) = false := by decide) (hcb : (bad == ("__classdict__" : Str)) = false := by decide) (hd : (fv == ("__debug__" : Str)) = false := by decide) (hcd : (fv == ("__classdict__" : Str)) = false := by decide)
    (hs : ∀ x, foldedSetIterable (.Name bad pb) X.env x = pure x := by intro _; rfl) :
    PE X (.ListComp (.Constant (.int 1) j0 p0) [⟨.Name fv pfv, .Name bad pb, [.Compare (.Call (.Name x p) [.Name fv pf] [] pc) [.NotEq] [.Constant (.str ret) jj p5] p6], 0⟩] bscope bpos)
      (RDEx Γ Wx (BadAt ib (X.env.qual ++ "<lambda>") X.env.cells ls) (eBads bx excs ms)) := by
  refine ⟨fun pins s σ H Q I ⟨g, sl, h, hH, hS, ⟨L, fs, hσ, hL, hls⟩, q⟩ => ?_⟩
  rw [eval_ListComp]
  have hn : fs.length = ls.length := hls.len
  have hm : ls.length = ms.length := lo.len
  have hvlt : iv < σ.length := by
    rw [I.len]
    exact (List.getElem?_eq_some_iff.mp hiv).1
  refine lc_coreI (Q := Q) (wi := iList X.K (tVar ib)) (g := gName iv) (tt := ttB Γ X k CS ret (X.env.qual ++ "<lambda>") iv σ) (te := tC (.int 1)) hc hN I (pi_list (pe_var hib hvb hdb hcb)) ok (fun s H C cl fp => pg_name (X := X.blk s H bscope (compEnvC bscope cl C X.env) fp) hN hiv (.inl hlf) (.inr hlf))
    (fun s H C cl fp I3 f3 => pt_bad D hr I3 f3 hiv hgx (.inl hlf) hd hcd) (fun s H C cl fp => pe_int) hs ?_ fun D C s' m H' I' q hn f => ⟨m, hn, fun h'' sb => ?_⟩
  · refine ⟨.ref L, hσ, L, rfl, ⟨_, SqL.of (hH.atL hL)⟩, fun D hD => ?_⟩
    have nD := hH.noHid hD
    refine ⟨fun i m H' => m = fs.length - i ∧ i ≤ fs.length ∧ ∃ g' h', g.le g' ∧ RH Γ g' h' H' ∧ g'.hid D = some (.lst []) ∧ Rz Γ Wx (RW Γ.K) g ((badL excs sl (ms.drop i) h').bind fun _ h1 => mkL bx [] h1) σ Q, ?_, ?_⟩
    · obtain ⟨l, y, z⟩ := hH.hide hD (o := .lst []) trivial
      exact ⟨_, rfl, Nat.zero_le _, _, h, l, y, z, q⟩
    · rintro i m H' ⟨rfl, hi, g', h', l, y, z, q⟩
      have hL' : H' L = some (.lst (fs.map V.ref)) := y.atL (l.F _ _ hL)
      by_cases hlt : i < fs.length
      · obtain ⟨f, ld, e1, e2, c', e3, e4⟩ := (hls.mono l).get hlt
        obtain ⟨m, em, lm⟩ := lo.get e2
        have hd : ms.drop i = m :: ms.drop (i + 1) := by
          have hlt2 : i < ms.length := by omega
          rw [List.drop_eq_getElem_cons hlt2]
          rw [List.getElem?_eq_getElem hlt2] at em
          cases em
          rfl
        rw [hd] at q
        have hat : (fs.map V.ref)[i]? = some (V.ref f) := by rw [List.getElem?_map, e1] <;> rfl
        refine .inr ⟨⟨_, .ref f, SqL.of hL', hat⟩, fun H2 => ∃ m', m' < fs.length - i ∧ (m' = fs.length - (i + 1) ∧ i + 1 ≤ fs.length ∧ ∃ g' h', g.le g' ∧ RH Γ g' h' H2 ∧ g'.hid D = some (.lst []) ∧ Rz Γ Wx (RW Γ.K) g ((badL excs sl (ms.drop (i + 1)) h').bind fun _ h1 => mkL bx [] h1) σ Q), fun H2 nx => nx, fun x2 H2 ⟨eH, hy⟩ => ?_⟩
        subst eH
        have ex := hy _ (SqL.of hL')
        rw [hat] at ex
        cases ex
        refine ⟨wipe_eq (is := [iv]) (fun j hj => by rw [List.mem_singleton.mp hj]; exact hio) ⟨by rw [List.length_set], fun j hj => List.getElem?_set_ne (fun z => hj (by rw [z]; exact List.mem_singleton.mpr rfl))⟩, f, ld, m, c', ?_, y.atF e3, y.atF e4, lm, g', sl, h', y, SLk.mono l hS, ?_⟩
        · rw [List.getElem?_set_self (by rw [wipe_length]; exact hvlt)]
        · have q : Rz Γ Wx (RW Γ.K) g ((match m sl h' with
            | .exc c h1 => if excs.contains c then badL excs sl (ms.drop (i + 1)) h1 else .no
            | _ => .no).bind fun _ h1 => mkL bx [] h1) σ Q := q
          cases er : m sl h' with
          | ok w h1 => rw [er] at q; exact q.elim
          | no => rw [er] at q; exact q.elim
          | exc cc h1 =>
            rw [er] at q
            by_cases hcc : excs.contains cc = true
            · have q : Rz Γ Wx (RW Γ.K) g ((if excs.contains cc then badL excs sl (ms.drop (i + 1)) h1 else .no).bind fun _ h1 => mkL bx [] h1) σ Q := q
              rw [if_pos hcc] at q
              intro g2 H3 l2 y2
              refine ⟨true, hx cc (List.contains_iff_mem.mp hcc), fun _ => ?_, fun z => by cases z⟩
              simp only [Bool.false_eq_true, if_false]
              exact ⟨fs.length - (i + 1), by omega, rfl, hlt, g2, h1, l.trans l2, y2, l2.hid _ _ z, q⟩
            · have q : Rz Γ Wx (RW Γ.K) g ((if excs.contains cc then badL excs sl (ms.drop (i + 1)) h1 else .no).bind fun _ h1 => mkL bx [] h1) σ Q := q
              rw [if_neg hcc] at q
              exact q.elim
      · have e : i = fs.length := by omega
        subst e
        rw [hn, hm, List.drop_length] at q
        have q : Rz Γ Wx (RW Γ.K) g (mkL bx [] h') σ Q := q
        refine .inl ⟨⟨_, SqL.of hL', by rw [List.length_map]; exact Nat.le_refl _⟩, ?_⟩
        cases bx with
        | true =>
          obtain ⟨g2, l2, y2, r2⟩ := y.showB (c := .lst []) z ⟨[], (y.hd D _ z).1, .nil⟩ l nD
          exact q g2 _ _ l2 y2 r2
        | false =>
          obtain ⟨g2, l2, y2, f2, _, m2⟩ := y.show_ z l nD
          refine q g2 _ _ l2 y2 ?_
          unfold RW
          exact ⟨D, [], rfl, f2, .nil⟩
  · obtain ⟨f0, f1, f2, f3, f4, f5⟩ := f
    exact ⟨.ref D, H', I'.turned (t' := s'.toks) (fun b o hb e => (sb.2 b hb).trans e) f0 f1 f3 f4 f5, rfl, q⟩
end
end Pk
end

/-! PlA -/
section
set_option Elab.async false
set_option linter.all false
set_option maxRecDepth 100000
set_option maxHeartbeats 4000000
namespace Pk
open PySem PySem.Spec L2
/-! dicts walked -/
def G.lock (g : G) (p : Addr) (o : HO) : G := { g with lk := upd g.lk p o }
def G.unlk (g : G) (p : Addr) : G := { g with lk := fun a => if a = p then none else g.lk a }
def pK : Key → W
  | .inl i => .int i | .inr x => .str x
def dkW : DK → W
  | .k x => pK x | .t l => .tup (l.map pK)
def lkW (w : W) (h : HS) : HS := match w with
  | .box n => (match h.at_ n with
    | some (.dic ks ws) => h.put n (.lck ks ws)
    | _ => h)
  | _ => h
def iKeys (f : Ex) : Ix := fun sl h => (f sl h).bind fun w h1 => match dview h1 w with
  | some (ks, _) => .ok (ks.map dkW, fun _ => true) (lkW w h1)
  | none => .no
def flatK : List DK → Bool := fun ks => ks.all fun k => match k with | .k _ => true | .t _ => false
def iVals (f : Ex) : Ix := fun sl h => (f sl h).bind fun w h1 => match dview h1 w with
  | some (ks, ws) => if flatK ks then .ok (ws, fun _ => true) (lkW w h1) else .no
  | none => .no
def iItems (f : Ex) : Ix := fun sl h => (f sl h).bind fun w h1 => match dview h1 w with
  | some (ks, ws) => if flatK ks then .ok ((ks.zip ws).map fun p => .tup [dkW p.1, p.2], fun _ => true) (lkW w h1) else .no
  | none => .no
section
variable {Γ : Γ} {Wx : WX} {X : Cx} {g : G} {h : HS} {H : Hp} {sl : Sl} {σ : L2.St} {tg e : Expr} {f : Ex}
theorem RH.addlk (x : RH Γ g h H) {p : Addr} {o : HO} (e : H p = some o) (z : IsFrz o) : ∃ g2 : G, g.le g2 ∧ RH Γ g2 h H ∧ g2.lk p = some o := by
  cases q : g.lk p with
  | some u =>
    have q2 := (x.lks p u q).1
    rw [e] at q2
    cases q2
    exact ⟨g, .refl g, x, q⟩
  | none =>
    have l : g.le (g.lock p o) := ⟨Nat.le_refl _, fun _ _ => rfl, Same.refl _, Same.refl _, fun a u w => by
      show upd g.lk p o a = some u
      rw [upd_ne (ne_of_none w q)]; exact w⟩
    refine ⟨g.lock p o, l, ⟨x.fr, x.nx, x.inj, x.tr, fun n c q => ?_, x.tab, x.nt, x.hd, fun a u w => ?_, fun n ks ws q2 => ?_⟩, upd_same⟩
    · obtain ⟨a, b, c'⟩ := x.cell n c q
      exact ⟨a, b, c'.mono l rfl⟩
    · have w : upd g.lk p o a = some u := w
      by_cases ha : a = p
      · rw [ha, upd_same] at w
        cases w
        rw [ha]
        exact ⟨e, z⟩
      · rw [upd_ne ha] at w
        exact x.lks a u w
    · obtain ⟨u, q3⟩ := x.lkc n ks ws q2
      exact ⟨u, l.lk _ _ q3⟩
theorem RH.lockB (x : RH Γ g h H) {n : Nat} {ks : List DK} {ws : List W} {u : HO} {od : Obj} (e : h.at_ n = some (.dic ks ws)) (hu : H (g.ρ n) = some u) :
    g.le (g.lock (g.ρ n) (.frz od u)) ∧ RH Γ (g.lock (g.ρ n) (.frz od u)) (h.put n (.lck ks ws)) (upd H (g.ρ n) (.frz od u)) ∧ (g.lock (g.ρ n) (.frz od u)).lk (g.ρ n) = some (.frz od u) := by
  obtain ⟨hn, hF, ok⟩ := x.cell n _ e
  have ok' := ok
  obtain ⟨vs, d, rs⟩ := ok'
  have hlk : g.lk (g.ρ n) = none := by
    cases q : g.lk (g.ρ n) with
    | none => rfl
    | some o => exact (nofrz ok (by intro _ _ z; cases z) (x.lks _ _ q).1 (x.lks _ _ q).2).elim
  have du : IsDct u := by
    rcases d with ⟨kvs, q, _⟩ | ⟨kvs, q, _⟩ <;> (rw [hu] at q; cases q; trivial)
  have l : g.le (g.lock (g.ρ n) (.frz od u)) := ⟨Nat.le_refl _, fun _ _ => rfl, Same.refl _, Same.refl _, fun a w q => by
    show upd g.lk (g.ρ n) (.frz od u) a = some w
    rw [upd_ne (ne_of_none q hlk)]; exact q⟩
  obtain ⟨o0, ho, nt⟩ := ok.at
  refine ⟨l, ⟨fun a w q => ?_, x.nx, fun m k hm hk => x.inj m k (put_live e hm) (put_live e hk), fun m hm => ?_, fun m c2 q => ?_, tabs_upd x.tab (fun o e => by rw [ho] at e; cases e; exact nt), x.nt, fun a o' q => ?_, fun a o' q => ?_, fun m ks' ws' q => ?_⟩, upd_same⟩
  · have na : a ≠ g.ρ n := fun z => by
      have q : g.F a = some w := q
      rw [z, hF] at q; cases q
    rcases x.fr a w q with z | ⟨d, o', z⟩
    · exact .inl (by rw [upd_ne na]; exact z)
    · exact .inr ⟨d, o', by rw [upd_ne na]; exact z⟩
  · show ∃ o, upd H (g.ρ n) (.frz od u) (g.ρ m) = some o ∧ NT o
    by_cases b : g.ρ m = g.ρ n
    · rw [b]; exact ⟨_, upd_same, trivial⟩
    · rw [upd_ne b]; exact x.tr m (put_live e hm)
  · have q' : (if m = n then some (.lck ks ws) else h.at_ m) = some c2 := q
    by_cases b : m = n
    · rw [if_pos b] at q'
      cases q'
      rw [b]
      refine ⟨hn, hF, vs, ?_, RWs.mono l _ _ rs⟩
      rcases d with ⟨kvs, q, z⟩ | ⟨kvs, q, z⟩
      · rw [hu] at q; cases q
        exact .inl ⟨od, kvs, upd_same, z⟩
      · rw [hu] at q; cases q
        exact .inr ⟨od, kvs, upd_same, z⟩
    · rw [if_neg b] at q'
      obtain ⟨q1, q2, q3⟩ := x.cell m c2 q'
      exact ⟨q1, q2, q3.mono l (upd_ne fun z => b (x.inj m n (live q') (live e) z))⟩
  · obtain ⟨h1, h2, h3, h4⟩ := x.hd a o' q
    exact ⟨by rw [upd_ne (h4 n (live e)).symm]; exact h1, h2, h3, fun m hm => h4 m (put_live e hm)⟩
  · have q : upd g.lk (g.ρ n) (.frz od u) a = some o' := q
    by_cases ha : a = g.ρ n
    · rw [ha, upd_same] at q
      cases q
      rw [ha]
      exact ⟨upd_same, du⟩
    · rw [upd_ne ha] at q
      rw [upd_ne ha]
      exact x.lks a o' q
  · have q' : (if m = n then some (.lck ks ws) else h.at_ m) = some (.lck ks' ws') := q
    by_cases b : m = n
    · rw [b]; exact ⟨_, upd_same⟩
    · rw [if_neg b] at q'
      obtain ⟨o, z⟩ := x.lkc m ks' ws' q'
      exact ⟨o, l.lk _ _ z⟩
/-- a frozen dict is locked -/
theorem RH.lockF (x : RH Γ g h H) {p : Addr} {u : HO} {od : Obj} (e : g.F p = some u) (du : IsDct u) (hu : H p = some u) : RH Γ g h (upd H p (.frz od u)) := by
  have nr : ∀ n c, h.at_ n = some c → g.ρ n ≠ p := fun n c q z => by
    have := (x.cell n c q).2.1
    rw [z, e] at this; cases this
  refine ⟨fun a w q => ?_, x.nx, x.inj, fun m hm => ?_, fun m c2 q => ?_, tabs_upd x.tab (fun o e => by rw [hu] at e; cases e; cases u <;> first | trivial | exact du), x.nt, fun a o' q => ?_, fun a o' q => ?_, x.lkc⟩
  · by_cases ha : a = p
    · rw [ha] at q ⊢
      rw [e] at q
      cases q
      exact .inr ⟨du, od, upd_same⟩
    · rcases x.fr a w q with z | ⟨d, o', z⟩
      · exact .inl (by rw [upd_ne ha]; exact z)
      · exact .inr ⟨d, o', by rw [upd_ne ha]; exact z⟩
  · by_cases b : g.ρ m = p
    · rw [b]; exact ⟨_, upd_same, trivial⟩
    · rw [upd_ne b]; exact x.tr m hm
  · obtain ⟨q1, q2, q3⟩ := x.cell m c2 q
    exact ⟨q1, q2, q3.mono (.refl g) (upd_ne (nr m c2 q))⟩
  · obtain ⟨h1, h2, h3, h4⟩ := x.hd a o' q
    refine ⟨by rw [upd_ne (fun z => by rw [z, e] at h3; cases h3)]; exact h1, h2, h3, h4⟩
  · have na : a ≠ p := fun z => by
      have q2 := (x.lks a o' q)
      rw [z, hu] at q2
      obtain ⟨q2, q3⟩ := q2
      cases q2
      cases u <;> first | exact q3 | exact du
    rw [upd_ne na]
    exact x.lks a o' q
/-- it is walked no more -/
theorem RH.unlockB {g0 : G} (x : RH Γ g h H) (l0 : g0.le g) {n : Nat} {ks : List DK} {ws : List W} (e : h.at_ n = some (.lck ks ws)) (n0 : n < g0.nx) (hl : g0.lk (g0.ρ n) = none) :
    ∃ od u, H (g.ρ n) = some (.frz od u) ∧ g0.le (g.unlk (g.ρ n)) ∧ RH Γ (g.unlk (g.ρ n)) (h.put n (.dic ks ws)) (upd H (g.ρ n) u) := by
  obtain ⟨hn, hF, ok⟩ := x.cell n _ e
  have ok' := ok
  obtain ⟨vs, d, rs⟩ := ok'
  obtain ⟨od, u, hu, du, dd⟩ : ∃ od u, H (g.ρ n) = some (.frz od u) ∧ IsDct u ∧ DctH (upd H (g.ρ n) u) (g.ρ n) ks vs := by
    rcases d with ⟨o, kvs, q, z⟩ | ⟨o, kvs, q, z⟩
    · exact ⟨o, _, q, trivial, .inl ⟨kvs, upd_same, z⟩⟩
    · exact ⟨o, _, q, trivial, .inr ⟨kvs, upd_same, z⟩⟩
  have nu : NT u := by cases u <;> first | trivial | exact du
  have rn : g.ρ n = g0.ρ n := l0.ρ n n0
  have l : g0.le (g.unlk (g.ρ n)) := ⟨l0.nx, l0.ρ, l0.F, l0.hid, fun a w q => by
    show (if a = g.ρ n then none else g.lk a) = some w
    rw [if_neg (fun z => by rw [z, rn, hl] at q; cases q)]
    exact l0.lk a w q⟩
  have mc : ∀ {c : Ct} {a : Addr} {H' : Hp}, CellOk Γ g H' a c → CellOk Γ (g.unlk (g.ρ n)) H' a c := fun {c a H'} z => by
    cases c with
    | lst ws => obtain ⟨vs, a, b⟩ := z; exact ⟨vs, a, rws_hid (g := g) (by rfl) (by rfl) (by rfl) b⟩
    | dic ks ws => obtain ⟨vs, a, b⟩ := z; exact ⟨vs, a, rws_hid (g := g) (by rfl) (by rfl) (by rfl) b⟩
    | lck ks ws => obtain ⟨vs, a, b⟩ := z; exact ⟨vs, a, rws_hid (g := g) (by rfl) (by rfl) (by rfl) b⟩
    | ins c ks ws => obtain ⟨dx, vs, a, a2, b⟩ := z; exact ⟨dx, vs, a, a2, rws_hid (g := g) (by rfl) (by rfl) (by rfl) b⟩
  refine ⟨od, u, hu, l, ⟨fun a w q => ?_, x.nx, fun m k hm hk => x.inj m k (put_live e hm) (put_live e hk), fun m hm => ?_, fun m c2 q => ?_, tabs_upd x.tab (fun o e => by rw [hu] at e; cases e; trivial), x.nt, fun a o' q => ?_, fun a o' q => ?_, fun m ks' ws' q => ?_⟩⟩
  · have q : g.F a = some w := q
    have na : a ≠ g.ρ n := fun z => by rw [z, hF] at q; cases q
    rcases x.fr a w q with z | ⟨d, o', z⟩
    · exact .inl (by rw [upd_ne na]; exact z)
    · exact .inr ⟨d, o', by rw [upd_ne na]; exact z⟩
  · show ∃ o, upd H (g.ρ n) u (g.ρ m) = some o ∧ NT o
    by_cases b : g.ρ m = g.ρ n
    · rw [b]; exact ⟨_, upd_same, nu⟩
    · rw [upd_ne b]; exact x.tr m (put_live e hm)
  · have q' : (if m = n then some (.dic ks ws) else h.at_ m) = some c2 := q
    by_cases b : m = n
    · rw [if_pos b] at q'
      cases q'
      rw [b]
      exact ⟨hn, hF, mc ⟨vs, dd, rs⟩⟩
    · rw [if_neg b] at q'
      obtain ⟨q1, q2, q3⟩ := x.cell m c2 q'
      exact ⟨q1, q2, mc (q3.mono (.refl g) (upd_ne fun z => b (x.inj m n (live q') (live e) z)))⟩
  · obtain ⟨h1, h2, h3, h4⟩ := x.hd a o' q
    exact ⟨by rw [show upd H (g.ρ n) u a = H a from upd_ne (h4 n (live e)).symm]; exact h1, h2, h3, fun m hm => h4 m (put_live e hm)⟩
  · have q : (if a = g.ρ n then none else g.lk a) = some o' := q
    by_cases ha : a = g.ρ n
    · rw [if_pos ha] at q; cases q
    · rw [if_neg ha] at q
      rw [upd_ne ha]
      exact x.lks a o' q
  · have q' : (if m = n then some (.dic ks ws) else h.at_ m) = some (.lck ks' ws') := q
    by_cases b : m = n
    · rw [if_pos b] at q'; cases q'
    · rw [if_neg b] at q'
      obtain ⟨o, z⟩ := x.lkc m ks' ws' q'
      have hm := (x.cell m _ q').1
      refine ⟨o, ?_⟩
      show (if g.ρ m = g.ρ n then none else g.lk (g.ρ m)) = some o
      rw [if_neg (fun z => b (x.inj m n (live q') (live e) z))]
      exact z
end
end Pk
end

/-! PlB -/
section
set_option Elab.async false
set_option linter.all false
set_option maxRecDepth 100000
set_option maxHeartbeats 4000000
namespace Pk
open PySem PySem.Spec L2
section
variable {Γ : Γ} {Wx : WX} {X : Cx} {g : G} {h : HS} {H : Hp} {sl : Sl} {σ : L2.St} {tg e : Expr} {f : Ex} {apos cpos : Pos}
def LockOr (v : V) (H1 : Hp) (Q : VK) : Prop := ∃ d, v = .ref d ∧ ((∃ u, H1 d = some u ∧ IsDct u ∧ ∀ od, Q v (upd H1 d (.frz od u))) ∨ ∃ od u, H1 d = some (.frz od u) ∧ IsDct u ∧ Q v H1)
theorem pe_la {t : TE} (p : PE X e t) : PE X e (fun σ H Q => t σ H fun v H1 => LockOr v H1 Q) := by
  refine ⟨fun pins s σ H Q I h => ?_⟩
  refine thn (p.run pins s σ H _ I h) fun v s1 ⟨x, H1, I1, r1, d, ex, q⟩ => ?_
  rcases q with ⟨u, e1, du, q⟩ | ⟨od, u, e1, du, q⟩
  · have mu : Mut (some u) := by cases u <;> first | trivial | exact du.elim
    obtain ⟨od, I2⟩ := I1.lock e1 mu
    exact ⟨x, _, I2, r1, q od⟩
  · exact ⟨x, _, I1, r1, q⟩
/-- a dict w (the view ks, ws): from now on it is walked -/
theorem walk_ok {w : W} {v : V} {ks : List DK} {ws : List W} {R : VK} (x : RH Γ g h H) (r : RW Γ.K g w v) (e : dview h w = some (ks, ws))
    (q : ∀ g2 H2 d, g.le g2 → RH Γ g2 (lkW w h) H2 → v = .ref d → ((∃ o kvs, g2.lk d = some (.frz o (.dK kvs)) ∧ ks = kvs.map (fun p => DK.k p.1) ∧ RWs Γ.K g2 ws (kvs.map (·.2))) ∨ ∃ o kvs, g2.lk d = some (.frz o (.dT kvs)) ∧ (ks = kvs.map (fun p => DK.t p.1) ∧ kvs ≠ []) ∧ RWs Γ.K g2 ws (kvs.map (·.2))) → R v H2) : LockOr v H R := by
  cases w with
  | box n =>
    unfold RW at r
    obtain ⟨hn, rfl⟩ := r
    have e0 : (match h.at_ n with
      | some (.dic ks ws) => some (ks, ws)
      | some (.lck ks ws) => some (ks, ws)
      | _ => none) = some (ks, ws) := e
    cases ec : h.at_ n with
    | none => rw [ec] at e0; cases e0
    | some c =>
      rw [ec] at e0
      cases c with
      | lst _ => cases e0
      | ins _ _ _ => cases e0
      | dic ks' ws' =>
        cases e0
        obtain ⟨_, _, vs, d, rs⟩ := x.cell n _ ec
        have el : lkW (.box n) h = h.put n (.lck ks ws) := by
          show (match h.at_ n with
            | some (.dic ks ws) => h.put n (.lck ks ws)
            | _ => h) = _
          rw [ec]
        refine ⟨_, rfl, .inl ?_⟩
        rcases d with ⟨kvs, q1, z1, z2⟩ | ⟨kvs, q1, z1, z2⟩
        · refine ⟨_, q1, trivial, fun od => ?_⟩
          obtain ⟨l, y, z⟩ := x.lockB (od := od) ec q1
          exact q _ _ _ l (by rw [el]; exact y) rfl (.inl ⟨od, kvs, z, z1, by rw [← z2]; exact RWs.mono l _ _ rs⟩)
        · refine ⟨_, q1, trivial, fun od => ?_⟩
          obtain ⟨l, y, z⟩ := x.lockB (od := od) ec q1
          exact q _ _ _ l (by rw [el]; exact y) rfl (.inr ⟨od, kvs, z, z1, by rw [← z2]; exact RWs.mono l _ _ rs⟩)
      | lck ks' ws' =>
        cases e0
        obtain ⟨_, _, vs, d, rs⟩ := x.cell n _ ec
        have el : lkW (.box n) h = h := by
          show (match h.at_ n with
            | some (.dic ks ws) => h.put n (.lck ks ws)
            | _ => h) = _
          rw [ec]
        obtain ⟨o, hl⟩ := x.lkc n _ _ ec
        obtain ⟨ho, _⟩ := x.lks _ _ hl
        refine ⟨_, rfl, .inr ?_⟩
        rcases d with ⟨od, kvs, q1, z1, z2⟩ | ⟨od, kvs, q1, z1, z2⟩
        · rw [q1] at ho
          cases ho
          exact ⟨od, _, q1, trivial, q g H _ (.refl g) (by rw [el]; exact x) rfl (.inl ⟨od, kvs, hl, z1, by rw [← z2]; exact rs⟩)⟩
        · rw [q1] at ho
          cases ho
          exact ⟨od, _, q1, trivial, q g H _ (.refl g) (by rw [el]; exact x) rfl (.inr ⟨od, kvs, hl, z1, by rw [← z2]; exact rs⟩)⟩
  | dic ks' ws' =>
    cases e
    unfold RW at r
    obtain ⟨a, vs, rfl, d, rs⟩ := r
    refine ⟨_, rfl, ?_⟩
    rcases d with ⟨kvs, q1, z1, z2⟩ | ⟨kvs, q1, z1, z2⟩
    · rcases x.fr _ _ q1 with z | ⟨_, o', z⟩
      · refine .inl ⟨_, z, trivial, fun od => ?_⟩
        obtain ⟨g2, l, y, z3⟩ := (x.lockF (od := od) q1 trivial z).addlk upd_same trivial
        exact q g2 _ _ l y rfl (.inl ⟨od, kvs, z3, z1, by rw [← z2]; exact RWs.mono l _ _ rs⟩)
      · obtain ⟨g2, l, y, z3⟩ := x.addlk z trivial
        exact .inr ⟨o', _, z, trivial, q g2 _ _ l y rfl (.inl ⟨o', kvs, z3, z1, by rw [← z2]; exact RWs.mono l _ _ rs⟩)⟩
    · rcases x.fr _ _ q1 with z | ⟨_, o', z⟩
      · refine .inl ⟨_, z, trivial, fun od => ?_⟩
        obtain ⟨g2, l, y, z3⟩ := (x.lockF (od := od) q1 trivial z).addlk upd_same trivial
        exact q g2 _ _ l y rfl (.inr ⟨od, kvs, z3, z1, by rw [← z2]; exact RWs.mono l _ _ rs⟩)
      · obtain ⟨g2, l, y, z3⟩ := x.addlk z trivial
        exact .inr ⟨o', _, z, trivial, q g2 _ _ l y rfl (.inr ⟨o', kvs, z3, z1, by rw [← z2]; exact RWs.mono l _ _ rs⟩)⟩
  | _ => cases e
theorem rw_pK {K : PySem.W.Frag} {g : G} (k : Key) : RW K g (pK k) (kV k) := by
  cases k with
  | inl i => exact mint _
  | inr x => exact mstr _
theorem rws_pK {K : PySem.W.Frag} {g : G} : ∀ (l : List Key), RWs K g (l.map pK) (l.map kV)
  | [] => .nil
  | k :: l => .cons (rw_pK k) (rws_pK l)
/-- a tuple that stands is kept from now on -/
theorem RH.extT (x : RH Γ g h H) {p : Addr} {xs : List V} (e : H p = some (.tup xs)) : ∃ g2 : G, g.le g2 ∧ RH Γ g2 h H ∧ g2.F p = some (.tup xs) := by
  cases q : g.F p with
  | some u =>
    refine ⟨g, .refl g, x, ?_⟩
    rcases x.fr p u q with z | ⟨d, o', z⟩
    · rw [e] at z; cases z; exact q
    · rw [e] at z; cases z
  | none =>
    have l : g.le (g.frz p (.tup xs)) := ⟨Nat.le_refl _, fun _ _ => rfl, fun a u z => by
      show upd g.F p (.tup xs) a = some u
      rw [upd_ne (ne_of_none z q)]; exact z, Same.refl _, Same.refl _⟩
    by_cases hh : ∃ o, g.hid p = some o
    · obtain ⟨o, ho⟩ := hh
      obtain ⟨h1, h2, _⟩ := x.hd p o ho
      rw [e] at h1
      cases h1
      exact h2.elim
    · refine ⟨g.frz p (.tup xs), l, ⟨fun a u z => ?_, x.nx, x.inj, x.tr, fun n c z => ?_, x.tab, nt_frz x.nt trivial, fun a o z => ?_, x.lks, x.lkc⟩, upd_same⟩
      · have z : upd g.F p (.tup xs) a = some u := z
        by_cases ha : a = p
        · rw [ha, upd_same] at z
          cases z
          exact .inl (by rw [ha]; exact e)
        · rw [upd_ne ha] at z
          exact x.fr a u z
      · obtain ⟨q1, q2, q3⟩ := x.cell n c z
        refine ⟨q1, ?_, q3.mono l rfl⟩
        show upd g.F p (.tup xs) (g.ρ n) = none
        rw [upd_ne (fun z => ?_)]
        · exact q2
        · have : ∃ o, H (g.ρ n) = some o ∧ ∀ xs, o ≠ .tup xs := by
            cases c with
            | lst ws => obtain ⟨vs, q, _⟩ := q3; exact ⟨_, q, fun xs z => by cases z⟩
            | ins c ks ws => obtain ⟨dx, vs, _, q, _⟩ := q3; exact ⟨_, q, fun xs z => by cases z⟩
            | dic ks ws =>
              obtain ⟨vs, d, _⟩ := q3
              rcases d with ⟨kvs, q, _⟩ | ⟨kvs, q, _⟩ <;> exact ⟨_, q, fun xs z => by cases z⟩
            | lck ks ws =>
              obtain ⟨vs, d, _⟩ := q3
              rcases d with ⟨o, kvs, q, _⟩ | ⟨o, kvs, q, _⟩ <;> exact ⟨_, q, fun xs z => by cases z⟩
          obtain ⟨o, q, n⟩ := this
          rw [z, e] at q
          exact n xs (Option.some.inj q).symm
      · obtain ⟨h1, h2, h3, h4⟩ := x.hd a o z
        refine ⟨h1, h2, ?_, h4⟩
        show upd g.F p (.tup xs) a = none
        rw [upd_ne (fun z2 => hh ⟨o, by rw [← z2]; exact z⟩)]
        exact h3
theorem lk_at {g g' : G} {h' : HS} {H' : Hp} {p : Addr} {o : HO} (l : g.le g') (y : RH Γ g' h' H') (e : g.lk p = some o) : H' p = some o := (y.lks p o (l.lk _ _ e)).1
theorem i_keys (p : PE X e (RDE Γ Wx f)) : PI X tg e (RDI Γ Wx (iKeys f)) := by
  refine PI.imp (pi_keys (pe_la p)) fun σ H R ⟨g, sl, h, hH, hS, q⟩ => ?_
  refine ⟨g, sl, h, hH, hS, Rz.mono (fun v H1 ⟨g1, h1, w1, l1, hH1, rw1, q1⟩ => ?_) (rzI_step q)⟩
  split at q1
  · rename_i ks ws e1
    refine walk_ok hH1 rw1 e1 fun g2 H2 d l2 y2 ev hk => ?_
    rcases hk with ⟨o, kvs, hl, rfl, _⟩ | ⟨o, kvs, hl, ⟨rfl, _⟩, _⟩
    · refine ⟨d, o, ev, .inl ⟨kvs, (y2.lks _ _ hl).1, q1 g2 H2 _ l2 y2 ⟨fun g' h' H' i l y _ hi => ?_, fun g' h' H' l y _ => ?_⟩⟩⟩
      · have hi' : i < kvs.length := by simpa using hi
        refine ⟨⟨lk_at l y hl, hi'⟩, fun x H'' ⟨eH, k, v, e2, e3⟩ => ?_⟩
        subst eH; subst e3
        refine ⟨g', .refl g', y, fun w hw => ?_⟩
        rw [List.map_map, List.getElem?_map, e2] at hw
        cases hw
        exact rw_pK k
      · exact ⟨lk_at l y hl, by simp⟩
    · refine ⟨d, o, ev, .inr ⟨kvs, (y2.lks _ _ hl).1, q1 g2 H2 _ l2 y2 ⟨fun g' h' H' i l y _ hi => ?_, fun g' h' H' l y _ => ?_⟩⟩⟩
      · have hi' : i < kvs.length := by simpa using hi
        refine ⟨⟨lk_at l y hl, hi'⟩, fun x H'' ⟨eH, k, v, qa, e2, e3, e4⟩ => ?_⟩
        subst eH; subst e3
        obtain ⟨g3, l3, y3, e5⟩ := y.extT e4
        refine ⟨g3, l3, y3, fun w hw => ?_⟩
        rw [List.map_map, List.getElem?_map, e2] at hw
        cases hw
        show RW Γ.K g3 (.tup (k.map pK)) _
        unfold RW
        exact ⟨qa, k.map kV, rfl, e5, rws_pK k⟩
      · exact ⟨lk_at l y hl, by simp⟩
  · exact q1.elim
theorem flat_kvs {kvs : List (List Key × V)} (h : flatK (kvs.map fun p => DK.t p.1) = true) : kvs = [] := by
  cases kvs with
  | nil => rfl
  | cons p r => simp [flatK] at h
theorem i_vals (p : PE X e (RDE Γ Wx f)) (hbase : attributeBase e "values" X.env (eval e X.env) = eval e X.env := by rfl) (hline : (apos.endLine == cpos.line) = true := by rfl) : PI X tg (.Call (.Attribute e "values" apos) [] [] cpos) (RDI Γ Wx (iVals f)) := by
  refine PI.imp (pi_values (pe_la p) hbase hline) fun σ H R ⟨g, sl, h, hH, hS, q⟩ => ?_
  refine ⟨g, sl, h, hH, hS, Rz.mono (fun v H1 ⟨g1, h1, w1, l1, hH1, rw1, q1⟩ => ?_) (rzI_step q)⟩
  split at q1
  · rename_i ks ws e1
    by_cases hf : flatK ks = true
    · rw [if_pos hf] at q1
      refine walk_ok hH1 rw1 e1 fun g2 H2 d l2 y2 ev hk => ?_
      rcases hk with ⟨o, kvs, hl, rfl, rs⟩ | ⟨o, kvs, hl, ⟨rfl, ne⟩, rs⟩
      · have hlen : ws.length = kvs.length := by rw [rs.len, List.length_map]
        refine ⟨d, o, kvs, ev, (y2.lks _ _ hl).1, q1 g2 H2 _ l2 y2 ⟨fun g' h' H' i l y _ hi => ?_, fun g' h' H' l y _ => ?_⟩⟩
        · have hi' : i < ws.length := hi
          refine ⟨⟨lk_at l y hl, by omega⟩, fun x H'' ⟨eH, k, e2⟩ => ?_⟩
          subst eH
          refine ⟨g', .refl g', y, fun w hw => ?_⟩
          obtain ⟨v, e3, r3⟩ := rs.get hw
          rw [List.getElem?_map, e2] at e3
          cases e3
          exact RW.mono l _ _ r3
        · exact ⟨lk_at l y hl, by show kvs.length ≤ ws.length; omega⟩
      · exact absurd (flat_kvs hf) ne
    · rw [if_neg hf] at q1
      exact q1.elim
  · exact q1.elim
theorem i_items {elts : List Expr} {kk : Nat} {tpos : Pos} (p : PE X e (RDE Γ Wx f)) (hbase : attributeBase e "items" X.env (eval e X.env) = eval e X.env := by rfl) (hline : (apos.endLine == cpos.line) = true := by rfl) : PI X (.Tuple elts kk tpos) (.Call (.Attribute e "items" apos) [] [] cpos) (RDI Γ Wx (iItems f)) := by
  refine PI.imp (pi_items (pe_la p) hbase hline) fun σ H R ⟨g, sl, h, hH, hS, q⟩ => ?_
  refine ⟨g, sl, h, hH, hS, Rz.mono (fun v H1 ⟨g1, h1, w1, l1, hH1, rw1, q1⟩ => ?_) (rzI_step q)⟩
  split at q1
  · rename_i ks ws e1
    by_cases hf : flatK ks = true
    · rw [if_pos hf] at q1
      refine walk_ok hH1 rw1 e1 fun g2 H2 d l2 y2 ev hk => ?_
      rcases hk with ⟨o, kvs, hl, rfl, rs⟩ | ⟨o, kvs, hl, ⟨rfl, ne⟩, rs⟩
      · have hlen : ws.length = kvs.length := by rw [rs.len, List.length_map]
        have hz : (((kvs.map fun p => DK.k p.1).zip ws).map fun p => W.tup [dkW p.1, p.2]).length = kvs.length := by
          rw [List.length_map, List.length_zip, List.length_map]
          omega
        refine ⟨d, o, kvs, ev, (y2.lks _ _ hl).1, q1 g2 H2 _ l2 y2 ⟨fun g' h' H' i l y _ hi => ?_, fun g' h' H' l y _ => ?_⟩⟩
        · have hi' : i < kvs.length := by rw [← hz]; exact hi
          refine ⟨⟨lk_at l y hl, hi'⟩, fun x H'' ⟨T, k, v, e2, ex, hT, eH⟩ => ?_⟩
          subst eH; subst ex
          obtain ⟨l3, y3, z3⟩ := y.frz hT (.tup [kV k, v])
          refine ⟨_, l3, y3, fun w hw => ?_⟩
          have hws : i < ws.length := by omega
          have e3 : ((kvs.map fun p => DK.k p.1).zip ws)[i]? = some (DK.k k, ws[i]) := by
            rw [List.getElem?_zip_eq_some]
            exact ⟨by rw [List.getElem?_map, e2]; rfl, List.getElem?_eq_getElem hws⟩
          rw [List.getElem?_map, e3] at hw
          cases hw
          obtain ⟨v', e4, r4⟩ := rs.get (List.getElem?_eq_getElem hws)
          rw [List.getElem?_map, e2] at e4
          cases e4
          show RW Γ.K _ (.tup [pK k, ws[i]]) _
          unfold RW
          exact ⟨T, [kV k, v], rfl, z3, .cons (rw_pK k) (.cons (RW.mono (l.trans l3) _ _ r4) .nil)⟩
        · exact ⟨lk_at l y hl, by rw [← hz]; exact Nat.le_refl _⟩
      · exact absurd (flat_kvs hf) ne
    · rw [if_neg hf] at q1
      exact q1.elim
  · exact q1.elim
end
/-! it is walked no more -/
def unlP (h : HS) (n : Nat) (h1 : HS) : HS := match h1.at_ n with
  | some (.lck ks ws) => h1.put n (.dic ks ws)
  | _ => h1
def isDic (h : HS) (n : Nat) : Bool := match h.at_ n with
  | some (.dic _ _) => true
  | _ => false
def eUnl (path : Sl → HS → Option Nat) (e : Ex) : Ex := fun sl h => match path sl h with
  | some n => if isDic h n then (e sl h).bind fun r h1 => .ok r (unlP h n h1) else e sl h
  | none => e sl h
def sUnl (path : Sl → HS → Option Nat) (b : Sx) : Sx := fun sl h => match path sl h with
  | some n => if isDic h n then (match b sl h with
    | .nx s h1 => .nx s (unlP h n h1)
    | .rt w h1 => .rt w (unlP h n h1)
    | .bk s h1 => .bk s (unlP h n h1)
    | .ct s h1 => .ct s (unlP h n h1)
    | r => r) else b sl h
  | none => b sl h
section
variable {Γ : Γ} {Wx : WX} {X : Cx} {g : G} {h : HS} {H : Hp} {sl : Sl} {σ : L2.St} {e : Expr} {f : Ex} {st : Stmt} {b : Sx}
/-- what follows is told of the heap where n is walked no more -/
def Unl (X : Cx) (H' : Hp) (P : Hp → Prop) : Prop := P H' ∨ ∃ d od u, H' d = some (.frz od u) ∧ (∀ o' u', X.H_0 d ≠ some (.frz o' u')) ∧ P (upd H' d u)
theorem unl_ok {n : Nat} {g1 : G} {h1 : HS} {H1 : Hp} {pins : List (Addr × Obj)} {s : Shared} (I : Inv X pins σ H s) (x : RH Γ g h H) (hd : isDic h n = true) (l : g.le g1) (y : RH Γ g1 h1 H1) {P : Hp → Prop}
    (q : ∀ g2 H2, g.le g2 → RH Γ g2 (unlP h n h1) H2 → (∀ w v, RW Γ.K g1 w v → RW Γ.K g2 w v) → P H2) : Unl X H1 P := by
  have e0 : ∃ ks ws, h.at_ n = some (.dic ks ws) := by
    unfold isDic at hd
    split at hd
    · rename_i ks ws e; exact ⟨ks, ws, e⟩
    · cases hd
  obtain ⟨ks0, ws0, e0⟩ := e0
  obtain ⟨hn, _, ok⟩ := x.cell n _ e0
  have ok' := ok
  obtain ⟨vs, d, _⟩ := ok'
  have hlk : g.lk (g.ρ n) = none := by
    cases q : g.lk (g.ρ n) with
    | none => rfl
    | some o => exact (nofrz ok (by intro _ _ z; cases z) (x.lks _ _ q).1 (x.lks _ _ q).2).elim
  have nf : ∀ o' u', X.H_0 (g.ρ n) ≠ some (.frz o' u') := by
    rcases d with ⟨kvs, q, _⟩ | ⟨kvs, q, _⟩
    · exact I.nofrz q trivial
    · exact I.nofrz q trivial
  unfold unlP at q
  split at q
  · rename_i ks ws e1
    obtain ⟨od, u, e2, l2, y2⟩ := y.unlockB l e1 hn hlk
    exact .inr ⟨_, od, u, e2, by rw [l.ρ n hn]; exact nf, q _ _ l2 y2 fun w v r => rw_hid (g := g1) (by rfl) (by rfl) (by rfl) r⟩
  · exact .inl (q g1 H1 l y fun _ _ r => r)
theorem Unl.inv {H' : Hp} {P : Hp → Prop} {pins : List (Addr × Obj)} {s : Shared} (u : Unl X H' P) (I : Inv X pins σ H' s) : ∃ H2, Inv X pins σ H2 s ∧ P H2 := by
  rcases u with p | ⟨d, od, u, e, n, p⟩
  · exact ⟨_, I, p⟩
  · exact ⟨_, I.unlock e n, p⟩
theorem e_unl (path : Sl → HS → Option Nat) (p : PE X e (RDE Γ Wx f)) : PE X e (RDE Γ Wx (eUnl path f)) := by
  refine ⟨fun pins s σ H Q I ⟨g, sl, h, hH, hS, q⟩ => ?_⟩
  unfold eUnl at q
  split at q
  · rename_i n _
    by_cases hd : isDic h n = true
    · rw [if_pos hd] at q
      have q2 : Rz Γ Wx (RW Γ.K) g (f sl h) σ (fun v H1 => Unl X H1 (fun H2 => Q v H2)) := by
        cases er : f sl h with
        | no => rw [er] at q; exact q.elim
        | exc c h1 => rw [er] at q; exact q
        | ok w h1 =>
          rw [er] at q
          have q : ∀ g' v H', g.le g' → RH Γ g' (unlP h n h1) H' → RW Γ.K g' w v → Q v H' := q
          exact fun g1 v H1 l1 hH1 r1 => unl_ok I hH hd l1 hH1 fun g2 H2 l2 y2 m => q g2 v H2 l2 y2 (m _ _ r1)
      refine thn (p.run pins s σ H (fun v H1 => Unl X H1 (fun H2 => Q v H2)) I ⟨g, sl, h, hH, hS, q2⟩) fun v s1 ⟨x, H1, I1, r1, q1⟩ => ?_
      obtain ⟨H2, I2, q3⟩ := q1.inv I1
      exact ⟨x, H2, I2, r1, q3⟩
    · rw [if_neg hd] at q
      exact p.run pins s σ H Q I ⟨g, sl, h, hH, hS, q⟩
  · exact p.run pins s σ H Q I ⟨g, sl, h, hH, hS, q⟩
theorem s_unl (path : Sl → HS → Option Nat) (p : PS X st (RDS Γ Wx b)) : PS X st (RDS Γ Wx (sUnl path b)) := by
  refine ⟨fun pins s σ H D I ⟨g, sl, h, hH, hS, q⟩ => ?_⟩
  unfold sUnl at q
  split at q
  · rename_i n _
    by_cases hd : isDic h n = true
    · rw [if_pos hd] at q
      have slm : ∀ {g1 g2 : G} {s1 : Sl} {σ1 : L2.St}, (∀ w v, RW Γ.K g1 w v → RW Γ.K g2 w v) → SLk Γ g1 s1 σ1 → SLk Γ g2 s1 σ1 := fun m h i w e => by
        obtain ⟨v, e1, r⟩ := h i w e
        exact ⟨v, e1, m _ _ r⟩
      have q2 : RzS Γ Wx g σ.length (b sl h) { nx := fun σ1 H1 => Unl X H1 (D.nx σ1), rt := fun v H1 => Unl X H1 (D.rt v), bk := fun σ1 H1 => Unl X H1 (D.bk σ1), ct := fun σ1 H1 => Unl X H1 (D.ct σ1) } := by
        cases er : b sl h with
        | no => rw [er] at q; exact q.elim
        | exc c s1 h1 => rw [er] at q; exact q
        | nx s1 h1 =>
          rw [er] at q
          have q : ∀ g' σ' H', g.le g' → RH Γ g' (unlP h n h1) H' → SLk Γ g' s1 σ' → σ'.length = σ.length → D.nx σ' H' := q
          exact fun g1 σ1 H1 l1 hH1 sk hl => unl_ok I hH hd l1 hH1 fun g2 H2 l2 y2 m => q g2 σ1 H2 l2 y2 (slm m sk) hl
        | bk s1 h1 =>
          rw [er] at q
          have q : ∀ g' σ' H', g.le g' → RH Γ g' (unlP h n h1) H' → SLk Γ g' s1 σ' → σ'.length = σ.length → D.bk σ' H' := q
          exact fun g1 σ1 H1 l1 hH1 sk hl => unl_ok I hH hd l1 hH1 fun g2 H2 l2 y2 m => q g2 σ1 H2 l2 y2 (slm m sk) hl
        | ct s1 h1 =>
          rw [er] at q
          have q : ∀ g' σ' H', g.le g' → RH Γ g' (unlP h n h1) H' → SLk Γ g' s1 σ' → σ'.length = σ.length → D.ct σ' H' := q
          exact fun g1 σ1 H1 l1 hH1 sk hl => unl_ok I hH hd l1 hH1 fun g2 H2 l2 y2 m => q g2 σ1 H2 l2 y2 (slm m sk) hl
        | rt w h1 =>
          rw [er] at q
          have q : ∀ g' v H', g.le g' → RH Γ g' (unlP h n h1) H' → RW Γ.K g' w v → D.rt v H' := q
          exact fun g1 v H1 l1 hH1 r1 => unl_ok I hH hd l1 hH1 fun g2 H2 l2 y2 m => q g2 v H2 l2 y2 (m _ _ r1)
      refine thn (p.run pins s σ H _ I ⟨g, sl, h, hH, hS, q2⟩) fun fl s1 hq => ?_
      cases fl with
      | next =>
        obtain ⟨σ1, H1, I1, q1⟩ := hq
        obtain ⟨H2, I2, q3⟩ := q1.inv I1
        exact ⟨σ1, H2, I2, q3⟩
      | brk =>
        obtain ⟨σ1, H1, I1, q1⟩ := hq
        obtain ⟨H2, I2, q3⟩ := q1.inv I1
        exact ⟨σ1, H2, I2, q3⟩
      | cont =>
        obtain ⟨σ1, H1, I1, q1⟩ := hq
        obtain ⟨H2, I2, q3⟩ := q1.inv I1
        exact ⟨σ1, H2, I2, q3⟩
      | ret u =>
        obtain ⟨v, σ1, H1, I1, rv, q1⟩ := hq
        obtain ⟨H2, I2, q3⟩ := q1.inv I1
        exact ⟨v, σ1, H2, I2, rv, q3⟩
    · rw [if_neg hd] at q
      exact p.run pins s σ H D I ⟨g, sl, h, hH, hS, q⟩
  · exact p.run pins s σ H D I ⟨g, sl, h, hH, hS, q⟩
end
end Pk
end

/-! PlC -/
section
set_option Elab.async false
set_option linter.all false
set_option maxRecDepth 100000
set_option maxHeartbeats 4000000
namespace Pk
open PySem PySem.Spec L2
/-! sum of a tuple -/
def smI (i : Int) : Bool := decide (i.natAbs ≤ 2 ^ 40)
section
variable {X : Cx}
theorem preSum_le (val : Nat → Int) (n : Nat) (h : ∀ j, j < n → (val j).natAbs ≤ 2 ^ 40) : ∀ j, j ≤ n → (preSum val j).natAbs ≤ j * 2 ^ 40
  | 0, _ => by simp [preSum]
  | j + 1, hj => by
    have h1 := preSum_le val n h j (by omega)
    have h2 := h j (by omega)
    simp only [preSum]
    have := Int.natAbs_add_le (preSum val j) (val j)
    have e : (j + 1) * 2 ^ 40 = j * 2 ^ 40 + 2 ^ 40 := by omega
    omega
theorem preSum_sum (ns : List Int) : ∀ j, j ≤ ns.length → preSum (fun i => ns.getD i 0) j = (ns.take j).sum
  | 0, _ => by simp [preSum]
  | j + 1, hj => by
    have hj' : j < ns.length := hj
    simp only [preSum]
    rw [preSum_sum ns j (by omega), List.take_succ, List.sum_append, List.getElem?_eq_getElem hj']
    simp [List.getD, List.getElem?_eq_getElem hj']
theorem cr_sumT (hc : X.calm = true) : CallR X (.builtin "sum") (fun vs H Q => ∃ (a : Addr) (ns : List Int), vs = [V.ref a] ∧ SqT X.K H a (ns.map V.int) ∧ (ns.all smI && decide (ns.length ≤ 2 ^ 20)) = true ∧ Q (.int ns.sum) H) := by
  intro pins s σ H vs us Q I r h
  obtain ⟨a, ns, rfl, hs, hz, q⟩ := h
  obtain ⟨its, rv, pl, _⟩ := I.tuple hs
  rw [Vals.ref1 r]
  simp only [Bool.and_eq_true, decide_eq_true_eq, List.all_eq_true] at hz
  obtain ⟨hz1, hz2⟩ := hz
  have hl : its.toArray.size = ns.length := by rw [List.size_toArray, ← rv.length, List.length_map]
  have alt : a < s.heap.objs.size := by
    obtain ⟨o, e, _⟩ := pl
    exact Heap.lt_size e
  refine PySem.call_sum_walk (wpAny_pyIter_tuple pl ?_)
  have hsz : ∀ o, (s.heap.push o).objs.size = s.heap.objs.size + 1 := fun o => Heap.size_push ..
  refine ⟨_, [_, a], [_], _, _, _, (fun i => ns.getD i 0), rfl, Walks.tuple (A := X.A.in1) (I.ok.hd hc) s.heap.objs.size a (Nat.ne_of_lt alt) its.toArray, ⟨⟨_, Heap.get?_push_size _ rfl, rfl, rfl⟩, pl.push _⟩, fun c hc => ?_, fun i v hv => ?_, fun j hj => ?_, fun h' tk t' hk => ?_⟩
  · show c < (s.heap.push _).objs.size
    rw [hsz]
    rcases List.mem_cons.mp hc with z | z
    · rw [z]; exact Nat.lt_succ_self _
    · rw [List.mem_singleton.mp z]; exact Nat.lt_succ_of_lt alt
  · have hv2 : its[i]? = some v := by simpa using hv
    have hi2 : i < its.length := (List.getElem?_eq_some_iff.mp hv2).1
    have hi3 : i < ns.length := by rw [← hl, List.size_toArray]; exact hi2
    obtain ⟨u, hu, ru⟩ := rv.get (i := i) (x := V.int ns[i]) (by simp [hi3])
    rw [hv2] at hu
    cases hu
    obtain ⟨t, e⟩ := (show ∃ t, v = Value.int ns[i] t from ru)
    exact ⟨t, by rw [e]; simp [List.getD, hi3]⟩
  · rw [hl] at hj
    have hb : ∀ j, j < ns.length → ((fun i => ns.getD i 0) j).natAbs ≤ 2 ^ 40 := fun j hj => by
      have := hz1 (ns[j]) (List.getElem_mem hj)
      unfold smI at this
      have e : (fun i => ns.getD i 0) j = ns[j] := by simp [List.getD, hj]
      rw [e]
      exact of_decide_eq_true this
    have h1 := hb j hj
    have h2 := preSum_le (fun i => ns.getD i 0) ns.length hb (j + 1) hj
    have h3 : (j + 1) * 2 ^ 40 ≤ 2 ^ 20 * 2 ^ 40 := Nat.mul_le_mul_right _ (by omega)
    unfold InLong
    constructor <;> omega
  · refine ⟨.int _, H, I.kept (h' := h') (t' := tk) fun b o e => hk b o (fun z => ?_) (Heap.get?_push_of_some _ e), ⟨_, rfl⟩, ?_⟩
    · rw [List.mem_singleton.mp z] at e
      exact Nat.lt_irrefl _ (Heap.lt_size e)
    · rw [hl, preSum_sum ns ns.length (Nat.le_refl _), List.take_of_length_le (Nat.le_refl _)]
      exact q
end
end Pk
end

/-! PlD -/
section
set_option Elab.async false
set_option linter.all false
set_option maxRecDepth 100000
set_option maxHeartbeats 4000000
namespace Pk
open PySem PySem.Spec L2
/-! sum -/
def m_sum (xs : List W) (h : HS) : R W := match xs with
  | [x] => (match lview h x with
    | some ws => (match intsOf ws with
      | some ns => .ok (.int ns.sum) h
      | none => .no)
    | none => (match x with
      | .tup ws => (match intsOf ws with
        | some ns => if (ns.all smI && decide (ns.length ≤ 2 ^ 20)) = true then .ok (.int ns.sum) h else .no
        | none => .no)
      | .kt ws => (match intsOf ws with
        | some ns => if (ns.all smI && decide (ns.length ≤ 2 ^ 20)) = true then .ok (.int ns.sum) h else .no
        | none => .no)
      | _ => .no))
  | _ => .no
/-! methods of texts -/
def MS1 (Γ : Γ) (Wx : WX) (X : Cx) (id : String) (m : Str → W → HS → R W) : Prop := ∃ r : V → List V → Hp → VK → Prop, MtR X id r ∧
  ∀ {g : G} {h : HS} {H : Hp} {σ : L2.St} {a : Str} {y : W} {vy : V} {Q : VK}, RH Γ g h H → RW Γ.K g y vy → Rz Γ Wx (RW Γ.K) g (m a y h) σ Q → r (.str a) [vy] H Q
def MS0 (Γ : Γ) (Wx : WX) (X : Cx) (id : String) (m : Str → HS → R W) : Prop := ∃ r : V → List V → Hp → VK → Prop, MtR X id r ∧
  ∀ {g : G} {h : HS} {H : Hp} {σ : L2.St} {a : Str} {Q : VK}, RH Γ g h H → Rz Γ Wx (RW Γ.K) g (m a h) σ Q → r (.str a) [] H Q
def asS (m : Str → HS → R W) (w : W) (h : HS) : R W := match w with
  | .str a => m a h
  | _ => .no
def eS1 (m : Str → W → HS → R W) (fo fe : Ex) : Ex := fun sl h => (fo sl h).bind fun x h1 => match x with
  | .str a => (fe sl h1).bind fun y h2 => m a y h2
  | _ => .no
def eS0 (m : Str → HS → R W) (fo : Ex) : Ex := fun sl h => (fo sl h).bind fun x h1 => asS m x h1
def m_startswith (a : Str) (y : W) (h : HS) : R W := match y with
  | .str b => .ok (.bl (Txt.startswith a b)) h
  | _ => .no
def m_partition (a : Str) (y : W) (h : HS) : R W := match y with
  | .str b => if b.length ≠ 0 ∧ a.length ≤ sizeLine then .ok (.tup [.str (Txt.partition a b).1, .str (Txt.partition a b).2.1, .str (Txt.partition a b).2.2]) h else .no
  | _ => .no
/-! tuple.index of a text -/
def strsOf : List W → Option (List Str)
  | [] => some []
  | .str i :: ws => (strsOf ws).map (i :: ·)
  | _ => none
def ixOf (z : Str) : List Str → Option Nat
  | [] => none
  | y :: ys => if y = z then some 0 else (ixOf z ys).map (· + 1)
/-! f-strings -/
def fmtW (w : W) (h : HS) : R W := match w with
  | .str y => if y.length ≤ sizeLine then .ok (.str y) h else .no
  | .int i => if i.natAbs.log2 < 1920 then .ok (.str (toString i)) h else .no
  | _ => .no
def eFmt (f : Ex) : Ex := fun sl h => (f sl h).bind fmtW
def eJs : List Ex → Str → Ex
  | [], acc => fun _ h => .ok (.str acc) h
  | f :: fs, acc => fun sl h => (f sl h).bind fun x h1 => match x with
    | .str y => if (acc ++ y).length ≤ sizeLine then eJs fs (acc ++ y) sl h1 else .no
    | _ => .no
section
variable {Γ : Γ} {Wx : WX} {X : Cx} {g : G} {h : HS} {H : Hp} {σ : L2.St} {o e f1 : Expr} {fo fe : Ex} {apos pos : Pos} {id : String} {name : Str}
theorem ints_ok {K : PySem.W.Frag} : ∀ {ws : List W} {ns : List Int} {vs : List V}, intsOf ws = some ns → RWs K g ws vs → vs = ns.map V.int
  | [], _, vs, e, r => by cases e; unfold RWs at r; rw [r]; rfl
  | .int i :: ws, ns, vs, e, r => by
    have e' : (intsOf ws).map (i :: ·) = some ns := e
    cases q : intsOf ws with
    | none => rw [q] at e'; cases e'
    | some ms =>
      rw [q] at e'
      cases e'
      unfold RWs at r
      obtain ⟨v, vr, rfl, r1, rs⟩ := r
      rw [ints_ok q rs, rint r1]
      rfl
  | .non :: _, _, _, e, _ => by cases e
  | .bl _ :: _, _, _, e, _ => by cases e
  | .str _ :: _, _, _, e, _ => by cases e
  | .tup _ :: _, _, _, e, _ => by cases e
  | .lst _ :: _, _, _, e, _ => by cases e
  | .dic _ _ :: _, _, _, e, _ => by cases e
  | .box _ :: _, _, _, e, _ => by cases e
  | .scr _ :: _, _, _, e, _ => by cases e
  | .kt _ :: _, _, _, e, _ => by cases e
  | .tx _ :: _, _, _, e, _ => by cases e
theorem strs_ok {K : PySem.W.Frag} : ∀ {ws : List W} {ns : List Str} {vs : List V}, strsOf ws = some ns → RWs K g ws vs → vs = ns.map V.str
  | [], _, vs, e, r => by cases e; unfold RWs at r; rw [r]; rfl
  | .str i :: ws, ns, vs, e, r => by
    have e' : (strsOf ws).map (i :: ·) = some ns := e
    cases q : strsOf ws with
    | none => rw [q] at e'; cases e'
    | some ms =>
      rw [q] at e'
      cases e'
      unfold RWs at r
      obtain ⟨v, vr, rfl, r1, rs⟩ := r
      rw [strs_ok q rs, rstr r1]
      rfl
  | .non :: _, _, _, e, _ => by cases e
  | .bl _ :: _, _, _, e, _ => by cases e
  | .int _ :: _, _, _, e, _ => by cases e
  | .tup _ :: _, _, _, e, _ => by cases e
  | .lst _ :: _, _, _, e, _ => by cases e
  | .dic _ _ :: _, _, _, e, _ => by cases e
  | .box _ :: _, _, _, e, _ => by cases e
  | .scr _ :: _, _, _, e, _ => by cases e
  | .kt _ :: _, _, _, e, _ => by cases e
  | .tx _ :: _, _, _, e, _ => by cases e
theorem c_sum (hK : X.K = Γ.K) (hc : X.calm = true) : CallS Γ Wx X (.builtin "sum") m_sum := by
  refine ⟨_, (cr_sum hc).or (cr_sumT hc), fun {g h H σ xs vs Q} hH r q => ?_⟩
  unfold m_sum at q
  split at q
  · obtain ⟨v, rfl, r1⟩ := rws1 r
    split at q
    · rename_i ws e1
      split at q
      · rename_i ns e2
        obtain ⟨a, us, rfl, s, rs⟩ := lview_ok hH r1 e1
        rw [ints_ok e2 rs] at s
        exact .inl ⟨a, ns, rfl, by rw [hK]; exact SqL.of s, rz_now q hH (mint _)⟩
      · exact q.elim
    · split at q
      · split at q
        · rename_i ns e2
          split at q
          · rename_i hz
            obtain ⟨a, us, rfl, s, rs⟩ := tup_ok hH r1
            rw [ints_ok e2 rs] at s
            exact .inr ⟨a, ns, rfl, by rw [hK]; exact s, hz, rz_now q hH (mint _)⟩
          · exact q.elim
        · exact q.elim
      · split at q
        · rename_i ns e2
          split at q
          · rename_i hz
            obtain ⟨a, us, rfl, s, rs⟩ := kt_ok hH r1
            rw [ints_ok e2 rs] at s
            exact .inr ⟨a, ns, rfl, by rw [hK]; exact s, hz, rz_now q hH (mint _)⟩
          · exact q.elim
        · exact q.elim
      · exact q.elim
  · exact q.elim
theorem e_s1 {m : Str → W → HS → R W} (M : MS1 Γ Wx X id m) (slot : Slot "str" name id) (ty : typeOf (.builtin id) = pure (.type "method_descriptor")) (ho : PE X o (RDE Γ Wx fo)) (he : PE X e (RDE Γ Wx fe))
    (hs : starEach [e] X.env = [(false, eval e X.env)] := by rfl) (hbase : attributeBase o name X.env (eval o X.env) = eval o X.env := by rfl) (hline : (apos.endLine == pos.line) = true := by rfl) :
    PE X (.Call (.Attribute o name apos) [e] [] pos) (RDE Γ Wx (eS1 m fo fe)) := by
  obtain ⟨r, m1, m2⟩ := M
  refine PE.imp (pe_m1 slot ty m1 ho he hs hbase hline) fun σ H Q ⟨g, sl, h, hH, hS, q⟩ => ?_
  refine RDE.mono (fun v H1 ⟨g1, h1, w1, l1, hH1, r1, q1⟩ => ?_) (RDE.step hH hS q)
  cases w1 with
  | str a =>
    obtain rfl := rstr r1
    refine ⟨⟨a, rfl⟩, RDE.mono (fun v2 H2 ⟨g2, h2, w2, l2, hH2, r2, q2⟩ => ?_) (RDE.step hH1 (SLk.mono l1 hS) q1)⟩
    exact m2 hH2 r2 q2
  | _ => exact q1.elim
theorem e_s0 {m : Str → HS → R W} (M : MS0 Γ Wx X id m) (slot : Slot "str" name id) (ty : typeOf (.builtin id) = pure (.type "method_descriptor")) (ho : PE X o (RDE Γ Wx fo))
    (hbase : attributeBase o name X.env (eval o X.env) = eval o X.env := by rfl) (hline : (apos.endLine == pos.line) = true := by rfl) :
    PE X (.Call (.Attribute o name apos) [] [] pos) (RDE Γ Wx (eS0 m fo)) := by
  obtain ⟨r, m1, m2⟩ := M
  refine PE.imp (pe_m0 slot ty m1 ho hbase hline) fun σ H Q ⟨g, sl, h, hH, hS, q⟩ => ?_
  refine RDE.mono (fun v H1 ⟨g1, h1, w1, l1, hH1, r1, q1⟩ => ?_) (RDE.step hH hS q)
  cases w1 with
  | str a =>
    obtain rfl := rstr r1
    exact ⟨⟨a, rfl⟩, m2 hH1 q1⟩
  | _ => exact q1.elim
theorem ms_startswith : MS1 Γ Wx X "str.startswith" m_startswith := by
  refine ⟨_, mt_startswith, fun {g h H σ a y vy Q} hH r q => ?_⟩
  unfold m_startswith at q
  cases y with
  | str b =>
    obtain rfl := rstr r
    exact ⟨a, b, rfl, rfl, rz_now q hH (mbl _)⟩
  | _ => exact q.elim
theorem ms_partition : MS1 Γ Wx X "str.partition" m_partition := by
  refine ⟨_, mt_partition, fun {g h H σ a y vy Q} hH r q => ?_⟩
  unfold m_partition at q
  cases y with
  | str b =>
    obtain rfl := rstr r
    by_cases hb : b.length ≠ 0 ∧ a.length ≤ sizeLine
    · have q : Rz Γ Wx (RW Γ.K) g (if b.length ≠ 0 ∧ a.length ≤ sizeLine then .ok (.tup [.str (Txt.partition a b).1, .str (Txt.partition a b).2.1, .str (Txt.partition a b).2.2]) h else .no) σ Q := q
      rw [if_pos hb] at q
      exact ⟨a, b, rfl, rfl, by simpa using hb.1, hb.2, fun p hp => mkT_ok hH hp (.cons (mstr _) (.cons (mstr _) (.cons (mstr _) .nil))) q⟩
    · have q : Rz Γ Wx (RW Γ.K) g (if b.length ≠ 0 ∧ a.length ≤ sizeLine then .ok (.tup [.str (Txt.partition a b).1, .str (Txt.partition a b).2.1, .str (Txt.partition a b).2.2]) h else .no) σ Q := q
      rw [if_neg hb] at q
      exact q.elim
  | _ => exact q.elim
theorem e_fmt (p : PE X e (RDE Γ Wx fe)) : PE X (.FormattedValue e (-1) none pos) (RDE Γ Wx (eFmt fe)) := by
  refine PE.imp (pe_fmt p) fun σ H Q ⟨g, sl, h, hH, hS, q⟩ => ?_
  refine RDE.mono (fun v H1 ⟨g1, h1, w1, l1, hH1, r1, q1⟩ => ?_) (RDE.step hH hS q)
  unfold fmtW at q1
  split at q1
  · split at q1
    · rename_i y hz
      exact .inl ⟨y, rstr r1, hz, rz_now q1 hH1 (mstr _)⟩
    · exact q1.elim
  · split at q1
    · rename_i i hz
      exact .inr ⟨i, rint r1, hz, rz_now q1 hH1 (mstr _)⟩
    · exact q1.elim
  · exact q1.elim
inductive FJ (Γ : Pk.Γ) (Wx : WX) (X : Cx) : List Expr → List Ex → Prop where
  | nil : FJ Γ Wx X [] []
  | cons {e : Expr} {f : Ex} {es : List Expr} {fs : List Ex} (h : PE X e (RDE Γ Wx f)) (r : FJ Γ Wx X es fs) : FJ Γ Wx X (e :: es) (f :: fs)
theorem FJ.pj {es : List Expr} {fs : List Ex} (h : FJ Γ Wx X es fs) : PJ X es (fs.map (RDE Γ Wx)) := by
  induction h with
  | nil => exact .nil
  | cons h r ih => exact .cons h ih
theorem js_rd {σ : L2.St} {Q : VK} {sl : Sl} : ∀ {fs : List Ex} {acc : Str} {g : G} {h : HS} {H : Hp}, RH Γ g h H → SLk Γ g sl σ → Rz Γ Wx (RW Γ.K) g (eJs fs acc sl h) σ Q → tJs (fs.map (RDE Γ Wx)) acc σ H fun out H1 => Q (.str out) H1
  | [], acc, g, h, H, hH, hS, q => rz_now q hH (mstr _)
  | f :: fs, acc, g, h, H, hH, hS, q => by
    show RDE Γ Wx f σ H _
    refine RDE.mono (fun v H1 ⟨g1, h1, w1, l1, hH1, r1, q1⟩ => ?_) (RDE.step hH hS q)
    cases w1 with
    | str y =>
      by_cases hz : (acc ++ y).length ≤ sizeLine
      · have q1 : Rz Γ Wx (RW Γ.K) g1 (if (acc ++ y).length ≤ sizeLine then eJs fs (acc ++ y) sl h1 else .no) σ Q := q1
        rw [if_pos hz] at q1
        exact ⟨y, rstr r1, hz, js_rd hH1 (SLk.mono l1 hS) q1⟩
      · have q1 : Rz Γ Wx (RW Γ.K) g1 (if (acc ++ y).length ≤ sizeLine then eJs fs (acc ++ y) sl h1 else .no) σ Q := q1
        rw [if_neg hz] at q1
        exact q1.elim
    | _ => exact q1.elim
theorem e_joined {v1 v2 : Expr} {rest : List Expr} {fs : List Ex} (h : FJ Γ Wx X (v1 :: v2 :: rest) fs) : PE X (.JoinedStr (v1 :: v2 :: rest) pos) (RDE Γ Wx (eJs fs Str.empty)) :=
  PE.imp (pe_joined h.pj) fun σ H Q ⟨g, sl, h, hH, hS, q⟩ => js_rd hH hS q
theorem e_joined1 (p : PE X e (RDE Γ Wx fe)) : PE X (.JoinedStr [e] pos) (RDE Γ Wx fe) := pe_joined1 p
end
end Pk
end

/-! PlE -/
section
set_option Elab.async false
set_option linter.all false
set_option maxRecDepth 100000
set_option maxHeartbeats 4000000
namespace Pk
open PySem PySem.Spec L2
/-! d.get(k, x) -/
def eGet2 (fo fk fx : Ex) : Ex := fun sl h => (fo sl h).bind fun d h1 => match dview h1 d with
  | none => .no
  | some _ => (fk sl h1).bind fun k h2 => (fx sl h2).bind fun x h3 => match dget h3 d k with
    | some (some v) => .ok v h3
    | some none => .ok x h3
    | none => .no
def eGet1 (fo fk : Ex) : Ex := fun sl h => (fo sl h).bind fun d h1 => match dview h1 d with
  | none => .no
  | some _ => (fk sl h1).bind fun k h2 => match dget h2 d k with
    | some (some v) => .ok v h2
    | some none => .ok .non h2
    | none => .no
/-! dict displays with flat keys, dict(list of pairs), list(d.items()) -/
def putP (p : List DK × List W) (j : DK) (y : W) : List DK × List W := (dputK p.1 j, dputW p.1 p.2 j y)
def mergeP : List (Key × W) → List DK × List W → List DK × List W
  | [], p => p
  | (k, y) :: r, p => mergeP r (putP p (.k k) y)
def prsM : List (Ex × Ex) → Sl → HS → R (List (Key × W))
  | [], _, h => .ok [] h
  | (fk, fv) :: r, sl, h => (noX (fk sl h)).bind fun k h1 => (noX (fv sl h1)).bind fun v h2 => match kOf k with
    | some (.k j) => (prsM r sl h2).bind fun ps h3 => .ok ((j, v) :: ps) h3
    | _ => .no
def eDisp (bx : Bool) (prs : List (Ex × Ex)) : Ex := fun sl h => (prsM prs sl h).bind fun ps h1 => if ps.length ≤ 15 then mkD bx (mergeP ps ([], [])).1 (mergeP ps ([], [])).2 h1 else .no
def eDnew (bx : Bool) : Ex := fun _ h => mkD bx [] [] h
def pairsOf : List W → Option (List (Key × W))
  | [] => some []
  | .tup [k, v] :: ws => (match kOf k, pairsOf ws with
    | some (.k j), some ps => some ((j, v) :: ps)
    | _, _ => none)
  | _ => none
def m_dict (bx : Bool) (xs : List W) (h : HS) : R W := match xs with
  | [x] => (match lview h x with
    | some ws => (match pairsOf ws with
      | some ps => mkD bx (mergeP ps ([], [])).1 (mergeP ps ([], [])).2 h
      | none => .no)
    | none => .no)
  | _ => .no
def eItemsL (bx : Bool) (f : Ex) : Ex := fun sl h => (f sl h).bind fun d h1 => match dview h1 d with
  | some (ks, ws) => if flatK ks then mkL bx ((ks.zip ws).map fun p => .tup [dkW p.1, p.2]) h1 else .no
  | none => .no
section
variable {Γ : Γ} {Wx : WX} {X : Cx} {g : G} {h : HS} {H : Hp} {σ : L2.St} {o e f : Expr} {fo fe fx : Ex} {apos pos p : Pos}
theorem isD_of {a : Addr} {ks : List DK} {vs : List V} (d : DctR H a ks vs) : IsD H a := by
  rcases d with ⟨kvs, e, _⟩ | ⟨kvs, e, _⟩
  · exact .inl ⟨kvs, e⟩
  · exact .inr ⟨kvs, e⟩
theorem e_get2 (hu : X.A.units + 1 < cLine) (ho : PE X o (RDE Γ Wx fo)) (he : PE X e (RDE Γ Wx fe)) (hf : PE X f (RDE Γ Wx fx)) (m : M2 X o "get" apos e f pos) : PE X (.Call (.Attribute o "get" apos) [e, f] [] pos) (RDE Γ Wx (eGet2 fo fe fx)) := by
  refine ⟨fun pins s σ H Q I ⟨g, sl, h, hH, hS, q⟩ => ?_⟩
  refine wpAny_Call_method m.base m.few m.line PySem.F.plainAttrs_dict PySem.F.slot_dict_get PySem.F.type_dict_get (thn (ho.run pins s σ H _ I (RDE.step hH hS q)) fun u s1 ⟨x, H1, I1, rx, g1, h1, w1, l1, hH1, rw1, q1⟩ => ?_)
  cases ed : dview h1 w1 with
  | none => rw [ed] at q1; exact q1.elim
  | some kw =>
    obtain ⟨ks, ws⟩ := kw
    rw [ed] at q1
    obtain ⟨a, vs, ex, dr, _⟩ := dview_ok hH1 rw1 ed
    subst ex
    obtain rfl : u = Value.ref a := rx
    obtain ⟨t1, t2, _⟩ := isD_at I1 (isD_of dr)
    refine ⟨t1, t2, ?_⟩
    rw [m.trees]
    refine Calls.callWith_builtin rfl (Calls.evalArgs_plain (Calls.spliced_cons (thn (he.run pins s1 σ H1 _ I1 (RDE.step hH1 (SLk.mono l1 hS) q1)) fun iv s2 ⟨y, H2, I2, ry, g2, h2, w2, l2, hH2, rw2, q2⟩ =>
      Calls.spliced_cons (thn (hf.run pins s2 σ H2 _ I2 (RDE.step hH2 (SLk.mono (l1.trans l2) hS) q2)) fun fv s3 ⟨z, H3, I3, rz, g3, h3, w3, l3, hH3, rw3, q3⟩ => Calls.spliced_nil ?_))))
    cases eg : dget h3 w1 w2 with
    | none => rw [eg] at q3; exact q3.elim
    | some r =>
      rw [eg] at q3
      obtain ⟨a', ov, ea, dg, ro⟩ := dget_ok hH3 (RW.mono (l2.trans l3) _ _ rw1) (RW.mono l3 _ _ rw2) eg
      cases ea
      refine dg_get2 hu I3 dg ry rz fun w' s4 I4 rw' => ⟨_, H3, I4, rw', ?_⟩
      cases r with
      | none =>
        cases ov with
        | none => exact rz_now q3 hH3 rw3
        | some v => exact ro.elim
      | some w =>
        cases ov with
        | none => exact ro.elim
        | some v => exact rz_now q3 hH3 ro
end
end Pk
end

/-! PlF -/
section
set_option Elab.async false
set_option linter.all false
set_option maxRecDepth 100000
set_option maxHeartbeats 4000000
namespace Pk
open PySem PySem.Spec L2
section
variable {Γ : Γ} {Wx : WX} {X : Cx} {g : G} {h : HS} {H : Hp} {σ : L2.St} {o e f : Expr} {fo fe fx : Ex} {apos pos p cpos : Pos}
theorem e_get1 (hu : X.A.units + 1 < cLine) (ho : PE X o (RDE Γ Wx fo)) (he : PE X e (RDE Γ Wx fe)) (m : M1 X o "get" apos e pos) : PE X (.Call (.Attribute o "get" apos) [e] [] pos) (RDE Γ Wx (eGet1 fo fe)) := by
  refine ⟨fun pins s σ H Q I ⟨g, sl, h, hH, hS, q⟩ => ?_⟩
  refine wpAny_Call_method m.base m.few m.line PySem.F.plainAttrs_dict PySem.F.slot_dict_get PySem.F.type_dict_get (thn (ho.run pins s σ H _ I (RDE.step hH hS q)) fun u s1 ⟨x, H1, I1, rx, g1, h1, w1, l1, hH1, rw1, q1⟩ => ?_)
  cases ed : dview h1 w1 with
  | none => rw [ed] at q1; exact q1.elim
  | some kw =>
    obtain ⟨ks, ws⟩ := kw
    rw [ed] at q1
    obtain ⟨a, vs, ex, dr, _⟩ := dview_ok hH1 rw1 ed
    subst ex
    obtain rfl : u = Value.ref a := rx
    obtain ⟨t1, t2, _⟩ := isD_at I1 (isD_of dr)
    refine ⟨t1, t2, ?_⟩
    rw [m.trees]
    refine Calls.callWith_builtin rfl (Calls.evalArgs_plain (Calls.spliced_cons (thn (he.run pins s1 σ H1 _ I1 (RDE.step hH1 (SLk.mono l1 hS) q1)) fun iv s2 ⟨y, H2, I2, ry, g2, h2, w2, l2, hH2, rw2, q2⟩ =>
      Calls.spliced_nil ?_)))
    cases eg : dget h2 w1 w2 with
    | none => rw [eg] at q2; exact q2.elim
    | some r =>
      rw [eg] at q2
      obtain ⟨a', ov, ea, dg, ro⟩ := dget_ok hH2 (RW.mono l2 _ _ rw1) rw2 eg
      cases ea
      refine dg_get1 hu I2 dg ry fun w' s4 I4 rw' => ⟨_, H2, I4, rw', ?_⟩
      cases r with
      | none =>
        cases ov with
        | none => exact rz_now q2 hH2 mnon
        | some v => exact ro.elim
      | some w =>
        cases ov with
        | none => exact ro.elim
        | some v => exact rz_now q2 hH2 ro
theorem e_dnew (bx : Bool) : PE X (.Dict [] [] pos) (RDE Γ Wx (eDnew bx)) :=
  PE.imp pe_dnewK fun σ H Q ⟨g, sl, h, hH, hS, q⟩ => fun p hp => mkD_ok hH hp (.inl ⟨[], upd_same, rfl, rfl⟩) .nil q
/-- pairs' judgements -/
inductive DJ (Γ : Pk.Γ) (Wx : WX) (X : Cx) (pos : Pos) : List (Option Expr) → List Expr → List (Ex × Ex) → Prop where
  | nil : DJ Γ Wx X pos [] [] []
  | cons {k v : Expr} {fk fv : Ex} {ks : List (Option Expr)} {vs : List Expr} {r : List (Ex × Ex)} (hk : PE X k (RDE Γ Wx fk)) (hv : PE X v (RDE Γ Wx fv)) (hr : DJ Γ Wx X pos ks vs r) : DJ Γ Wx X pos (some k :: ks) (v :: vs) ((fk, fv) :: r)
theorem DJ.pps {ks : List (Option Expr)} {vs : List Expr} {r : List (Ex × Ex)} (h : DJ Γ Wx X pos ks vs r) : PPs X pos ks vs (r.map fun p => (RDE Γ Wx p.1, RDE Γ Wx p.2)) := by
  induction h with
  | nil => exact pps_nil
  | cons hk hv hr ih => exact pps_cons hk hv ih
def PrsV (K : PySem.W.Frag) (g : G) : List (Key × W) → List (V × V) → Prop
  | [], vs => vs = []
  | (k, w) :: r, vs => ∃ v vr, vs = (kV k, v) :: vr ∧ RW K g w v ∧ PrsV K g r vr
theorem PrsV.mono {K : PySem.W.Frag} {g g' : G} (l : g.le g') : ∀ {ps : List (Key × W)} {vs : List (V × V)}, PrsV K g ps vs → PrsV K g' ps vs
  | [], _, h => h
  | (k, w) :: r, _, ⟨v, vr, e, r1, r2⟩ => ⟨v, vr, e, RW.mono l _ _ r1, PrsV.mono l r2⟩
theorem kOf_flat {K : PySem.W.Frag} {g : G} {w : W} {v : V} {j : Key} (e : kOf w = some (.k j)) (r : RW K g w v) : v = kV j := by
  cases w with
  | int i => cases e; exact rint r
  | str i => cases e; exact rstr r
  | tup ws =>
    have e2 : (keysOf ws).map DK.t = some (.k j) := e
    cases q : keysOf ws with
    | none => rw [q] at e2; cases e2
    | some l => rw [q] at e2; cases e2
  | _ => cases e
theorem Rz.w0 {α β : Type} {Rl : G → α → β → Prop} {r : R α} {Q : β → Hp → Prop} (x : Rz Γ W0 Rl g r σ Q) : Rz Γ Wx Rl g r σ Q := by
  cases r with
  | ok w h => exact x
  | exc c h => exact fun g' H' l y => (x g' H' l y).elim
  | no => exact x
theorem prs_rd {α β : Type} {Rl : G → α → β → Prop} {σ : L2.St} {Q : β → Hp → Prop} {sl : Sl} {RR : List (V × V) → Hp → Prop} {g0 : G} : ∀ {prs : List (Ex × Ex)} {g : G} {h : HS} {H : Hp} {k : List (Key × W) → HS → R α}, RH Γ g h H → SLk Γ g sl σ → Rz Γ Wx Rl g0 ((prsM prs sl h).bind k) σ Q →
    (∀ g' h' H' ps vs, g.le g' → RH Γ g' h' H' → PrsV Γ.K g' ps vs → Rz Γ Wx Rl g0 (k ps h') σ Q → RR vs H') → tPairs (prs.map fun p => (RDE Γ Wx p.1, RDE Γ Wx p.2)) σ H RR
  | [], g, h, H, k, hH, hS, q, fin => fin g h H [] [] (.refl g) hH rfl q
  | (fk, fv) :: r, g, h, H, k, hH, hS, q, fin => by
    have bb : ∀ {α β γ : Type} (r : Pk.R α) (k : α → HS → Pk.R β) (k2 : β → HS → Pk.R γ), (r.bind k).bind k2 = r.bind fun a h => (k a h).bind k2 := fun r k k2 => by cases r <;> rfl
    unfold prsM at q
    rw [bb] at q
    refine ⟨g, sl, h, hH, hS, Rz.w0 (Rz.mono (fun v1 H1 ⟨g1, h1, w1, l1, hH1, r1, q1⟩ => ?_) (rz_noX σ g q))⟩
    rw [bb] at q1
    refine ⟨g1, sl, h1, hH1, SLk.mono l1 hS, Rz.w0 (Rz.mono (fun v2 H2 ⟨g2, h2, w2, l2, hH2, r2, q2⟩ => ?_) (rz_noX σ g1 q1))⟩
    split at q2
    · rename_i j ej
      rw [bb] at q2
      have ev := kOf_flat ej (RW.mono l2 _ _ r1)
      refine prs_rd (k := fun ps h3 => k ((j, w2) :: ps) h3) hH2 (SLk.mono (l1.trans l2) hS) q2 fun g' h' H' ps vs l3 hH3 pv q3 => ?_
      exact fin g' h' H' ((j, w2) :: ps) ((v1, v2) :: vs) (l1.trans (l2.trans l3)) hH3 ⟨v2, vs, by rw [ev], RW.mono l3 _ _ r2, pv⟩ q3
    · exact q2.elim
theorem merge_ok {K : PySem.W.Frag} {g : G} : ∀ {ps : List (Key × W)} {vs : List (V × V)} {kvs : List (Key × V)} {kw : List DK × List W}, PrsV K g ps vs → kw.1 = kvs.map (fun p => DK.k p.1) → RWs K g kw.2 (kvs.map (·.2)) →
    ∃ more : List (Key × V), vs = more.map (fun kv => (kV kv.1, kv.2)) ∧ more.length = ps.length ∧ (mergeP ps kw).1 = (mergeK kvs more).map (fun p => DK.k p.1) ∧ RWs K g (mergeP ps kw).2 ((mergeK kvs more).map (·.2))
  | [], vs, kvs, kw, pv, e1, e2 => by
    have pv : vs = [] := pv
    subst pv
    exact ⟨[], rfl, rfl, e1, e2⟩
  | (k, w) :: r, vs, kvs, kw, ⟨v, vr, e, r1, pv⟩, e1, e2 => by
    subst e
    obtain ⟨kk, kws⟩ := kw
    have e1 : kk = kvs.map (fun p => DK.k p.1) := e1
    subst e1
    obtain ⟨p1, p2⟩ := putK_put (v := v) kinj r1 (j := k) (ws := kws) e2
    have p1 : (putP (kvs.map (fun p => DK.k p.1), kws) (.k k) w).1 = (putK kvs k v).map (fun p => DK.k p.1) := p1
    have p2 : RWs K g (putP (kvs.map (fun p => DK.k p.1), kws) (.k k) w).2 ((putK kvs k v).map (·.2)) := p2
    obtain ⟨more, m1, m2, m3, m4⟩ := merge_ok (kvs := putK kvs k v) (kw := putP (kvs.map (fun p => DK.k p.1), kws) (.k k) w) pv p1 p2
    exact ⟨(k, v) :: more, by rw [m1]; rfl, by simp [m2], m3, m4⟩
theorem e_disp (bx : Bool) {keys : List (Option Expr)} {values : List Expr} {prs : List (Ex × Ex)} (hp : DJ Γ Wx X pos keys values prs) (hall : keys.all (·.isSome) = true := by rfl) (hl : keys.length = values.length := by rfl) (h0 : keys ≠ [] := by simp) (h15 : keys.length ≤ 15 := by decide) : PE X (.Dict keys values pos) (RDE Γ Wx (eDisp bx prs)) := by
  refine PE.imp (pe_disp hp.pps hall hl h0 h15) fun σ H Q ⟨g, sl, h, hH, hS, q⟩ => ?_
  intro p hpn
  have nD := hH.noHid hpn
  obtain ⟨l0, y0, z0⟩ := hH.hide hpn (o := .dK []) trivial
  refine prs_rd y0 (SLk.mono l0 hS) q fun g' h' H' ps vs l1 y1 pv q1 => ?_
  have z1 : g'.hid p = some (.dK []) := l1.hid _ _ z0
  refine ⟨(y1.hd p _ z1).1, ?_⟩
  by_cases hz : ps.length ≤ 15
  · rw [if_pos hz] at q1
    obtain ⟨more, e1, e2, e3, e4⟩ := merge_ok (kvs := []) (kw := ([], [])) pv rfl .nil
    refine ⟨more, e1, by omega, ?_⟩
    obtain ⟨y2, z2⟩ := y1.rehide z1 (o' := .dK (mergeK [] more)) trivial
    have l2 : g.le (g'.hide p (.dK (mergeK [] more))) := hide_le (l0.trans l1) nD
    have e5 : RWs Γ.K (g'.hide p (.dK (mergeK [] more))) (mergeP ps ([], [])).2 ((mergeK [] more).map (·.2)) := rws_hid (g := g') (by rfl) (by rfl) (by rfl) e4
    have dd : DctH (upd H' p (.dK (mergeK [] more))) p (mergeP ps ([], [])).1 ((mergeK [] more).map (·.2)) := .inl ⟨mergeK [] more, upd_same, e3, rfl⟩
    cases bx with
    | true =>
      obtain ⟨g2, l3, y3, r3⟩ := y2.showB (c := .dic (mergeP ps ([], [])).1 (mergeP ps ([], [])).2) z2 ⟨_, dd, e5⟩ l2 nD
      exact q1 g2 _ _ l3 y3 r3
    | false =>
      obtain ⟨g2, l3, y3, f3, _, m3⟩ := y2.show_ z2 l2 nD
      refine q1 g2 _ _ l3 y3 ?_
      unfold RW
      exact ⟨p, _, rfl, .inl ⟨_, f3, e3, rfl⟩, m3 _ _ e5⟩
  · rw [if_neg hz] at q1
    exact q1.elim
end
end Pk
end

/-! PlG -/
section
set_option Elab.async false
set_option linter.all false
set_option maxRecDepth 100000
set_option maxHeartbeats 4000000
namespace Pk
open PySem PySem.Spec L2
section
variable {Γ : Γ} {Wx : WX} {X : Cx} {g : G} {h : HS} {H : Hp} {σ : L2.St} {o e f : Expr} {fo fe fx : Ex} {apos pos p cpos : Pos}
theorem pairs_ok : ∀ {ws : List W} {ps : List (Key × W)} {vs : List V}, RH Γ g h H → pairsOf ws = some ps → RWs Γ.K g ws vs → ∃ (as : List Addr) (prs : List (V × V)) (kvs : List (Key × V)), vs = as.map V.ref ∧ PrsV Γ.K g ps (kvs.map fun kv => (kV kv.1, kv.2)) ∧ Paired (fun p kv => SqT Γ.K H p [kV kv.1, kv.2]) as kvs
  | [], ps, vs, hH, e, r => by
    cases e
    unfold RWs at r
    subst r
    exact ⟨[], [], [], rfl, rfl, .nil⟩
  | .tup [k, w] :: ws, ps, vs, hH, e, r => by
    have e' : (match kOf k, pairsOf ws with
      | some (.k j), some ps => some ((j, w) :: ps)
      | _, _ => none) = some ps := e
    unfold RWs at r
    obtain ⟨v, vr, rfl, r1, rs⟩ := r
    cases q1 : kOf k with
    | none => rw [q1] at e'; cases e'
    | some j =>
      cases q2 : pairsOf ws with
      | none => rw [q1, q2] at e'; cases j <;> cases e'
      | some ps' =>
        rw [q1, q2] at e'
        cases j with
        | t l => cases e'
        | k j =>
          cases e'
          obtain ⟨as, prs, kvs, z1, z2, z3⟩ := pairs_ok hH q2 rs
          obtain ⟨a, us, rfl, st, rs2⟩ := tup_ok hH r1
          obtain ⟨v1, v2, rfl, r2, r3⟩ := rws2 rs2
          have ev := kOf_flat q1 r2
          refine ⟨a :: as, [], (j, v2) :: kvs, by rw [z1]; rfl, ⟨v2, _, rfl, r3, z2⟩, .cons (by rw [← ev]; exact st) z3⟩
  | .tup [] :: ws, _, _, _, e, _ => by cases e
  | .tup [_] :: ws, _, _, _, e, _ => by cases e
  | .tup (_ :: _ :: _ :: _) :: ws, _, _, _, e, _ => by cases e
  | .non :: _, _, _, _, e, _ => by cases e
  | .bl _ :: _, _, _, _, e, _ => by cases e
  | .int _ :: _, _, _, _, e, _ => by cases e
  | .str _ :: _, _, _, _, e, _ => by cases e
  | .lst _ :: _, _, _, _, e, _ => by cases e
  | .dic _ _ :: _, _, _, _, e, _ => by cases e
  | .box _ :: _, _, _, _, e, _ => by cases e
  | .scr _ :: _, _, _, _, e, _ => by cases e
  | .kt _ :: _, _, _, _, e, _ => by cases e
  | .tx _ :: _, _, _, _, e, _ => by cases e
theorem c_dict (bx : Bool) (hK : X.K = Γ.K) (hc : X.calm = true) : CallS Γ Wx X (.type "dict") (m_dict bx) := by
  refine ⟨_, call_dictP hc, fun {g h H σ xs vs Q} hH r q => ?_⟩
  unfold m_dict at q
  split at q
  · obtain ⟨v, rfl, r1⟩ := rws1 r
    split at q
    · rename_i ws e1
      split at q
      · rename_i ps e2
        obtain ⟨a, us, rfl, s, rs⟩ := lview_ok hH r1 e1
        obtain ⟨as, _, kvs, rfl, pv, pd⟩ := pairs_ok hH e2 rs
        obtain ⟨more, z1, z2, z3, z4⟩ := merge_ok (kvs := []) (kw := ([], [])) pv rfl .nil
        have hm : kvs = more := by
          have inj : ∀ (l1 l2 : List (Key × V)), l1.map (fun kv => (kV kv.1, kv.2)) = l2.map (fun kv => (kV kv.1, kv.2)) → l1 = l2 := by
            intro l1
            induction l1 with
            | nil => intro l2 e; cases l2 with
              | nil => rfl
              | cons _ _ => cases e
            | cons p r ih =>
              intro l2 e
              cases l2 with
              | nil => cases e
              | cons p2 r2 =>
                simp only [List.map_cons, List.cons.injEq, Prod.mk.injEq] at e
                obtain ⟨⟨e1, e2⟩, e3⟩ := e
                obtain ⟨k1, v1⟩ := p
                obtain ⟨k2, v2⟩ := p2
                have : k1 = k2 := by
                  cases k1 <;> cases k2 <;> simp [kV] at e1 <;> first | rw [e1] | exact absurd e1 (by simp)
                rw [this, show v1 = v2 from e2, ih r2 e3]
          exact inj _ _ z1
        subst hm
        refine ⟨a, as, kvs, rfl, by rw [hK]; exact SqL.of s, by rw [hK]; exact pd, fun p hp => ?_⟩
        exact mkD_ok hH hp (.inl ⟨mergeK [] kvs, upd_same, z3, rfl⟩) z4 q
      · exact q.elim
    · exact q.elim
  · exact q.elim
/-- the heap has more -/
theorem RH.more {H1 : Hp} (x : RH Γ g h H) (e : ∀ b o, H b = some o → H1 b = some o) : RH Γ g h H1 := by
  refine ⟨fun a u q => ?_, x.nx, x.inj, fun n hn => ?_, fun n c q => ?_, x.tab.ext e, x.nt, fun a o q => ?_, fun a o q => ⟨e _ _ (x.lks a o q).1, (x.lks a o q).2⟩, x.lkc⟩
  · rcases x.fr a u q with z | ⟨d, o', z⟩
    · exact .inl (e _ _ z)
    · exact .inr ⟨d, o', e _ _ z⟩
  · obtain ⟨o, q, n⟩ := x.tr n hn
    exact ⟨o, e _ _ q, n⟩
  · obtain ⟨q1, q2, q3⟩ := x.cell n c q
    obtain ⟨o, e1, n1⟩ := q3.at
    exact ⟨q1, q2, q3.mono (.refl g) ((e _ _ e1).trans e1.symm)⟩
  · obtain ⟨h1, h2, h3, h4⟩ := x.hd a o q
    exact ⟨e _ _ h1, h2, h3, h4⟩
theorem paired_mem {α β : Type} {P P' : α → β → Prop} : ∀ {xs : List α} {ys : List β}, Paired P xs ys → (∀ x y, x ∈ xs → P x y → P' x y) → Paired P' xs ys
  | _, _, .nil, _ => .nil
  | _, _, .cons h t, f => .cons (f _ _ List.mem_cons_self h) (paired_mem t fun x y hx => f x y (List.mem_cons_of_mem _ hx))
theorem tups_frz {K : PySem.W.Frag} (hK : K = Γ.K) : ∀ {as : List Addr} {kvs : List (Key × V)} {ws : List W} {g : G}, RH Γ g h H → Paired (fun (t : Addr) (q : Key × V) => H t = some (.tup [kV q.1, q.2])) as kvs → RWs K g ws (kvs.map (·.2)) →
    ∃ g2, g.le g2 ∧ RH Γ g2 h H ∧ RWs K g2 (((kvs.map fun p => DK.k p.1).zip ws).map fun p => W.tup [dkW p.1, p.2]) (as.map V.ref)
  | [], [], ws, g, x, _, r => ⟨g, .refl g, x, .nil⟩
  | a :: as, (k, v) :: kvs, ws, g, x, pd, r => by
    cases pd with
    | cons pa pr =>
      cases ws with
      | nil => unfold RWs at r; cases r
      | cons w ws =>
        unfold RWs at r
        obtain ⟨v', vr, e, r1, rs⟩ := r
        cases e
        obtain ⟨g1, l1, y1, f1⟩ := x.extT pa
        obtain ⟨g2, l2, y2, r2⟩ := tups_frz hK y1 pr (RWs.mono l1 _ _ rs)
        refine ⟨g2, l1.trans l2, y2, .cons ?_ r2⟩
        unfold RW
        exact ⟨a, [kV k, v], rfl, l2.F _ _ f1, .cons (rw_pK k) (.cons (RW.mono (l1.trans l2) _ _ r1) .nil)⟩
theorem dview_flat {w : W} {v : V} {ks : List DK} {ws : List W} (x : RH Γ g h H) (hf : flatK ks = true) (r : RW Γ.K g w v) (e : dview h w = some (ks, ws)) : ∃ a kvs, v = .ref a ∧ Rd H a (.dK kvs) ∧ ks = kvs.map (fun p => DK.k p.1) ∧ RWs Γ.K g ws (kvs.map (·.2)) := by
  have key : ∀ {H0 : Hp} {a : Addr} {vs : List V}, (∃ kvs : List (Key × V), Rd H a (.dK kvs) ∧ ks = kvs.map (fun p => DK.k p.1) ∧ vs = kvs.map (·.2)) → RWs Γ.K g ws vs → ∃ kvs, Rd H a (.dK kvs) ∧ ks = kvs.map (fun p => DK.k p.1) ∧ RWs Γ.K g ws (kvs.map (·.2)) := fun ⟨kvs, e1, e2, e3⟩ r => ⟨kvs, e1, e2, by rw [← e3]; exact r⟩
  cases w with
  | box n =>
    unfold RW at r
    obtain ⟨hn, rfl⟩ := r
    have e0 : (match h.at_ n with
      | some (.dic ks ws) => some (ks, ws)
      | some (.lck ks ws) => some (ks, ws)
      | _ => none) = some (ks, ws) := e
    cases ec : h.at_ n with
    | none => rw [ec] at e0; cases e0
    | some c =>
      rw [ec] at e0
      obtain ⟨_, _, ok⟩ := x.cell n _ ec
      cases c with
      | lst _ => cases e0
      | ins _ _ _ => cases e0
      | dic ks' ws' =>
        cases e0
        obtain ⟨vs, d, rs⟩ := ok
        rcases d with ⟨kvs, q, e2, e3⟩ | ⟨kvs, q, e2, e3⟩
        · exact ⟨_, kvs, rfl, .inl q, e2, by rw [← e3]; exact rs⟩
        · rw [e2.1] at hf; exact absurd (flat_kvs hf) e2.2
      | lck ks' ws' =>
        cases e0
        obtain ⟨vs, d, rs⟩ := ok
        rcases d with ⟨o, kvs, q, e2, e3⟩ | ⟨o, kvs, q, e2, e3⟩
        · exact ⟨_, kvs, rfl, .inr ⟨o, q⟩, e2, by rw [← e3]; exact rs⟩
        · rw [e2.1] at hf; exact absurd (flat_kvs hf) e2.2
  | dic ks' ws' =>
    cases e
    unfold RW at r
    obtain ⟨a, vs, rfl, d, rs⟩ := r
    rcases d with ⟨kvs, q, e2, e3⟩ | ⟨kvs, q, e2, e3⟩
    · exact ⟨_, kvs, rfl, (x.fr a _ q).imp id fun ⟨_, o, z⟩ => ⟨o, z⟩, e2, by rw [← e3]; exact rs⟩
    · rw [e2.1] at hf; exact absurd (flat_kvs hf) e2.2
  | _ => cases e
theorem itemsL_q {bx : Bool} {S : Addr} {as : List Addr} {kvs : List (Key × V)} {ws : List W} {H1 H' : Hp} {Q : VK} (k1 : ∀ b o, H1 b = some o → H' b = some o) (k2 : H1 S = none) (k4 : S ∉ as) (k5 : H' S = some (.lst (as.map V.ref))) (k6 : Paired (fun (t : Addr) (q : Key × V) => H' t = some (.tup [kV q.1, q.2])) as kvs)
    (hH1 : RH Γ g h H1) (rs : RWs Γ.K g ws (kvs.map (·.2))) (q1 : Rz Γ Wx (RW Γ.K) g (mkL bx (((kvs.map fun p => DK.k p.1).zip ws).map fun p => .tup [dkW p.1, p.2]) h) σ Q) : Q (.ref S) H' := by
  let H0 : Hp := fun b => if b = S then none else H' b
  have eH : H' = upd H0 S (.lst (as.map V.ref)) := by
    funext b
    by_cases hb : b = S
    · rw [hb, upd_same, k5]
    · rw [upd_ne hb]
      show H' b = if b = S then none else H' b
      rw [if_neg hb]
  have e0 : H0 S = none := if_pos rfl
  have y0 : RH Γ g h H0 := hH1.more fun b o e => by
    show (if b = S then none else H' b) = some o
    rw [if_neg (fun z => by rw [z, k2] at e; cases e)]
    exact k1 _ _ e
  have pd : Paired (fun (t : Addr) (q : Key × V) => H0 t = some (.tup [kV q.1, q.2])) as kvs := by
    refine paired_mem k6 fun t q ht hq => ?_
    show (if t = S then none else H' t) = _
    rw [if_neg (fun z => k4 (by rw [← z]; exact ht))]
    exact hq
  obtain ⟨g2, l2, y2, r2⟩ := tups_frz rfl y0 pd rs
  rw [eH]
  exact mkL_ok y2 e0 r2 (Rz.le l2 q1)
/-- list(d.items()), locked or not -/
theorem e_itemsL (bx : Bool) (hc : X.calm = true) (he : PE X e (RDE Γ Wx fe)) (hg : Gl X "list") (hm : X.mg "list" = none) (hv : bootBuiltins "list" = some (.type "list") := by decide +kernel) (hbase : attributeBase e "items" X.env (eval e X.env) = eval e X.env := by rfl) (hline : (apos.endLine == cpos.line) = true := by rfl)
    (hs : starEach [.Call (.Attribute e "items" apos) [] [] cpos] X.env = (false, eval (.Call (.Attribute e "items" apos) [] [] cpos) X.env) :: starEach [] X.env := by rfl) :
    PE X (.Call (.Name "list" p) [.Call (.Attribute e "items" apos) [] [] cpos] [] pos) (RDE Γ Wx (eItemsL bx fe)) := by
  refine ⟨fun pins s σ H Q I ⟨g, sl, h, hH, hS, q⟩ => ?_⟩
  refine wpAny_Call_Name_kw (ld_blt I hg hm hv ?_)
  refine PyProof.Rows.callWith_type1 ?_ hs rfl
  rw [hs]
  show wpAny _ _ (spliced ((false, eval (.Call (.Attribute e "items" apos) [] [] cpos) X.env) :: backTo pos (starEach [] X.env))) _ _ s
  refine Calls.spliced_cons ?_
  refine wpAny_Call_method (T := "dict") (id := "dict.items") hbase rfl hline F.plainAttrs_dict F.slot_dict_items F.type_dict_items (thn (he.run pins s σ H _ I (RDE.step hH hS q)) fun u s1 ⟨x, H1, I1, rx, g1, h1, w1, l1, hH1, rw1, q1⟩ => ?_)
  cases ed : dview h1 w1 with
  | none => rw [ed] at q1; exact q1.elim
  | some kw =>
    obtain ⟨ks, ws⟩ := kw
    rw [ed] at q1
    have q1 : Rz Γ Wx (RW Γ.K) g1 (if flatK ks then mkL bx ((ks.zip ws).map fun p => .tup [dkW p.1, p.2]) h1 else .no) σ Q := q1
    by_cases hf : flatK ks = true
    · rw [if_pos hf] at q1
      obtain ⟨d, kvs, ex, hd, ek, rs⟩ := dview_flat hH1 hf rw1 ed
      subst ex
      subst ek
      obtain rfl : u = Value.ref d := rx
      obtain ⟨hz, hs0, vs, kv, hdo⟩ := dk_rd I1.hok hd
      obtain ⟨ep, hat⟩ := hdo.dictAt
      have lk : kvs.length = vs.length := Paired.length kv
      have I2 : Inv X pins σ H1 { s1 with heap := s1.heap.push { cls := .type "dict_items", data := .fields #[.ref d] } } := I1.kept (t' := s1.toks) fun b ob q => Heap.get?_push_of_some _ q
      refine ⟨hdo.typeIs, hdo.mapOf.noDict, ?_⟩
      show wpAny _ _ (callWith cpos (.builtin "dict.items") [.ref d] [] []) _ X.xe s1
      refine method_meetsIn F.slot_dict_items F.entry_dict_items rfl (PySem.evalArgs_none ⟨rfl, hdo.typeIs, F.args_dict_items_1 _, _, meets_dict_items (mixKind X.prog X.w) d hs0, ⟨vs, hdo⟩, ?_⟩)
      refine Calls.spliced_nil ?_
      refine PySem.W.kdx_call (knd := mixKind X.prog X.w) (kvs := vs) (ep := ep) (I1.ok.hd hc) ⟨_, Heap.get?_push_size _ rfl, rfl, rfl⟩ (hat.push _) (by omega) fun h' tk acc c as hk hS2 hl hG hacc => ?_
      obtain ⟨H', k1, k2, k3, k4, k5, k6, J⟩ := LiI.items_laid (tk := tk) I2 hz kv hk hS2 hl hG hacc
      exact ⟨.ref _, H', J, rfl, itemsL_q k1 k2 k4 k5 k6 hH1 rs q1⟩
    · rw [if_neg hf] at q1
      exact q1.elim
end
end Pk
end

/-! PlH -/
section
set_option Elab.async false
set_option linter.all false
set_option maxRecDepth 100000
set_option maxHeartbeats 4000000
namespace Pk
open PySem PySem.Spec L2
def enumW (ws : List W) : List W := ws.zipIdx.map fun p => .tup [.int (p.2 : Nat), p.1]
def iEnum (fr : Ax) : Ix := fun sl h => (fr sl h).bind fun xs h1 => match xs with
  | [w] => (match lview h1 w with
    | some ws => .ok (enumW ws, keep w ws) h1
    | none => .no)
  | _ => .no
def zipW (xs ys : List W) : List W := (xs.zip ys).map fun p => .tup [p.1, p.2]
def tview : W → Option (List W)
  | .tup ws => some ws
  | .kt ws => some ws
  | _ => none
def iZip (fr : Ax) : Ix := fun sl h => (fr sl h).bind fun xs h1 => match xs with
  | [x, y] => (match lview h1 x, lview h1 y with
    | some a, some b => .ok (zipW a b, fun h => keep x a h && keep y b h) h1
    | _, _ => (match tview x, tview y with
      | some a, some b => .ok (zipW a b, fun _ => true) h1
      | _, _ => .no))
  | _ => .no
section
variable {Γ : Γ} {Wx : WX} {X : Cx} {g : G} {h : HS} {H : Hp} {σ : L2.St} {e e2 : Expr} {fr : Ax} {p pos tpos : Pos} {elts : List Expr} {kk : Nat}
theorem lview_keep {w : W} {v : V} {ws : List W} (hH : RH Γ g h H) (r : RW Γ.K g w v) (e : lview h w = some ws) : ∃ a, v = .ref a ∧ (∃ vs, H a = some (.lst vs) ∧ RWs Γ.K g ws vs) ∧ ∀ g' h' H', g.le g' → RH Γ g' h' H' → keep w ws h' = true → ∃ vs, H' a = some (.lst vs) ∧ RWs Γ.K g' ws vs := by
  obtain ⟨a, vs, ev, q, rs⟩ := lview_ok hH r e
  refine ⟨a, ev, ⟨vs, q, rs⟩, fun g' h' H' l y k => ?_⟩
  subst ev
  have r' := RW.mono l _ _ r
  have e' : lview h' w = some ws := by
    cases w with
    | lst us => exact e
    | box n =>
      unfold keep at k
      simp only at k
      show (match h'.at_ n with
        | some (.lst us) => some us
        | _ => none) = some ws
      split at k
      · rename_i us eu
        first
          | (rw [eu]; show some us = some ws; rw [beqWs_eq _ _ k])
          | (show some us = some ws; rw [beqWs_eq _ _ k])
      · cases k
    | _ => cases e
  obtain ⟨a2, vs2, ev2, q2, rs2⟩ := lview_ok y r' e'
  cases ev2
  exact ⟨vs2, q2, rs2⟩
theorem i_enum (hK : X.K = Γ.K) (hg : Gl X "enumerate") (hm : X.mg "enumerate" = none) (ha : PA X [e] (RDA Γ Wx fr)) (hs : starEach [e] X.env = [(false, eval e X.env)] := by rfl) :
    PI X (.Tuple elts kk tpos) (.Call (.Name "enumerate" p) [e] [] pos) (RDI Γ Wx (iEnum fr)) := by
  refine PI.imp (pi_enum hg hm ha hs) fun σ H R ⟨g, sl, h, hH, hS, q⟩ => ⟨g, sl, h, hH, hS, Rz.mono (fun v H1 ⟨g1, h1, w1, l1, hH1, r1, q1⟩ => ?_) (rzI_step q)⟩
  split at q1
  · split at q1
    · rename_i w ws e1
      obtain ⟨v1, rfl, r2⟩ := rws1 r1
      obtain ⟨a, rfl, ⟨vs, q2, rs⟩, st⟩ := lview_keep hH1 r2 e1
      refine ⟨a, vs, rfl, SqL.of q2, q1 g1 H1 _ (.refl _) hH1 ⟨fun g' h' H' i l y k hi => ?_, fun g' h' H' l y k => ?_⟩⟩
      · have hi' : i < ws.length := by unfold enumW at hi; simpa using hi
        obtain ⟨vs', q3, rs'⟩ := st g' h' H' l y k
        obtain ⟨v, hv, rv⟩ := rs'.get (List.getElem?_eq_getElem hi')
        refine ⟨⟨vs', v, SqL.of q3, hv⟩, fun x H'' ⟨T, x', ex, hT, eH, hx⟩ => ?_⟩
        subst ex; subst eH
        have e4 := hx vs' (SqL.of q3)
        rw [hv] at e4
        cases e4
        obtain ⟨l3, y3, z3⟩ := y.frz hT (.tup [.int (i : Nat), v])
        refine ⟨_, l3, y3, fun w2 hw => ?_⟩
        unfold enumW at hw
        rw [List.getElem?_map, List.getElem?_zipIdx, List.getElem?_eq_getElem hi'] at hw
        simp only [Option.map_some, Nat.zero_add, Option.some.injEq] at hw
        subst hw
        unfold RW
        exact ⟨T, _, rfl, z3, .cons (mint _) (.cons (RW.mono l3 _ _ rv) .nil)⟩
      · obtain ⟨vs', q3, rs'⟩ := st g' h' H' l y k
        exact ⟨vs', SqL.of q3, by rw [← rs'.len]; unfold enumW; simp⟩
    · exact q1.elim
  · exact q1.elim
theorem tview_ok {w : W} {v : V} {ws : List W} (hH : RH Γ g h H) (r : RW Γ.K g w v) (e : tview w = some ws) : ∃ a vs, v = .ref a ∧ SqT Γ.K H a vs ∧ RWs Γ.K g ws vs := by
  cases w with
  | tup us => cases e; exact tup_ok hH r
  | kt us => cases e; exact kt_ok hH r
  | _ => cases e
theorem zipW_get {xs ys : List W} {i : Nat} {w : W} (e : (zipW xs ys)[i]? = some w) : ∃ x y, xs[i]? = some x ∧ ys[i]? = some y ∧ w = .tup [x, y] := by
  unfold zipW at e
  rw [List.getElem?_map] at e
  cases q : (xs.zip ys)[i]? with
  | none => rw [q] at e; cases e
  | some p =>
    rw [q] at e
    cases e
    obtain ⟨x, y⟩ := p
    rw [List.getElem?_zip_eq_some] at q
    exact ⟨x, y, q.1, q.2, rfl⟩
theorem zipW_lt {xs ys : List W} {i : Nat} (hi : i < (zipW xs ys).length) : i < xs.length ∧ i < ys.length := by
  unfold zipW at hi
  rw [List.length_map, List.length_zip] at hi
  omega
theorem zipW_ge {xs ys : List W} : xs.length ≤ (zipW xs ys).length ∨ ys.length ≤ (zipW xs ys).length := by
  unfold zipW
  rw [List.length_map, List.length_zip]
  omega
theorem i_zip (hK : X.K = Γ.K) (hg : Gl X "zip") (hm : X.mg "zip" = none) (ha : PA X [e, e2] (RDA Γ Wx fr)) (hs : starEach [e, e2] X.env = (false, eval e X.env) :: starEach [e2] X.env := by rfl) (hpl : (backTo pos (starEach [e2] X.env)).any (·.1) = false := by rfl) :
    PI X (.Tuple elts kk tpos) (.Call (.Name "zip" p) [e, e2] [] pos) (RDI Γ Wx (iZip fr)) := by
  refine PI.imp (RZ.pi_zipA hg hm ha hs hpl) fun σ H R ⟨g, sl, h, hH, hS, q⟩ => ⟨g, sl, h, hH, hS, Rz.mono (fun v H1 ⟨g1, h1, w1, l1, hH1, r1, q1⟩ => ?_) (rzI_step q)⟩
  split at q1
  · obtain ⟨v1, v2, rfl, r2, r3⟩ := rws2 r1
    split at q1
    · rename_i x y a b e1 e2
      obtain ⟨A1, rfl, ⟨vs, q2, rs⟩, st⟩ := lview_keep hH1 r2 e1
      obtain ⟨A2, rfl, ⟨vs2, q3, rs2⟩, st2⟩ := lview_keep hH1 r3 e2
      refine ⟨A1, A2, vs, vs2, rfl, .inl ⟨SqL.of q2, SqL.of q3, q1 g1 H1 _ (.refl _) hH1 ⟨fun g' h' H' i l y k hi => ?_, fun g' h' H' l y k => ?_⟩⟩⟩
      · obtain ⟨hi1, hi2⟩ := zipW_lt hi
        simp only [Bool.and_eq_true] at k
        obtain ⟨us, q4, rs4⟩ := st g' h' H' l y k.1
        obtain ⟨us2, q5, rs5⟩ := st2 g' h' H' l y k.2
        obtain ⟨v, hv, rv⟩ := rs4.get (List.getElem?_eq_getElem hi1)
        obtain ⟨v', hv', rv'⟩ := rs5.get (List.getElem?_eq_getElem hi2)
        refine ⟨⟨us, us2, v, v', SqL.of q4, SqL.of q5, hv, hv'⟩, fun x H'' ⟨T, x1, x2, ex, hT, eH, hx, hy⟩ => ?_⟩
        subst ex; subst eH
        have e6 := hx us (SqL.of q4)
        have e7 := hy us2 (SqL.of q5)
        rw [hv] at e6
        rw [hv'] at e7
        cases e6; cases e7
        obtain ⟨l3, y3, z3⟩ := y.frz hT (.tup [v, v'])
        refine ⟨_, l3, y3, fun w2 hw => ?_⟩
        obtain ⟨wx, wy, f1, f2, rfl⟩ := zipW_get hw
        rw [List.getElem?_eq_getElem hi1] at f1
        rw [List.getElem?_eq_getElem hi2] at f2
        cases f1; cases f2
        unfold RW
        exact ⟨T, _, rfl, z3, .cons (RW.mono l3 _ _ rv) (.cons (RW.mono l3 _ _ rv') .nil)⟩
      · simp only [Bool.and_eq_true] at k
        obtain ⟨us, q4, rs4⟩ := st g' h' H' l y k.1
        obtain ⟨us2, q5, rs5⟩ := st2 g' h' H' l y k.2
        exact ⟨us, us2, SqL.of q4, SqL.of q5, by rw [← rs4.len, ← rs5.len]; exact zipW_ge⟩
    · split at q1
      · rename_i x y _ a b e1 e2
        obtain ⟨A1, vs, rfl, q2, rs⟩ := tview_ok hH1 r2 e1
        obtain ⟨A2, vs2, rfl, q3, rs2⟩ := tview_ok hH1 r3 e2
        refine ⟨A1, A2, vs, vs2, rfl, .inr ⟨by rw [hK]; exact q2, by rw [hK]; exact q3, q1 g1 H1 _ (.refl _) hH1 ⟨fun g' h' H' i l y k hi => ?_, fun g' h' H' l y k => ?_⟩⟩⟩
        · obtain ⟨hi1, hi2⟩ := zipW_lt hi
          obtain ⟨_, us, ee, q4, rs4⟩ := tview_ok y (RW.mono l _ _ r2) e1
          cases ee
          obtain ⟨_, us2, ee, q5, rs5⟩ := tview_ok y (RW.mono l _ _ r3) e2
          cases ee
          obtain ⟨v, hv, rv⟩ := rs4.get (List.getElem?_eq_getElem hi1)
          obtain ⟨v', hv', rv'⟩ := rs5.get (List.getElem?_eq_getElem hi2)
          refine ⟨⟨us, us2, v, v', by rw [hK]; exact q4, by rw [hK]; exact q5, hv, hv'⟩, fun x H'' ⟨T, x1, x2, ex, hT, eH, hx, hy⟩ => ?_⟩
          subst ex; subst eH
          have e6 := hx us (by rw [hK]; exact q4)
          have e7 := hy us2 (by rw [hK]; exact q5)
          rw [hv] at e6
          rw [hv'] at e7
          cases e6; cases e7
          obtain ⟨l3, y3, z3⟩ := y.frz hT (.tup [v, v'])
          refine ⟨_, l3, y3, fun w2 hw => ?_⟩
          obtain ⟨wx, wy, f1, f2, rfl⟩ := zipW_get hw
          rw [List.getElem?_eq_getElem hi1] at f1
          rw [List.getElem?_eq_getElem hi2] at f2
          cases f1; cases f2
          unfold RW
          exact ⟨T, _, rfl, z3, .cons (RW.mono l3 _ _ rv) (.cons (RW.mono l3 _ _ rv') .nil)⟩
        · obtain ⟨_, us, ee, q4, rs4⟩ := tview_ok y (RW.mono l _ _ r2) e1
          cases ee
          obtain ⟨_, us2, ee, q5, rs5⟩ := tview_ok y (RW.mono l _ _ r3) e2
          cases ee
          exact ⟨us, us2, by rw [hK]; exact q4, by rw [hK]; exact q5, by rw [← rs4.len, ← rs5.len]; exact zipW_ge⟩
      · exact q1.elim
  · exact q1.elim
end
end Pk
end

/-! PlI -/
section
set_option Elab.async false
set_option linter.all false
set_option maxRecDepth 100000
set_option maxHeartbeats 4000000
namespace Pk
open PySem PySem.Spec L2
/-! tuples of texts whose methods are called: t.index(x), x in t -/
def eTx (fr : Ax) : Ex := fun sl h => (fr sl h).bind fun ws h1 => match strsOf ws with
  | some ys => if ys.length ≤ sizeLine then .ok (.tx ys) h1 else .no
  | none => .no
def txIx (ys : List Str) (y : W) (h : HS) : R W := match y with
  | .str z => (match ixOf z ys with
    | some j => .ok (.int (j : Nat)) h
    | none => .no)
  | _ => .no
def eTxIx (fo fe : Ex) : Ex := fun sl h => (fo sl h).bind fun x h1 => match x with
  | .tx ys => (fe sl h1).bind fun y h2 => txIx ys y h2
  | _ => .no
def wInX (x y : W) (h : HS) : R W := match x, y with
  | .str z, .tx ys => .ok (.bl (inV (.str z) (ys.map V.str))) h
  | _, _ => .no
def wNotInX (x y : W) (h : HS) : R W := match x, y with
  | .str z, .tx ys => .ok (.bl (!inV (.str z) (ys.map V.str))) h
  | _, _ => .no
/-! tuple(range(..)), list(range(..)) -/
def rgArgs : List W → Option (Int × Int × Int)
  | [.int j] => some (0, j, 1)
  | [.int i, .int j] => some (i, j, 1)
  | [.int i, .int j, .int c] => some (i, j, c)
  | _ => none
def eTupR (fr : Ax) : Ex := fun sl h => (fr sl h).bind fun ws h1 => match ws with
  | [.int i, .int j, .int c] => if (rgOk i j c && decide (rgN i j c ≤ 2 ^ 24)) = true then .ok (.tup (rItems i c (rgN i j c))) h1 else .no
  | _ => .no
section
variable {Γ : Γ} {Wx : WX} {X : Cx} {g : G} {h : HS} {H : Hp} {σ : L2.St} {o e a b c : Expr} {fo fe : Ex} {fr : Ax} {p p2 pos pos2 apos : Pos}
theorem tx_at {X : Cx} {pins : List (Addr × Obj)} {s : Shared} {ys : List Str} {p : Addr} (I : Inv X pins σ H s) (e : H p = some (TxO p ys)) : ∃ (ob : Obj) (n : Nat) (its : Array Value), s.heap.get? p = some ob ∧ ob.cls = .type "tuple" ∧ ob.dict = none ∧ ob.data = .seq its n ∧ L2.Vals (ys.map V.str) its.toList := by
  obtain ⟨z, _, _⟩ := (show ObjOk X.prog X.w H s.heap p (TxO p ys) from I.hok p _ e)
  exact z
theorem e_tx {x1} {es : List Expr} (ha : PA X es (RDA Γ Wx fr)) : PE X (.Tuple es x1 pos) (RDE Γ Wx (eTx fr)) := by
  refine ⟨fun pins s σ H Q I ⟨g, sl, h, hH, hS, q⟩ => ?_⟩
  refine wpAny_Tuple_spliced (thn (ha.run pos pins s σ H _ I (RDA.step hH hS q)) fun us s1 ⟨xs, H1, I1, r, g1, h1, w1, l1, hH1, r1, q1⟩ => ?_)
  split at q1
  · rename_i ys e1
    split at q1
    · rename_i hz
      have ev := strs_ok e1 r1
      subst ev
      have hl : us.length = ys.length := by rw [← r.length, List.length_map]
      refine ⟨by omega, ?_⟩
      have hf : H1 s1.heap.objs.size = none := I1.hok.fresh (Nat.le_refl _)
      have hgt : (s1.heap.push { cls := .type "tuple", data := .seq us.toArray }).get? s1.heap.objs.size = some { cls := .type "tuple", data := .seq us.toArray } := Heap.get?_push_size _ rfl
      obtain ⟨l2, y2, f2⟩ := hH1.frz hf (TxO s1.heap.objs.size ys)
      refine ⟨.ref s1.heap.objs.size, upd H1 s1.heap.objs.size (TxO s1.heap.objs.size ys), I1.laid (t' := s1.toks) (fun b u e => Heap.get?_push_of_some _ e) (Nat.le_refl _) ?_, rfl, q1 _ _ _ l2 y2 ?_⟩
      · exact ⟨⟨_, _, _, hgt, rfl, rfl, rfl, by simpa using r⟩, ⟨_, hgt⟩, fun h1 h2 ⟨o, n, its, a1, a2⟩ k => ⟨o, n, its, k _ a1, a2⟩⟩
      · unfold RW
        exact ⟨_, rfl, f2⟩
    · exact q1.elim
  · exact q1.elim
theorem o_inX : OpS Γ Wx X (compareOp .In) wInX := by
  refine ⟨fun x y H Q => ∃ (p : Addr) (z : Str) (ys : List Str), x = .str z ∧ y = .ref p ∧ H p = some (TxO p ys) ∧ Q (.bl (inV (.str z) (ys.map V.str))) H, ?_, fun {g h H σ x y vx vy Q} hH rx ry q => ?_⟩
  · rintro pins s σ H x y v u Q I rx ry ⟨p, z, ys, rfl, rfl, e, q⟩
    cases ry
    obtain ⟨ob, n, its, e1, e2, e3, e4, r⟩ := tx_at I e
    have pl : PyProof.Rows.IsTup s.heap p its.toList.toArray := ⟨ob, e1, e2, n, by rw [Array.toArray_toList]; exact e4⟩
    refine SeqAt.in_tupleAt (eqU (.str z)) pl (fun w hw => mem_eqAt (x := .str z) rx rfl r (flat_strs ys) w (by simpa using hw)) ⟨.bl _, H, I, rfl, ?_⟩
    rw [show its.toList.toArray.any (eqU (.str z)) = its.toList.any (eqU (.str z)) by simp, any_eqU r (flat_strs ys)]
    exact q
  · unfold wInX at q
    split at q
    · obtain rfl := rstr rx
      unfold RW at ry
      obtain ⟨a, rfl, f⟩ := ry
      exact ⟨a, _, _, rfl, rfl, hH.atF f, rz_now q hH (mbl _)⟩
    · exact q.elim
theorem o_notInX : OpS Γ Wx X (compareOp .NotIn) wNotInX := by
  refine ⟨fun x y H Q => ∃ (p : Addr) (z : Str) (ys : List Str), x = .str z ∧ y = .ref p ∧ H p = some (TxO p ys) ∧ Q (.bl (!inV (.str z) (ys.map V.str))) H, ?_, fun {g h H σ x y vx vy Q} hH rx ry q => ?_⟩
  · rintro pins s σ H x y v u Q I rx ry ⟨p, z, ys, rfl, rfl, e, q⟩
    cases ry
    obtain ⟨ob, n, its, e1, e2, e3, e4, r⟩ := tx_at I e
    have pl : PyProof.Rows.IsTup s.heap p its.toList.toArray := ⟨ob, e1, e2, n, by rw [Array.toArray_toList]; exact e4⟩
    refine SeqAt.notIn_tupleAt (eqU (.str z)) pl (fun w hw => mem_eqAt (x := .str z) rx rfl r (flat_strs ys) w (by simpa using hw)) ⟨.bl _, H, I, rfl, ?_⟩
    rw [show its.toList.toArray.any (eqU (.str z)) = its.toList.any (eqU (.str z)) by simp, any_eqU r (flat_strs ys)]
    exact q
  · unfold wNotInX at q
    split at q
    · obtain rfl := rstr rx
      unfold RW at ry
      obtain ⟨a, rfl, f⟩ := ry
      exact ⟨a, _, _, rfl, rfl, hH.atF f, rz_now q hH (mbl _)⟩
    · exact q.elim
theorem strsAre_vals : ∀ {ys : List Str} {us : List Value}, L2.Vals (ys.map V.str) us → PyProof.Rows.StrsAre us ys
  | [], _, .nil => .nil
  | _ :: _, _, .cons ⟨t, e⟩ r => by
    subst e
    exact .cons _ t (strsAre_vals r)
theorem ixOf_idx {z : Str} : ∀ {ys : List Str} {j : Nat}, ixOf z ys = some j → z ∈ ys ∧ ys.idxOf z = j
  | [], j, e => by cases e
  | y :: ys, j, e => by
    unfold ixOf at e
    by_cases hy : y = z
    · rw [if_pos hy] at e
      cases e
      exact ⟨by rw [hy]; exact List.mem_cons_self, by rw [hy]; simp⟩
    · rw [if_neg hy] at e
      cases q : ixOf z ys with
      | none => rw [q] at e; cases e
      | some k =>
        rw [q] at e
        cases e
        obtain ⟨i1, i2⟩ := ixOf_idx q
        refine ⟨List.mem_cons_of_mem _ i1, ?_⟩
        rw [List.idxOf_cons]
        have : (y == z) = false := by simpa using hy
        rw [this, ← i2]
        simp
theorem e_txIx (hc : X.calm = true) (ho : PE X o (RDE Γ Wx fo)) (he : PE X e (RDE Γ Wx fe)) (m : M1 X o "index" apos e pos) : PE X (.Call (.Attribute o "index" apos) [e] [] pos) (RDE Γ Wx (eTxIx fo fe)) := by
  refine ⟨fun pins s σ H Q I ⟨g, sl, h, hH, hS, q⟩ => ?_⟩
  refine wpAny_Call_method m.base m.few m.line PySem.F.plainAttrs_tuple PySem.F.slot_tuple_index PySem.F.type_tuple_index (thn (ho.run pins s σ H _ I (RDE.step hH hS q)) fun u s1 ⟨x, H1, I1, rx, g1, h1, w1, l1, hH1, rw1, q1⟩ => ?_)
  cases w1 with
  | tx ys =>
    unfold RW at rw1
    obtain ⟨A, ex, f⟩ := rw1
    subst ex
    obtain rfl : u = Value.ref A := rx
    obtain ⟨ob, n, its, e1, e2, e3, e4, r⟩ := tx_at I1 (hH1.atF f)
    refine ⟨⟨ob, e1, e2⟩, fun b hb => by cases hb; exact ⟨ob, e1, e3⟩, ?_⟩
    rw [m.trees]
    refine Calls.callWith_builtin rfl (Calls.evalArgs_plain (Calls.spliced_cons (thn (he.run pins s1 σ H1 _ I1 (RDE.step hH1 (SLk.mono l1 hS) q1)) fun iv s2 ⟨y, H2, I2, ry, g2, h2, w2, l2, hH2, rw2, q2⟩ => Calls.spliced_nil ?_)))
    cases w2 with
    | str z =>
      obtain rfl := rstr rw2
      obtain ⟨t, rfl⟩ := (show ∃ t, iv = Value.str z t from ry)
      have q2 : Rz Γ Wx (RW Γ.K) g2 (match ixOf z ys with
        | some j => .ok (.int (j : Nat)) h2
        | none => .no) σ Q := q2
      cases ei : ixOf z ys with
      | none => rw [ei] at q2; exact q2.elim
      | some j =>
        rw [ei] at q2
        obtain ⟨i1, i2⟩ := ixOf_idx ei
        obtain ⟨ob, n, its, e1, e2, e3, e4, r⟩ := tx_at I2 (hH2.atF (l2.F _ _ f))
        have pl : PyProof.Rows.IsTup s2.heap A its := ⟨ob, e1, e2, n, e4⟩
        refine PySem.W.kix_tupS (items := its) pl (strsAre_vals r) (I2.ok.hd hc) (fun _ => ?_) fun hn => absurd i1 hn
        rw [i2]
        exact ⟨.int (j : Nat), H2, I2.tok _, ⟨_, rfl⟩, rz_now q2 hH2 (mint _)⟩
    | _ => exact q2.elim
  | _ => exact q1.elim
theorem e_tupR3 (hc : X.calm = true) (hg : Gl X "tuple") (hm : X.mg "tuple" = none) (hg2 : Gl X "range") (hm2 : X.mg "range" = none) (ha : PA X [a, b, c] (RDA Γ Wx fr))
    (hs : starEach [a, b, c] X.env = (false, eval a X.env) :: starEach [b, c] X.env := by rfl) (hpl : (backTo pos2 (starEach [b, c] X.env)).any (·.1) = false := by rfl)
    (hs2 : starEach [.Call (.Name "range" p2) [a, b, c] [] pos2] X.env = (false, eval (.Call (.Name "range" p2) [a, b, c] [] pos2) X.env) :: starEach [] X.env := by rfl) :
    PE X (.Call (.Name "tuple" p) [.Call (.Name "range" p2) [a, b, c] [] pos2] [] pos) (RDE Γ Wx (eTupR fr)) := by
  refine ⟨fun pins s σ H Q I ⟨g, sl, h, hH, hS, q⟩ => ?_⟩
  refine wpAny_Call_Name_kw (ld_blt I hg hm PyProof.Rows.boot_tuple ?_)
  refine PyProof.Rows.callWith_type1 ?_ hs2 rfl
  rw [hs2]
  show wpAny _ _ (spliced ((false, eval (.Call (.Name "range" p2) [a, b, c] [] pos2) X.env) :: backTo pos (starEach [] X.env))) _ _ s
  refine Calls.spliced_cons ?_
  refine PyProof.Rows.Call_ (ld_blt I hg2 hm2 PyProof.Rows.boot_range (PyProof.Rows.callWith_type1 (thn (ha.run pos2 pins s σ H _ I (RDA.step hH hS q)) fun us s1 ⟨vs, H1, I1, r1, g1, h1, w1, l1, hH1, rw1, q1⟩ => ?_) hs hpl))
  split at q1
  · split at q1
    · rename_i i j k hb
      simp only [Bool.and_eq_true, decide_eq_true_eq] at hb
      obtain ⟨v1, v2, v3, rfl, r2, r3, r4⟩ := rws3 rw1
      cases rint r2; cases rint r3; cases rint r4
      obtain ⟨c0, c1, c2, c3⟩ := rgOk_ok hb.1
      cases r1 with
      | cons r rr =>
        cases rr with
        | cons r' rr =>
          cases rr with
          | cons r'' rr =>
            cases rr
            obtain ⟨t, rfl⟩ := r
            obtain ⟨t', rfl⟩ := r'
            obtain ⟨t'', rfl⟩ := r''
            refine PySem.call_range_3 c0 ?_ (.inl (PyProof.noPylong_small c1))
            refine Calls.spliced_nil ?_
            have I2 : Inv X pins σ H1 { s1 with heap := s1.heap.push { cls := .type "range", data := .fields #[.int i t, .int j t', .int k t''] } } := I1.kept (t' := s1.toks) fun b o e => Heap.get?_push_of_some _ e
            refine call_tuple_range (n := rgN i j k) (I2.ok.hd hc) (IsRange.new ..) c2 c3 hb.2 fun h' tk acc hk hi => ?_
            have I3 : Inv X pins σ H1 { s1 with heap := h', toks := tk } := I2.kept hk
            have hl : acc.toList.length = rgN i j k := by rw [Array.length_toList]; exact hi.1
            have rv : L2.Vals ((List.range (rgN i j k)).map fun (n : Nat) => V.int (i + (n : Int) * k)) acc.toList := by
              rw [← hl]
              refine vals_of_get acc.toList _ fun j u hj => ?_
              obtain ⟨t, rfl⟩ := hi.2 j u (by rw [← hj, Array.getElem?_toList])
              exact ⟨t, rfl⟩
            refine ⟨.ref h'.objs.size, upd H1 h'.objs.size (.tup ((List.range (rgN i j k)).map fun (n : Nat) => V.int (i + (n : Int) * k))), I3.laid (t' := tk) (fun c o e => Heap.get?_push_of_some _ e) (Nat.le_refl _) (show ObjOk X.prog X.w _ _ _ (.tup _) from ⟨?_, acc.toList, rv, ?_⟩), rfl, mkT_ok hH1 (I3.hok.fresh (Nat.le_refl _)) ?_ q1⟩
            · rw [List.length_map, List.length_range]
              have : (2 : Nat) ^ 24 ≤ sizeLine := by decide
              omega
            · rw [Array.toArray_toList]; exact PyProof.Rows.IsTup.new _ _
            · unfold rItems
              have : ∀ (l : List Nat), RWs Γ.K g1 (l.map fun (n : Nat) => W.int (i + (n : Int) * k)) (l.map fun (n : Nat) => V.int (i + (n : Int) * k)) := by
                intro l
                induction l with
                | nil => exact .nil
                | cons x r ih => exact .cons (mint _) ih
              exact this _
    · exact q1.elim
  · exact q1.elim
end
end Pk
end

/-! PlJ -/
section
set_option Elab.async false
set_option linter.all false
set_option maxRecDepth 100000
set_option maxHeartbeats 4000000
namespace Pk
open PySem PySem.Spec L2
section
variable {Γ : Γ} {Wx : WX} {X : Cx} {P : Program} {w : World} {K : PySem.W.Frag} {mg : Str → Option Value} {base : Heap} {k n : Nat}
/-- a def by its body, with the defaults that it may have -/
theorem fnD_ok {x qual : Str} {params : Arguments} {body : List Stmt} {scope : Scope} {dvs : List V} {kws : List (Str × V)} {f : Addr} {fd : FuncData} {N ps : List Str} {b : Sx} (F : FunD K x qual params body scope dvs kws f fd) (S : FnScope N ps scope)
    (hn : n = ps.length) (hb : ∀ (cdv : Value) (A : Around) (outer : List Env) (s : Shared) (H : Hp) (E : XK), Room k (A.deeper (PyProof.Rows.envOfC qual scope s.heap.objs.size f cdv)) →
      Takes (cxOf (L2.CX P w) P w K mg base N qual scope f cdv A outer s H E) (fun c d _ H' => E c d H') → PSs (cxOf (L2.CX P w) P w K mg base N qual scope f cdv A outer s H E) body (RDS Γ (fun c d _ H' => E c d H') b)) :
    FnOk P w K mg base (L2.CX P w) (k + 1) f fd ps (spM Γ n (bodyM N.length b)) := by
  refine F.ok S (fun vs H Q E h => by rw [← hn]; exact h.1) fun cdv A outer s H vs Q E hr h => ?_
  obtain ⟨hl, g, h0, ws, hH, rs, q⟩ := h
  have tk : Takes (cxOf (L2.CX P w) P w K mg base N qual scope f cdv A outer s H E) (fun c d _ H' => E c d H') := takes_of rfl rfl rfl rfl
  refine ⟨_, hb cdv A outer s H E hr tk, g, _, h0, hH, slk_start (N := N) rs, ?_⟩
  unfold bodyM at q
  cases e : b (ws.map some ++ List.replicate (N.length - ws.length) none) h0 with
  | nx s1 h1 => rw [e] at q; exact fun g' σ' H' l a _ _ => q g' _ H' l a mnon
  | rt w1 h1 => rw [e] at q; exact q
  | exc c s1 h1 => rw [e] at q; exact fun g' σ' H' l a _ _ => q g' H' l a
  | bk s1 h1 => rw [e] at q; exact q.elim
  | ct s1 h1 => rw [e] at q; exact q.elim
  | no => rw [e] at q; exact q.elim
/-- an exception class of the run's own, below ValueError -/
structure ExcT (Γ : Pk.Γ) (mg : Str → Option Value) (x : Str) (k : Nat) : Prop where
  mg : mg x = some (.ref (Γ.cls k))
  ok : PySem.W.excIn Γ.K (Γ.cls k) He.veBase "ValueError.__new__" = true
  kp : PySem.W.keepIn Γ.K (.ref (Γ.cls k)) = true
  sub : PySem.W.subIn Γ.K (.ref (Γ.cls k)) (.type "BaseException") = some true
  ty : PySem.W.typeIn Γ.K (.ref (Γ.cls k)) = some (.type "type")
theorem s_raiseX {x m : Str} {j k : Nat} {p p2 pos rpos : Pos} (hK : X.K = Γ.K) (hc : X.calm = true) (tk : Takes X Wx) (T : ExcT Γ X.mg x k) (hg : Gl X x := by rfl) (hdb : (x == ("__debug__" : Str)) = false := by decide) :
    PS X (.Raise (some (.Call (.Name x p) [.Constant (.str m) j p2] [] pos)) none rpos) (RDS Γ Wx (sRaise k)) :=
  s_raise hc tk (pmk_own PySem.F.excBase_ValueError (by rw [hK]; exact T.ok) T.mg (by rw [hK]; exact T.kp) (raises_own (by rw [hK]; exact T.sub) (by rw [hK]; exact T.ty)) hg hdb)
/-- a global that is a number -/
theorem e_gint {x : Str} {i : Int} {pos : Pos} (hm : ∃ t, X.mg x = some (.int i t)) (hg : Gl X x := by rfl) (hd : (x == ("__debug__" : Str)) = false := by decide) : PE X (.Name x pos) (RDE Γ Wx (eC (.int i))) := by
  obtain ⟨t, hm⟩ := hm
  exact e_c (pe_glob hg hm (v := .int i) ⟨t, rfl⟩ hd) fun g => mint i
/-- a global that is a tuple of the module's own -/
theorem e_gtup {x : Str} {a : Addr} {ws : List W} {vs : List V} {pos : Pos} (hK : X.K = Γ.K) (hm : X.mg x = some (.ref a)) (ht : ∀ H, SqT Γ.K H a vs) (hr : ∀ g, RWs Γ.K g ws vs) (hg : Gl X x := by rfl) (hd : (x == ("__debug__" : Str)) = false := by decide) : PE X (.Name x pos) (RDE Γ Wx (eC (.kt ws))) :=
  e_c (pe_glob hg hm (v := .ref a) rfl hd) fun g => by
    unfold RW
    exact ⟨a, vs, rfl, ht _, hr g⟩
end
end Pk
end

/-! PlK -/
section
set_option Elab.async false
set_option linter.all false
set_option maxRecDepth 100000
set_option maxHeartbeats 4000000
namespace Pk
open PySem PySem.Spec L2
section
variable {Γ : Γ} {Wx : WX} {X : Cx} {P : Program} {w : World} {K : PySem.W.Frag} {mg : Str → Option Value} {base : Heap} {k n : Nat} {A : Around}
theorem hu1 (r : Room k A) : A.units + 1 < cLine := by have := r.un; omega
theorem hu64 (r : Room k A) : A.units + 64 < cLine := by have := r.un; omega
theorem gl_nil {ws : List W} {sl : Sl} {h : HS} {r : Sl × HS} (e : gNilx ws sl h = some r) : ws.length = 0 := by
  cases ws with
  | nil => rfl
  | cons _ _ => cases e
theorem gl_cons {t : Gx} {u : List W → Sl → HS → Option (Sl × HS)} {n : Nat} (hu : ∀ ws sl h r, u ws sl h = some r → ws.length = n) : ∀ ws sl h r, gConsx t u ws sl h = some r → ws.length = n + 1 := by
  intro ws sl h r e
  cases ws with
  | nil => cases e
  | cons w ws =>
    have e : (match t w sl h with
      | some (s, h1) => u ws s h1
      | none => none) = some r := e
    cases q : t w sl h with
    | none => rw [q] at e; cases e
    | some p => rw [q] at e; rw [List.length_cons, hu _ _ _ _ e]
theorem gl1 {a : Gx} : ∀ ws sl h r, gConsx a gNilx ws sl h = some r → ws.length = 1 := gl_cons fun _ _ _ _ => gl_nil
theorem gl2 {a b : Gx} : ∀ ws sl h r, gConsx a (gConsx b gNilx) ws sl h = some r → ws.length = 2 := gl_cons gl1
theorem gl3 {a b c : Gx} : ∀ ws sl h r, gConsx a (gConsx b (gConsx c gNilx)) ws sl h = some r → ws.length = 3 := gl_cons gl2
theorem gl4 {a b c d : Gx} : ∀ ws sl h r, gConsx a (gConsx b (gConsx c (gConsx d gNilx))) ws sl h = some r → ws.length = 4 := gl_cons gl3
def kAdd (x y : W) (h : HS) : R W := match x, y with
  | .int a, .int b => .ok (.int (a + b)) h
  | _, _ => .no
def kSub (x y : W) (h : HS) : R W := match x, y with
  | .int a, .int b => .ok (.int (a - b)) h
  | _, _ => .no
/-- a def whose code object is known (it holds a table: generator expressions, lambdas) -/
theorem fnC_ok {x qual : Str} {params : Arguments} {body : List Stmt} {scope : Scope} {dvs : List V} {kws : List (Str × V)} {f c : Addr} {fd : FuncData} {N ps : List Str} {b : Sx} (F : FunD K x qual params body scope dvs kws f fd) (hc : fd.code = .ref c) (S : FnScope N ps scope)
    (hn : n = ps.length) (hb : ∀ (A : Around) (outer : List Env) (s : Shared) (H : Hp) (E : XK), Room k (A.deeper (PyProof.Rows.envOfC qual scope s.heap.objs.size f (.ref c))) →
      Takes (cxOf (L2.CX P w) P w K mg base N qual scope f (.ref c) A outer s H E) (fun c d _ H' => E c d H') → PSs (cxOf (L2.CX P w) P w K mg base N qual scope f (.ref c) A outer s H E) body (RDS Γ (fun c d _ H' => E c d H') b)) :
    FnOk P w K mg base (L2.CX P w) (k + 1) f fd ps (spM Γ n (bodyM N.length b)) := by
  obtain ⟨oc, od, dV, kV, doc, pm, an, cdv, ct, osl, rfl, lk, hcd, _, _⟩ := F.ex
  have hc : cdv = .ref c := hc
  subst hc
  refine fn_of lk hcd S (fun vs H Q E h => by rw [← hn]; exact h.1) fun A outer s H vs Q E hr h => ?_
  obtain ⟨hl, g, h0, ws, hH, rs, q⟩ := h
  have tk : Takes (cxOf (L2.CX P w) P w K mg base N qual scope f (.ref c) A outer s H E) (fun c d _ H' => E c d H') := takes_of rfl rfl rfl rfl
  refine ⟨_, hb A outer s H E hr tk, g, _, h0, hH, slk_start (N := N) rs, ?_⟩
  unfold bodyM at q
  cases e : b (ws.map some ++ List.replicate (N.length - ws.length) none) h0 with
  | nx s1 h1 => rw [e] at q; exact fun g' σ' H' l a _ _ => q g' _ H' l a mnon
  | rt w1 h1 => rw [e] at q; exact q
  | exc c s1 h1 => rw [e] at q; exact fun g' σ' H' l a _ _ => q g' H' l a
  | bk s1 h1 => rw [e] at q; exact q.elim
  | ct s1 h1 => rw [e] at q; exact q.elim
  | no => rw [e] at q; exact q.elim
/-- a def's code object and table -/
structure TabT (Γ : Pk.Γ) (mg : Str → Option Value) (base : Heap) (qual q : Str) (fd : FuncData) (c P : Addr) : Prop where
  code : fd.code = .ref c
  tb : LamX.TabB base mg c P
  mem : (P, qual ++ ".<locals>." ++ q) ∈ Γ.tabs
  uni : ∀ p ∈ Γ.tabs, p.1 = P → p.2 = qual ++ ".<locals>." ++ q
/-- a def with defaults -/
structure DfT (K : PySem.W.Frag) (fd : FuncData) (ps : List Str) (dvs : List V) (dws : List W) (ds : List Value) : Prop where
  b : Binds K fd ps ds
  v : Vals dvs ds
  r : ∀ g, RWs K g dws dvs
/-- no call at no fuel -/
theorem fnZ {f : Addr} {fd : FuncData} {ps : List Str} {m : List W → HS → R W} (hm : ∀ ws h, m ws h = .no) (hn : n = ps.length) : FnOk P w K mg base (L2.CX P w) k f fd ps (spM Γ n m) := by
  refine ⟨fun vs H Q E h => by rw [← hn]; exact h.1, fun A outer s H args us vs Q E hr e0 hb r h => ?_⟩
  obtain ⟨_, g, h0, ws, _, _, q⟩ := h
  rw [hm] at q
  exact q.elim
end
end Pk
end

/-! PlL -/
section
set_option Elab.async false
set_option linter.all false
set_option maxRecDepth 100000
set_option maxHeartbeats 4000000
namespace Pk
open PySem PySem.Spec L2
/-- list(zip(a, b)) -/
def eZipL (bx : Bool) (fr : Ax) : Ex := fun sl h => (fr sl h).bind fun xs h1 => match xs with
  | [x, y] => match tview x, tview y with
    | some a, some b => mkL bx ((a.zip b).map fun p => .tup [p.1, p.2]) h1
    | _, _ => .no
  | _ => .no
end Pk
namespace Pk
open PySem PySem.Spec L2
section
variable {X : Cx}
theorem hlt {i : Nat} (h : Nat.blt i X.N.length = true) : ∀ (pins : List (Addr × Obj)) (s : Shared) (σ : L2.St) (H : Hp), Inv X pins σ H s → i < σ.length := fun _ _ _ _ I => by rw [I.len]; exact Nat.blt_eq ▸ h
theorem hlt2 {i j : Nat} (h : Nat.blt i X.N.length = true) (h2 : Nat.blt j X.N.length = true) : ∀ (pins : List (Addr × Obj)) (s : Shared) (σ : L2.St) (H : Hp), Inv X pins σ H s → i < σ.length ∧ j < σ.length := fun p s σ H I => ⟨hlt h p s σ H I, hlt h2 p s σ H I⟩
end
end Pk
namespace Pk
open PySem PySem.Spec L2
theorem TabT.has {Γ : Pk.Γ} {X : Cx} {mg : Str → Option Value} {base : Heap} {qual q : Str} {fd : FuncData} {c P : Addr} {k j : Nat} (T : TabT Γ mg base qual q fd c P) (hr : Room j X.A) (hj : k + 1 ≤ j) (hq : X.env.qual = qual ++ ".<locals>.") (hc : X.env.code = .ref c) (hm : X.mg = mg) (hb : X.base = base) : HasTab Γ X q k c P := by
  refine ⟨hr.mono hj, ?_, hc, ?_, ?_⟩
  · rw [hm, hb]; exact T.tb
  · rw [hq]; exact T.mem
  · rw [hq]; exact T.uni
end Pk
namespace Pk
open PySem PySem.Spec L2
section
variable {Γ : Pk.Γ} {X : Cx} {k : Nat}
theorem lam_nil : LamsOk Γ X k [] [] := trivial
theorem lam_cons {params : Arguments} {body : Expr} {scope : Scope} {m : Ex} {ls : List LamD} {ms : List Ex} (L : LamX.LamS X.env.scope scope)
    (body_ : ∀ (A : Around) (outer : List Env) (s : Shared) (H : Hp) (E : XK) (f c' : Addr), Room k (A.deeper (LamX.lamEnv X scope s.heap.objs.size f c')) → Takes (LamX.lamCx X A outer s H E scope f c') (fun c d _ H' => E c d H') → PE (LamX.lamCx X A outer s H E scope f c') body (RDE Γ (fun c d _ H' => E c d H') m))
    (hs : LamsOk Γ X k ls ms) (bind : ∀ (q : Str) (cl : List (Str × Addr)) (pm cv ctv : Value), bindArgs (PySem.W.kla_fn "<lambda>" q params body scope cl pm cv ctv) ⟨[], []⟩ = pure [] := by intro _ _ _ _ _; rfl) :
    LamsOk Γ X k ((params, body, scope) :: ls) (m :: ms) := ⟨⟨L, bind, body_⟩, hs⟩
end
end Pk
namespace Pk
open PySem PySem.Spec L2
section
variable {Γ : Pk.Γ} {Wx : WX} {X : Cx} {a b c : Expr} {pos : Pos}
theorem hlt3 {i j k : Nat} (h : Nat.blt i X.N.length = true) (h2 : Nat.blt j X.N.length = true) (h3 : Nat.blt k X.N.length = true) : ∀ (pins : List (Addr × Obj)) (s : Shared) (σ : L2.St) (H : Hp), Inv X pins σ H s → i < σ.length ∧ j < σ.length ∧ k < σ.length := fun p s σ H I => ⟨hlt h p s σ H I, hlt h2 p s σ H I, hlt h3 p s σ H I⟩
theorem s_par3 {x y z : Str} {px py pz pt : Pos} {kt k2 pt2} {fr : Ax} (i j k : Nat) (hc : X.calm = true) (hN : X.N.Nodup) (ha : PA X [a, b, c] (RDA Γ Wx fr))
    (hl : ∀ (pins : List (Addr × Obj)) (s : Shared) (σ : L2.St) (H : Hp), Inv X pins σ H s → i < σ.length ∧ j < σ.length ∧ k < σ.length)
    (hi : X.N[i]? = some x := by rfl) (hj : X.N[j]? = some y := by rfl) (hk : X.N[k]? = some z := by rfl) (hij : i ≠ j := by decide) (hik : i ≠ k := by decide) (hjk : j ≠ k := by decide)
    (hx : X.env.scope.names.lookup x = some .local := by rfl) (hy : X.env.scope.names.lookup y = some .local := by rfl) (hz : X.env.scope.names.lookup z = some .local := by rfl)
    (hw : swappedStores [.Tuple [.Name x px, .Name y py, .Name z pz] kt pt] (.Tuple [a, b, c] k2 pt2) X.env = pure (some [x, y, z]) := by rfl)
    (hs : swapsWithSole [.Tuple [.Name x px, .Name y py, .Name z pz] kt pt] (.Tuple [a, b, c] k2 pt2) pos.line X.env = pure false := by rfl) :
    PS X (.Assign [.Tuple [.Name x px, .Name y py, .Name z pz] kt pt] (.Tuple [a, b, c] k2 pt2) pos) (RDS Γ Wx (sPar3 i j k fr)) := by
  refine ⟨fun pins s σ H D I ⟨g, sl, h, hH, hS, q⟩ => (ps_par3 hc hN hi hj hk hij hik hjk hx hy hz ha hw hs).run pins s σ H D I ⟨g, sl, h, hH, hS, Rz.mono (fun v H1 ⟨g1, h1, w1, l1, hH1, r1, q1⟩ => ?_) (rz_st hS q)⟩⟩
  split at q1
  · obtain ⟨v1, v2, v3, rfl, r2, r3, r4⟩ := rws3 r1
    obtain ⟨l2, l3, l4⟩ := hl pins s σ H I
    exact ⟨v1, v2, v3, rfl, q1 g1 _ H1 (.refl _) hH1 ((((SLk.mono l1 hS).set r2 l2).set r3 (by rw [List.length_set]; exact l3)).set r4 (by rw [List.length_set, List.length_set]; exact l4)) (by rw [List.length_set, List.length_set, List.length_set])⟩
  · exact q1.elim
end
end Pk
end

/-! Qa -/
section
set_option Elab.async false
set_option linter.all false
set_option maxRecDepth 100000
set_option maxHeartbeats 4000000
/-! what a mirror does, told by what is wanted behind it -/
namespace Pk
open PySem PySem.Spec L2
def Wp {α : Type} (r : R α) (K : α → HS → Prop) (E : Nat → HS → Prop) : Prop := match r with
  | .ok a h => K a h
  | .exc c h => E c h
  | .no => False
def Ws (r : RS) (N : Sl → HS → Prop) (T : W → HS → Prop) (B C : Sl → HS → Prop) (E : Nat → HS → Prop) : Prop := match r with
  | .nx s h => N s h
  | .rt w h => T w h
  | .bk s h => B s h
  | .ct s h => C s h
  | .exc c _ h => E c h
  | .no => False
def Sz (n : Nat) (P : Prop) : Prop := n ≤ sizeLine ∧ P
theorem sizeLine_is : sizeLine = 16777216 := rfl
def NoE : Nat → HS → Prop := fun _ _ => False
def Is1 (xs : List W) (P : W → Prop) : Prop := ∃ a, xs = [a] ∧ P a
def Is2 (xs : List W) (P : W → W → Prop) : Prop := ∃ a b, xs = [a, b] ∧ P a b
def Is3 (xs : List W) (P : W → W → W → Prop) : Prop := ∃ a b c, xs = [a, b, c] ∧ P a b c
def IsI (w : W) (P : Int → Prop) : Prop := ∃ i, w = .int i ∧ P i
def IsS (w : W) (P : Str → Prop) : Prop := ∃ i, w = .str i ∧ P i
def SvI (h : HS) (w : W) (P : List W → Prop) : Prop := ∃ ws, sview h w = some ws ∧ P ws
def LvI (h : HS) (w : W) (P : List W → Prop) : Prop := ∃ ws, lview h w = some ws ∧ P ws
theorem is1 {P : W → Prop} {a : W} (p : P a) : Is1 [a] P := ⟨_, rfl, p⟩
theorem is2 {P : W → W → Prop} {a b : W} (p : P a b) : Is2 [a, b] P := ⟨_, _, rfl, p⟩
theorem is3 {P : W → W → W → Prop} {a b c : W} (p : P a b c) : Is3 [a, b, c] P := ⟨_, _, _, rfl, p⟩
theorem isI {P : Int → Prop} {a : Int} (p : P a) : IsI (.int a) P := ⟨_, rfl, p⟩
theorem isS {P : Str → Prop} {a : Str} (p : P a) : IsS (.str a) P := ⟨_, rfl, p⟩
theorem svL {h : HS} {P : List W → Prop} {ws : List W} (p : P ws) : SvI h (.lst ws) P := ⟨_, rfl, p⟩
theorem svT {h : HS} {P : List W → Prop} {ws : List W} (p : P ws) : SvI h (.tup ws) P := ⟨_, rfl, p⟩
theorem svK {h : HS} {P : List W → Prop} {ws : List W} (p : P ws) : SvI h (.kt ws) P := ⟨_, rfl, p⟩
theorem lvL {h : HS} {P : List W → Prop} {ws : List W} (p : P ws) : LvI h (.lst ws) P := ⟨_, rfl, p⟩
section
variable {α β : Type} {r : R α} {K : α → HS → Prop} {E : Nat → HS → Prop} {h h1 : HS} {sl s : Sl} {c : Nat} {w x y : W}
theorem eq_wp {r r0 : R α} (e : Wp r (fun a h => .ok a h = r0) (fun c h => .exc c h = r0)) : r = r0 := by
  cases r with
  | ok a h => exact e
  | exc c h => exact e
  | no => exact e.elim
theorem wp_eq {r r0 : R α} (e : r = r0) (p : Wp r0 K E) : Wp r K E := e ▸ p
theorem ws_eq {r r0 : RS} {N T B C} (e : r = r0) (p : Ws r0 N T B C E) : Ws r N T B C E := e ▸ p
theorem wp_ok {a : α} (p : K a h) : Wp (.ok a h) K E := p
theorem wp_exc (p : E c h) : Wp (.exc c h : R α) K E := p
theorem wp_bind {k : α → HS → R β} {K : β → HS → Prop} (p : Wp r (fun a h => Wp (k a h) K E) E) : Wp (r.bind k) K E := by
  cases r with
  | ok a h => exact p
  | exc c h => exact p
  | no => exact p.elim
theorem wp_mono {K' : α → HS → Prop} {E' : Nat → HS → Prop} (p : Wp r K E) (k : ∀ a h, K a h → K' a h) (e : ∀ c h, E c h → E' c h) : Wp r K' E' := by
  cases r with
  | ok a h => exact k _ _ p
  | exc c h => exact e _ _ p
  | no => exact p.elim
theorem wp_noX (p : Wp r K NoE) : Wp (noX r) K E := by
  cases r with
  | ok a h => exact p
  | exc c h => exact p.elim
  | no => exact p.elim
variable {N : Sl → HS → Prop} {T : W → HS → Prop} {B C : Sl → HS → Prop}
theorem ws_mono {r : RS} {N' : Sl → HS → Prop} {T' : W → HS → Prop} {B' C' : Sl → HS → Prop} {E' : Nat → HS → Prop} (p : Ws r N T B C E) (n : ∀ s h, N s h → N' s h) (t : ∀ w h, T w h → T' w h) (b : ∀ s h, B s h → B' s h) (cc : ∀ s h, C s h → C' s h) (e : ∀ c h, E c h → E' c h) : Ws r N' T' B' C' E' := by
  cases r with
  | nx s h => exact n _ _ p
  | rt w h => exact t _ _ p
  | bk s h => exact b _ _ p
  | ct s h => exact cc _ _ p
  | exc c s h => exact e _ _ p
  | no => exact p.elim
theorem ws_st {k : α → HS → RS} (p : Wp r (fun a h => Ws (k a h) N T B C E) E) : Ws (r.st s k) N T B C E := by
  cases r with
  | ok a h => exact p
  | exc c h => exact p
  | no => exact p.elim
theorem ws_then {r : RS} {k : Sl → HS → RS} (p : Ws r (fun s h => Ws (k s h) N T B C E) T B C E) : Ws (r.then k) N T B C E := by
  cases r with
  | nx s h => exact p
  | rt w h => exact p
  | bk s h => exact p
  | ct s h => exact p
  | exc c s h => exact p
  | no => exact p.elim
theorem ws_nx (p : N s h) : Ws (.nx s h) N T B C E := p
/-! heaps -/
@[simp] theorem put_at {c : Ct} {n m : Nat} : (h.put n c).at_ m = if m = n then some c else h.at_ m := rfl
@[simp] theorem put_nx {c : Ct} {n : Nat} : (h.put n c).nx = h.nx := rfl
@[simp] theorem new_at {c : Ct} {m : Nat} : (h.new c).at_ m = if m = h.nx then some c else h.at_ m := rfl
@[simp] theorem new_nx {c : Ct} : (h.new c).nx = h.nx + 1 := rfl
theorem HS.ext {h h1 : HS} (e : ∀ n, h.at_ n = h1.at_ n) (e2 : h.nx = h1.nx) : h = h1 := by
  cases h; cases h1; simp only [HS.mk.injEq] at *; exact ⟨funext e, e2⟩
@[simp] theorem put_put {c d : Ct} {n : Nat} : (h.put n c).put n d = h.put n d := HS.ext (fun m => by simp only [put_at]; split <;> rfl) rfl
/-! expressions -/
variable {fa fb fc : Ex} {m m' : W → W → HS → R W} {mu : W → HS → R W} {ta tb : Tx} {fr : Ax} {KW : W → HS → Prop} {KT : Bool → HS → Prop} {KA : List W → HS → Prop}
theorem wp_var {i : Nat} {w : W} (e : sl[i]? = some (some w)) (p : KW w h) : Wp (eVar i sl h) KW E := by unfold eVar; rw [e]; exact p
theorem wp_c (p : KW w h) : Wp (eC w sl h) KW E := p
theorem wp_bin (p : Wp (fa sl h) (fun x h1 => Wp (fb sl h1) (fun y h2 => Wp (m x y h2) KW E) E) E) : Wp (eBin m fa fb sl h) KW E := wp_bind (wp_mono p (fun _ _ q => wp_bind q) fun _ _ q => q)
theorem wp_un (p : Wp (fa sl h) (fun x h1 => Wp (mu x h1) KW E) E) : Wp (eUn mu fa sl h) KW E := wp_bind p
theorem wp_asB {b : Bool} (p : KT b h) : Wp (asB (.bl b) h) KT E := p
theorem wp_tval (p : Wp (fa sl h) (fun x h1 => Wp (asB x h1) KT E) E) : Wp (tVal fa sl h) KT E := wp_bind p
theorem wp_chain (p : Wp (fa sl h) (fun x h1 => Wp (fb sl h1) (fun y h2 => Wp (m x y h2) (fun z h3 => Wp (asB z h3) (fun k h3 => Wp (if k then (fc sl h3).bind fun w h4 => m' y w h4 else .ok (.bl false) h3) KW E) E) E) E) E) : Wp (eChain m m' fa fb fc sl h) KW E :=
  wp_bind (wp_mono p (fun _ _ q => wp_bind (wp_mono q (fun _ _ q => wp_bind (wp_mono q (fun _ _ q => wp_bind q) fun _ _ q => q)) fun _ _ q => q)) fun _ _ q => q)
theorem wp_tand (p : Wp (ta sl h) (fun k h1 => Wp (if k then tb sl h1 else .ok false h1) KT E) E) : Wp (tAndx ta tb sl h) KT E := wp_bind p
theorem wp_tor (p : Wp (ta sl h) (fun k h1 => Wp (if k then .ok true h1 else tb sl h1) KT E) E) : Wp (tOrx ta tb sl h) KT E := wp_bind p
theorem wp_tnot (p : Wp (ta sl h) (fun k h1 => KT (!k) h1) E) : Wp (tNotx ta sl h) KT E := wp_bind (wp_mono p (fun _ _ q => q) fun _ _ q => q)
theorem wp_and (p : Wp (fa sl h) (fun x h1 => Wp (asB x h1) (fun k h1 => Wp (if k then fb sl h1 else .ok (.bl false) h1) KW E) E) E) : Wp (eAnd fa fb sl h) KW E := wp_bind (wp_mono p (fun _ _ q => wp_bind q) fun _ _ q => q)
theorem wp_or (p : Wp (fa sl h) (fun x h1 => Wp (asB x h1) (fun k h1 => Wp (if k then .ok (.bl true) h1 else fb sl h1) KW E) E) E) : Wp (eOr fa fb sl h) KW E := wp_bind (wp_mono p (fun _ _ q => wp_bind q) fun _ _ q => q)
theorem wp_not (p : Wp (fa sl h) (fun x h1 => Wp (asB x h1) (fun k h1 => KW (.bl (!k)) h1) E) E) : Wp (eNot fa sl h) KW E := wp_bind (wp_mono p (fun _ _ q => wp_bind (wp_mono q (fun _ _ q => q) fun _ _ q => q)) fun _ _ q => q)
theorem wp_if (p : Wp (ta sl h) (fun k h1 => Wp (if k then fa sl h1 else fb sl h1) KW E) E) : Wp (eIf ta fa fb sl h) KW E := wp_bind p
theorem wp_anil (p : KA [] h) : Wp (aNil sl h) KA E := p
theorem wp_acons (p : Wp (fa sl h) (fun x h1 => Wp (fr sl h1) (fun xs h2 => KA (x :: xs) h2) E) E) : Wp (aCons fa fr sl h) KA E := wp_bind (wp_mono p (fun _ _ q => wp_bind q) fun _ _ q => q)
theorem wp_sz {n : Nat} {a : R α} (e : n ≤ sizeLine) (p : Wp a K E) : Wp (if n ≤ sizeLine then a else .no) K E := by rw [if_pos e]; exact p
theorem wp_pos {P : Prop} [Decidable P] {a b : R α} (e : P) (p : Wp a K E) : Wp (if P then a else b) K E := by rw [if_pos e]; exact p
theorem wp_neg {P : Prop} [Decidable P] {a b : R α} (e : ¬ P) (p : Wp b K E) : Wp (if P then a else b) K E := by rw [if_neg e]; exact p
theorem wp_ite {P : Prop} [Decidable P] {a b : R α} (p : P → Wp a K E) (q : ¬ P → Wp b K E) : Wp (if P then a else b) K E := by
  by_cases e : P
  · rw [if_pos e]; exact p e
  · rw [if_neg e]; exact q e
theorem ws_pos {P : Prop} [Decidable P] {a b : RS} (e : P) (p : Ws a N T B C E) : Ws (if P then a else b) N T B C E := by rw [if_pos e]; exact p
theorem ws_neg {P : Prop} [Decidable P] {a b : RS} (e : ¬ P) (p : Ws b N T B C E) : Ws (if P then a else b) N T B C E := by rw [if_neg e]; exact p
theorem ws_ite {P : Prop} [Decidable P] {a b : RS} (p : P → Ws a N T B C E) (q : ¬ P → Ws b N T B C E) : Ws (if P then a else b) N T B C E := by
  by_cases e : P
  · rw [if_pos e]; exact p e
  · rw [if_neg e]; exact q e
theorem wp_tup (p : Wp (fr sl h) (fun xs h1 => Wp (if xs.length ≤ sizeLine then .ok (.tup xs) h1 else .no) KW E) E) : Wp (eTup fr sl h) KW E := wp_bind p
theorem wp_lst {bx : Bool} (p : Wp (fr sl h) (fun xs h1 => Wp (if xs.length ≤ sizeLine then mkL bx xs h1 else .no) KW E) E) : Wp (eLst bx fr sl h) KW E := wp_bind p
theorem wp_mkLf {ws : List W} (p : KW (.lst ws) h) : Wp (mkL false ws h) KW E := p
theorem wp_mkLt {ws : List W} (p : KW (.box h.nx) (h.new (.lst ws))) : Wp (mkL true ws h) KW E := p
theorem wp_mkDf {ks : List DK} {ws : List W} (p : KW (.dic ks ws) h) : Wp (mkD false ks ws h) KW E := p
theorem wp_mkDt {ks : List DK} {ws : List W} (p : KW (.box h.nx) (h.new (.dic ks ws))) : Wp (mkD true ks ws h) KW E := p
/-! operations -/
variable {a b : Int} {bx : Bool}
theorem wp_add (p : KW (.int (a + b)) h) : Wp (wAdd bx (.int a) (.int b) h) KW E := p
theorem wp_sub (p : KW (.int (a - b)) h) : Wp (wSub (.int a) (.int b) h) KW E := p
theorem wp_neg' (p : KW (.int (-a)) h) : Wp (wNeg (.int a) h) KW E := p
theorem wp_kadd (p : KW (.int (a + b)) h) : Wp (kAdd (.int a) (.int b) h) KW E := p
theorem wp_ksub (p : KW (.int (a - b)) h) : Wp (kSub (.int a) (.int b) h) KW E := p
theorem wp_mul (e : (-(2 ^ 64) < a ∧ a < 2 ^ 64) ∨ (-(2 ^ 64) < b ∧ b < 2 ^ 64)) (p : KW (.int (a * b)) h) : Wp (wMul bx (.int a) (.int b) h) KW E := wp_pos e p
theorem wp_div (e : 0 < b ∧ b < 1073741824) (p : KW (.int (a / b)) h) : Wp (wDiv (.int a) (.int b) h) KW E := wp_pos e p
theorem wp_mod (e : 0 < b) (p : KW (.int (a % b)) h) : Wp (wMod (.int a) (.int b) h) KW E := wp_pos e p
theorem wp_adds {a b : Str} (e : a.length + b.length ≤ sizeLine) (p : KW (.str (a ++ b)) h) : Wp (wAdd bx (.str a) (.str b) h) KW E := wp_pos e p
theorem wp_addL {a b : List W} (e : a.length + b.length ≤ sizeLine) (p : Wp (mkL bx (a ++ b) h) KW E) : Wp (wAdd bx (.lst a) (.lst b) h) KW E := wp_pos (P := a.length + b.length ≤ sizeLine) e p
theorem wp_lt (p : KW (.bl (decide (a < b))) h) : Wp (wLt (.int a) (.int b) h) KW E := p
theorem wp_le (p : KW (.bl (decide (a ≤ b))) h) : Wp (wLe (.int a) (.int b) h) KW E := p
theorem wp_gt (p : KW (.bl (decide (b < a))) h) : Wp (wGt (.int a) (.int b) h) KW E := p
theorem wp_ge (p : KW (.bl (decide (b ≤ a))) h) : Wp (wGe (.int a) (.int b) h) KW E := p
theorem wp_eqi (p : KW (.bl (decide (a = b))) h) : Wp (wEq (.int a) (.int b) h) KW E := p
theorem wp_nei (p : KW (.bl (!decide (a = b))) h) : Wp (wNe (.int a) (.int b) h) KW E := p
theorem wp_eqs {a b : Str} (p : KW (.bl (decide (a = b))) h) : Wp (wEq (.str a) (.str b) h) KW E := p
theorem wp_nes {a b : Str} (p : KW (.bl (!decide (a = b))) h) : Wp (wNe (.str a) (.str b) h) KW E := p
theorem wp_eqb {a b : Bool} (p : KW (.bl (decide (a = b))) h) : Wp (wEq (.bl a) (.bl b) h) KW E := p
theorem wp_neb {a b : Bool} (p : KW (.bl (!decide (a = b))) h) : Wp (wNe (.bl a) (.bl b) h) KW E := p
theorem wp_eqw {b : Bool} (e : weq h x y = some b) (p : KW (.bl b) h) : Wp (wEq x y h) KW E := by unfold wEq; rw [e]; exact p
theorem wp_new {b : Bool} (e : weq h x y = some b) (p : KW (.bl (!b)) h) : Wp (wNe x y h) KW E := by unfold wNe; rw [e]; exact p
theorem wp_is (p : KW (.bl (isNon x)) h) : Wp (wIs x .non h) KW E := p
theorem wp_isN (p : KW (.bl (!isNon x)) h) : Wp (wIsN x .non h) KW E := p
theorem wp_in {b : Bool} (e : win h x y = some b) (p : KW (.bl b) h) : Wp (wIn x y h) KW E := by unfold wIn; rw [e]; exact p
theorem wp_nin {b : Bool} (e : win h x y = some b) (p : KW (.bl (!b)) h) : Wp (wNotIn x y h) KW E := by unfold wNotIn; rw [e]; exact p
/-! calls -/
theorem wp_callB {m : List W → HS → R W} (p : Wp (fr sl h) (fun xs h1 => Wp (m xs h1) KW E) E) : Wp (eCallB m fr sl h) KW E := wp_bind p
theorem wp_go {n : Nat} {m : List W → HS → R W} {xs : List W} (e : xs.length = n) (p : Wp (m xs h) KW E) : Wp (go n m xs h) KW E := by unfold go; rw [if_pos e]; exact p
theorem wp_call {n : Nat} {m : List W → HS → R W} {ds : List W} (p : Wp (fr sl h) (fun xs h1 => Wp (go n m (xs ++ ds) h1) KW E) E) : Wp (eCall n m ds fr sl h) KW E := wp_bind p
theorem wp_meth {c n : Nat} {nm : Str} {m : List W → HS → R W} {ds : List W} (p : Wp (fa sl h) (fun x h1 => insOf c nm x h1 = true ∧ Wp (fr sl h1) (fun xs h2 => Wp (go n m (x :: (xs ++ ds)) h2) KW E) E) E) : Wp (eMeth c nm n m ds fa fr sl h) KW E :=
  wp_bind (wp_mono p (fun _ _ q => wp_pos q.1 (wp_bind q.2)) fun _ _ q => q)
theorem wp_make {c n : Nat} {m : List W → HS → R W} {ds : List W} (p : Wp (fr sl h) (fun xs h1 => Wp (go n m (.box h1.nx :: (xs ++ ds)) (h1.new (.ins c [] []))) (fun r h2 => isNon r = true ∧ KW (.box h1.nx) h2) E) E) : Wp (eMake c n m ds fr sl h) KW E :=
  wp_bind (wp_mono p (fun _ _ q => wp_bind (wp_mono q (fun _ _ q => wp_pos q.1 q.2) fun _ _ q => q)) fun _ _ q => q)
theorem wp_told {es : List Nat} {ret : Str} (p : Wp (fa sl h) KW (fun c h1 => es.contains c = true ∧ KW (.str ret) h1)) : Wp (eTold es ret fa sl h) KW E := by
  unfold eTold told
  cases e : fa sl h with
  | ok w h => rw [e] at p; exact p
  | exc c h => rw [e] at p; exact wp_pos p.1 p.2
  | no => rw [e] at p; exact p.elim
theorem wp_body {n : Nat} {f : Sx} {ws : List W} (p : Ws (f (ws.map some ++ List.replicate (n - ws.length) none) h) (fun _ h => KW .non h) KW (fun _ _ => False) (fun _ _ => False) E) : Wp (bodyM n f ws h) KW E := by
  unfold bodyM
  cases e : f (ws.map some ++ List.replicate (n - ws.length) none) h <;> rw [e] at p <;> first | exact p | exact p.elim
/-! statements -/
variable {sa sb : Sx} {g : Gx}
theorem ws_nil (p : N sl h) : Ws (sNil sl h) N T B C E := p
theorem ws_seq (p : Ws (sa sl h) (fun s h => Ws (sb s h) N T B C E) T B C E) : Ws (sSeq sa sb sl h) N T B C E := ws_then p
theorem ws_expr (p : Wp (fa sl h) (fun _ h1 => N sl h1) E) : Ws (sExpr fa sl h) N T B C E := ws_st p
theorem ws_ret (p : Wp (fa sl h) T E) : Ws (sRet fa sl h) N T B C E := ws_st p
theorem ws_retN (p : T .non h) : Ws (sRetN sl h) N T B C E := p
theorem ws_if (p : Wp (ta sl h) (fun k h1 => Ws (if k then sa sl h1 else sb sl h1) N T B C E) E) : Ws (sIf ta sa sb sl h) N T B C E := ws_st p
theorem ws_raise (p : E c h) : Ws (sRaise c sl h) N T B C E := p
theorem ws_asgN {i : Nat} (p : Wp (fa sl h) (fun w h1 => N (sl.set i (some w)) h1) E) : Ws (sAsg fa (gN i) sl h) N T B C E := ws_st p
def Gp (g : Option (Sl × HS)) (N : Sl → HS → Prop) : Prop := match g with | some (s, h) => N s h | none => False
theorem ws_asg (p : Wp (fa sl h) (fun w h1 => Gp (g w sl h1) N) E) : Ws (sAsg fa g sl h) N T B C E := by
  refine ws_st (wp_mono p (fun w h1 q => ?_) fun _ _ q => q)
  cases e : g w sl h1 with
  | some p => rw [e] at q; exact q
  | none => rw [e] at q; exact q.elim
theorem gp_n {i : Nat} (p : N (sl.set i (some w)) h) : Gp (gN i w sl h) N := p
theorem gp_tup {u : List W → Sl → HS → Option (Sl × HS)} {ws : List W} (e : sview h w = some ws) (p : Gp (u ws sl h) N) : Gp (gTupx u w sl h) N := by unfold gTupx; rw [e]; exact p
theorem gp_nil (p : N sl h) : Gp (gNilx [] sl h) N := p
theorem gp_cons {t : Gx} {u : List W → Sl → HS → Option (Sl × HS)} {ws : List W} (p : Gp (t w sl h) (fun s h => Gp (u ws s h) N)) : Gp (gConsx t u (w :: ws) sl h) N := by
  show Gp (match t w sl h with | some (s, h1) => u ws s h1 | none => none) N
  cases e : t w sl h with
  | some q => rw [e] at p; exact p
  | none => rw [e] at p; exact p.elim
theorem ws_par {i j : Nat} (p : Wp (fr sl h) (fun ws h1 => Is2 ws fun v w => N ((sl.set i (some v)).set j (some w)) h1) E) : Ws (sPar i j fr sl h) N T B C E := ws_st (wp_mono p (fun _ _ ⟨_, _, e, q⟩ => by subst e; exact q) fun _ _ q => q)
theorem ws_par3 {i j k : Nat} (p : Wp (fr sl h) (fun ws h1 => Is3 ws fun u v w => N (((sl.set i (some u)).set j (some v)).set k (some w)) h1) E) : Ws (sPar3 i j k fr sl h) N T B C E := ws_st (wp_mono p (fun _ _ ⟨_, _, _, e, q⟩ => by subst e; exact q) fun _ _ q => q)
theorem ws_aug {i : Nat} {x : W} (e : sl[i]? = some (some x)) (p : Wp (fa sl h) (fun y h1 => Wp (m x y h1) (fun z h2 => N (sl.set i (some z)) h2) E) E) : Ws (sAug i m fa sl h) N T B C E := by
  unfold sAug; rw [e]; exact ws_st (wp_mono p (fun _ _ q => ws_st q) fun _ _ q => q)
theorem ws_fld {cs : List Nat} {f : Str} {fv fo : Ex} (p : Wp (fv sl h) (fun y h1 => Wp (fo sl h1) (fun x h2 => ∃ h3, setFld cs f x y h2 = some h3 ∧ N sl h3) E) E) : Ws (sFldx cs f fv fo sl h) N T B C E :=
  ws_st (wp_mono p (fun _ _ q => ws_st (wp_mono q (fun _ _ ⟨_, e, q⟩ => by rw [e]; exact q) fun _ _ q => q)) fun _ _ q => q)
theorem ws_sub {fv fo fi : Ex} (p : Wp (fv sl h) (fun v h1 => Wp (fo sl h1) (fun x h2 => Wp (fi sl h2) (fun i h3 => ∃ h4, setIx x i v h3 = some h4 ∧ N sl h4) E) E) E) : Ws (sSub fv fo fi sl h) N T B C E :=
  ws_st (wp_mono p (fun _ _ q => ws_st (wp_mono q (fun _ _ q => ws_st (wp_mono q (fun _ _ ⟨_, e, q⟩ => by rw [e]; exact q) fun _ _ q => q)) fun _ _ q => q)) fun _ _ q => q)
theorem ws_del {fo fi : Ex} (p : Wp (fo sl h) (fun x h2 => Wp (fi sl h2) (fun i h3 => ∃ h4, delIx x i h3 = some h4 ∧ N sl h4) E) E) : Ws (sDel fo fi sl h) N T B C E :=
  ws_st (wp_mono p (fun _ _ q => ws_st (wp_mono q (fun _ _ ⟨_, e, q⟩ => by rw [e]; exact q) fun _ _ q => q)) fun _ _ q => q)
/-! loops -/
def Ip (r : R (List W × (HS → Bool))) (K : List W → (HS → Bool) → HS → Prop) (E : Nat → HS → Prop) : Prop := Wp r (fun p h => K p.1 p.2 h) E
variable {KI : List W → (HS → Bool) → HS → Prop} {src : Ix}
theorem ip_seq (p : Wp (fa sl h) (fun w h1 => SvI h1 w fun ws => KI ws (keep w ws) h1) E) : Ip (iSeq fa sl h) KI E :=
  wp_bind (wp_mono p (fun _ _ ⟨_, e, q⟩ => by rw [e]; exact q) fun _ _ q => q)
theorem ip_r1 (p : Wp (fr sl h) (fun ws h1 => Is1 ws fun a => IsI a fun j => (-(2 ^ 62) ≤ j ∧ j < 2 ^ 62) ∧ KI (rItems 0 1 j.toNat) (fun _ => true) h1) E) : Ip (iR1 fr sl h) KI E :=
  wp_bind (wp_mono p (fun _ _ ⟨_, e, _, e1, b, q⟩ => by subst e e1; exact wp_pos b q) fun _ _ q => q)
theorem ip_r2 (p : Wp (fr sl h) (fun ws h1 => Is2 ws fun a b => IsI a fun i => IsI b fun j => (-(2 ^ 62) ≤ i ∧ i < 2 ^ 62 ∧ -(2 ^ 62) ≤ j ∧ j < 2 ^ 62) ∧ KI (rItems i 1 (j - i).toNat) (fun _ => true) h1) E) : Ip (iR2 fr sl h) KI E :=
  wp_bind (wp_mono p (fun _ _ ⟨_, _, e, _, e1, _, e2, b, q⟩ => by subst e e1 e2; exact wp_pos b q) fun _ _ q => q)
theorem ip_r3 (p : Wp (fr sl h) (fun ws h1 => Is3 ws fun a b c => IsI a fun i => IsI b fun j => IsI c fun c => rgOk i j c = true ∧ KI (rItems i c (rgN i j c)) (fun _ => true) h1) E) : Ip (iR3 fr sl h) KI E :=
  wp_bind (wp_mono p (fun _ _ ⟨_, _, _, e, _, e1, _, e2, _, e3, b, q⟩ => by subst e e1 e2 e3; exact wp_pos b q) fun _ _ q => q)
theorem ip_txt (p : Wp (fa sl h) (fun w h1 => IsS w fun x => KI (x.cps.toList.map fun c => W.str ⟨#[c]⟩) (fun _ => true) h1) E) : Ip (iTxt fa sl h) KI E :=
  wp_bind (wp_mono p (fun _ _ ⟨_, e, q⟩ => by subst e; exact q) fun _ _ q => q)
theorem ip_keys (p : Wp (fa sl h) (fun w h1 => ∃ ks ws, dview h1 w = some (ks, ws) ∧ KI (ks.map dkW) (fun _ => true) (lkW w h1)) E) : Ip (iKeys fa sl h) KI E :=
  wp_bind (wp_mono p (fun _ _ ⟨_, _, e, q⟩ => by rw [e]; exact q) fun _ _ q => q)
theorem ip_enum (p : Wp (fr sl h) (fun xs h1 => Is1 xs fun w => LvI h1 w fun ws => KI (enumW ws) (keep w ws) h1) E) : Ip (iEnum fr sl h) KI E :=
  wp_bind (wp_mono p (fun _ _ ⟨_, e, _, e2, q⟩ => by subst e; dsimp only; rw [e2]; exact q) fun _ _ q => q)
theorem ws_for (p : Ip (src sl h) (fun ws kp h1 => Ws (forL kp g sb ws sl h1) N T B C E) E) : Ws (sFor src g sb sl h) N T B C E := by
  unfold sFor
  unfold Ip Wp at p
  cases e : src sl h with
  | ok q h1 => rw [e] at p; exact p
  | exc c h1 => rw [e] at p; exact p
  | no => rw [e] at p; exact p.elim
theorem ws_forL {kp : HS → Bool} {ws : List W} (I : Nat → Sl → HS → Prop) (h0 : I 0 sl h) (hk : ∀ i sl h, i ≤ ws.length → I i sl h → kp h = true)
    (hs : ∀ i w sl h, ws[i]? = some w → I i sl h → Gp (g w sl h) (fun s h1 => Ws (sb s h1) (I (i + 1)) T N (I (i + 1)) E))
    (hd : ∀ sl h, I ws.length sl h → N sl h) : Ws (forL kp g sb ws sl h) N T B C E := by
  induction ws generalizing I sl h with
  | nil =>
    unfold forL
    rw [if_pos (hk 0 sl h (Nat.le_refl _) h0)]
    exact hd _ _ h0
  | cons w ws ih =>
    unfold forL
    rw [if_pos (hk 0 sl h (Nat.zero_le _) h0)]
    have q := hs 0 w sl h rfl h0
    cases e : g w sl h with
    | none => rw [e] at q; exact q.elim
    | some p =>
      obtain ⟨s, h1⟩ := p
      rw [e] at q
      have q : Ws (sb s h1) (I 1) T N (I 1) E := q
      show Ws (match sb s h1 with
        | RS.nx s2 h2 => forL kp g sb ws s2 h2
        | RS.ct s2 h2 => forL kp g sb ws s2 h2
        | RS.bk s2 h2 => RS.nx s2 h2
        | r => r) N T B C E
      have go : ∀ s2 h2, I 1 s2 h2 → Ws (forL kp g sb ws s2 h2) N T B C E := fun s2 h2 i2 =>
        ih (fun i => I (i + 1)) i2 (fun i sl h l => hk (i + 1) sl h (Nat.succ_le_succ l)) (fun i w sl h e => hs (i + 1) w sl h (by simpa using e)) (fun sl h i3 => hd sl h i3)
      cases e2 : sb s h1 <;> rw [e2] at q
      · exact go _ _ q
      · exact q
      · exact q
      · exact go _ _ q
      · exact q
      · exact q.elim
theorem ws_whileN {t : Tx} (I : Nat → Sl → HS → Prop) (hs : ∀ n sl h, I n sl h → Wp (t sl h) (fun k h1 => (k = true → ∃ n', n = n' + 1 ∧ Ws (sb sl h1) (I n') T N (I n') E) ∧ (k = false → N sl h1)) E) :
    ∀ (n f : Nat) (sl : Sl) (h : HS), I n sl h → n < f → Ws (whileL t sb f sl h) N T B C E := by
  intro n
  induction n with
  | zero =>
    intro f sl h i0 hf
    obtain ⟨f, rfl⟩ : ∃ f', f = f' + 1 := ⟨f - 1, by omega⟩
    unfold whileL
    refine ws_st (wp_mono (hs 0 sl h i0) (fun k h1 q => ?_) fun _ _ q => q)
    cases k with
    | true => obtain ⟨n', e, _⟩ := q.1 rfl; cases e
    | false => exact q.2 rfl
  | succ n ih =>
    intro f sl h i0 hf
    obtain ⟨f, rfl⟩ : ∃ f', f = f' + 1 := ⟨f - 1, by omega⟩
    unfold whileL
    refine ws_st (wp_mono (hs (n + 1) sl h i0) (fun k h1 q => ?_) fun _ _ q => q)
    cases k with
    | false => exact q.2 rfl
    | true =>
      obtain ⟨n', e, q⟩ := q.1 rfl
      have e' : n = n' := by omega
      subst e'
      rw [if_pos rfl]
      cases e2 : sb sl h1 <;> rw [e2] at q
      · exact ih f _ _ q (by omega)
      · exact q
      · exact q
      · exact ih f _ _ q (by omega)
      · exact q
      · exact q.elim
theorem ws_while {t : Tx} (I : Nat → Sl → HS → Prop) (n : Nat) (h0 : I n sl h) (hn : n < fuel) (hs : ∀ n sl h, I n sl h → Wp (t sl h) (fun k h1 => (k = true → ∃ n', n = n' + 1 ∧ Ws (sb sl h1) (I n') T N (I n') E) ∧ (k = false → N sl h1)) E) :
    Ws (sWhile t sb sl h) N T B C E := ws_whileN I hs n fuel sl h h0 hn
variable {own : List Nat} {tt : Tx} {te : Ex}
theorem wp_lc (p : Ip (src sl h) (fun ws kp h1 => Wp (lcLoop own kp g tt te sl ws [] h1) (fun acc h2 => Wp (mkL bx acc h2) KW E) E) E) : Wp (eLc bx own src g tt te sl h) KW E := wp_bind (wp_mono p (fun _ _ q => wp_bind q) fun _ _ q => q)
theorem wp_lcLoopI {kp : HS → Bool} {ws : List W} (I : Nat → List W → HS → Prop) {acc : List W} (h0 : I 0 acc h) (hl : acc.length + ws.length ≤ sizeLine) (hk : ∀ i acc h, i ≤ ws.length → I i acc h → kp h = true)
    (hs : ∀ i w acc h, ws[i]? = some w → I i acc h → Gp (g w (wipeS sl own) h) (fun s h1 => Wp (tt s h1) (fun b h2 => (b = true → Wp (te s h2) (fun y h3 => I (i + 1) (acc ++ [y]) h3) NoE) ∧ (b = false → I (i + 1) acc h2)) NoE))
    (hd : ∀ acc h, I ws.length acc h → KA acc h) : Wp (lcLoop own kp g tt te sl ws acc h) KA E := by
  induction ws generalizing I acc h with
  | nil =>
    unfold lcLoop
    rw [if_pos (hk 0 acc h (Nat.le_refl _) h0)]
    exact hd _ _ h0
  | cons w ws ih =>
    unfold lcLoop
    rw [if_pos (hk 0 acc h (Nat.zero_le _) h0)]
    have q := hs 0 w acc h rfl h0
    cases e : g w (wipeS sl own) h with
    | none => rw [e] at q; exact q.elim
    | some p =>
      obtain ⟨s, h1⟩ := p
      rw [e] at q
      simp only [List.length_cons] at hl
      have go : ∀ acc2 h2, acc2.length ≤ acc.length + 1 → I 1 acc2 h2 → Wp (lcLoop own kp g tt te sl ws acc2 h2) KA E := fun acc2 h2 l2 i2 =>
        ih (fun i => I (i + 1)) i2 (by omega) (fun i sl h l => hk (i + 1) sl h (Nat.succ_le_succ l)) (fun i w sl h e => hs (i + 1) w sl h (by simpa using e)) (fun sl h i3 => hd sl h i3)
      refine wp_bind (wp_noX (wp_mono q (fun b h2 q => ?_) fun _ _ q => q))
      cases b with
      | true =>
        rw [if_pos rfl]
        refine wp_bind (wp_noX (wp_mono (q.1 rfl) (fun y h3 q => ?_) fun _ _ q => q))
        exact wp_pos (by omega) (go _ _ (by simp) q)
      | false =>
        rw [if_neg (by decide)]
        exact go _ _ (by omega) (q.2 rfl)
/-- no store, whole numbers -/
theorem wp_lcI {kp : HS → Bool} {ns : List Int} (P : Int → Bool) (F : Int → W) (hl : ns.length ≤ sizeLine) (hk : kp h = true)
    (hs : ∀ n ∈ ns, Gp (g (.int n) (wipeS sl own) h) (fun s h1 => Wp (tt s h1) (fun b h2 => b = P n ∧ (b = true → Wp (te s h2) (fun y h3 => y = F n ∧ h3 = h) NoE) ∧ h2 = h) NoE))
    (hd : KA ((ns.filter P).map F) h) : Wp (lcLoop own kp g tt te sl (ns.map W.int) [] h) KA E := by
  refine wp_lcLoopI (fun i acc h' => h' = h ∧ acc = ((ns.take i).filter P).map F) ⟨rfl, rfl⟩ (by simpa using hl) (fun i acc h' _ q => by rw [q.1]; exact hk) (fun i w acc h' e q => ?_) (fun acc h' q => ?_)
  · obtain ⟨rfl, rfl⟩ := q
    rw [List.getElem?_map] at e
    cases e2 : ns[i]? with
    | none => rw [e2] at e; cases e
    | some n =>
      rw [e2] at e
      cases e
      have z := hs n (List.mem_of_getElem? e2)
      have tk : ns.take (i + 1) = ns.take i ++ [n] := by rw [List.take_add_one, e2]; rfl
      unfold Gp at z ⊢
      split at z
      · rename_i s h1 e3
        refine wp_mono z (fun b h2 q => ?_) fun _ _ q => q
        obtain ⟨q1, q2, q3⟩ := q
        subst q3
        refine ⟨fun eb => wp_mono (q2 eb) (fun y h3 q => ?_) fun _ _ q => q, fun eb => ?_⟩
        · obtain ⟨rfl, rfl⟩ := q
          refine ⟨rfl, ?_⟩
          rw [tk, List.filter_append, List.map_append, List.filter_cons_of_pos (by rw [← q1]; exact eb)]
          rfl
        · refine ⟨rfl, ?_⟩
          rw [tk, List.filter_append, List.map_append, List.filter_cons_of_neg (by rw [← q1, eb]; decide)]
          simp
      · exact z.elim
  · obtain ⟨rfl, rfl⟩ := q
    rw [List.length_map, List.take_length]
    exact hd
/-- no store -/
theorem wp_lcX {γ : Type} {kp : HS → Bool} {ns : List γ} (ex : γ → W) (P : γ → Bool) (F : γ → W) (hl : ns.length ≤ sizeLine) (hk : kp h = true)
    (hs : ∀ n ∈ ns, Gp (g (ex n) (wipeS sl own) h) (fun s h1 => Wp (tt s h1) (fun b h2 => b = P n ∧ (b = true → Wp (te s h2) (fun y h3 => y = F n ∧ h3 = h) NoE) ∧ h2 = h) NoE))
    (hd : KA ((ns.filter P).map F) h) : Wp (lcLoop own kp g tt te sl (ns.map ex) [] h) KA E := by
  refine wp_lcLoopI (fun i acc h' => h' = h ∧ acc = ((ns.take i).filter P).map F) ⟨rfl, rfl⟩ (by simpa using hl) (fun i acc h' _ q => by rw [q.1]; exact hk) (fun i w acc h' e q => ?_) (fun acc h' q => ?_)
  · obtain ⟨rfl, rfl⟩ := q
    rw [List.getElem?_map] at e
    cases e2 : ns[i]? with
    | none => rw [e2] at e; cases e
    | some n =>
      rw [e2] at e
      cases e
      have z := hs n (List.mem_of_getElem? e2)
      have tk : ns.take (i + 1) = ns.take i ++ [n] := by rw [List.take_add_one, e2]; rfl
      unfold Gp at z ⊢
      split at z
      · rename_i s h1 e3
        refine wp_mono z (fun b h2 q => ?_) fun _ _ q => q
        obtain ⟨q1, q2, q3⟩ := q
        subst q3
        refine ⟨fun eb => wp_mono (q2 eb) (fun y h3 q => ?_) fun _ _ q => q, fun eb => ?_⟩
        · obtain ⟨rfl, rfl⟩ := q
          refine ⟨rfl, ?_⟩
          rw [tk, List.filter_append, List.map_append, List.filter_cons_of_pos (by rw [← q1]; exact eb)]
          rfl
        · refine ⟨rfl, ?_⟩
          rw [tk, List.filter_append, List.map_append, List.filter_cons_of_neg (by rw [← q1, eb]; decide)]
          simp
      · exact z.elim
  · obtain ⟨rfl, rfl⟩ := q
    rw [List.length_map, List.take_length]
    exact hd
end
end Pk
end

/-! Qb -/
section
set_option Elab.async false
set_option linter.all false
set_option maxRecDepth 100000
set_option maxHeartbeats 4000000
namespace Pk
open PySem PySem.Spec L2
section
variable {α β ω : Type} {K : W → HS → Prop} {E : Nat → HS → Prop} {h h1 : HS} {sl s : Sl} {c : Nat} {w x y : W} {own : List Nat} {tg : Gx} {tt : Tx} {te : Ex} {src : Ix}
def outM : RS → R W
  | .nx _ h' => .ok .non h'
  | .rt w h' => .ok w h'
  | .exc c _ h' => .exc c h'
  | _ => .no
theorem wp_out {r : RS} (p : Ws r (fun _ h => K .non h) K (fun _ _ => False) (fun _ _ => False) E) : Wp (outM r) K E := by
  cases r <;> first | exact p | exact p.elim
/-! generator expressions -/
theorem wp_gLoop {kp : HS → Bool} {ω β : Type} {KO : ω → HS → Prop} {fin : β → HS → R ω} {step : β → W → Option (Sum ω β)} {ws : List W} {b : β} (I : Nat → β → HS → Prop) (h0 : I 0 b h) (hk : ∀ i b h, i ≤ ws.length → I i b h → kp h = true)
    (hs : ∀ i w b h, ws[i]? = some w → I i b h → Gp (tg w (wipeS sl own) h) (fun s h1 => Wp (tt s h1) (fun c h2 => (c = true → Wp (te s h2) (fun y h3 => (∃ z, step b y = some (.inl z) ∧ KO z h3) ∨ ∃ b', step b y = some (.inr b') ∧ I (i + 1) b' h3) NoE) ∧ (c = false → I (i + 1) b h2)) NoE))
    (hd : ∀ b h, I ws.length b h → Wp (fin b h) KO E) : Wp (gLoop own kp tg tt te sl fin step ws b h) KO E := by
  induction ws generalizing I b h with
  | nil =>
    unfold gLoop
    rw [if_pos (hk 0 b h (Nat.le_refl _) h0)]
    exact hd _ _ h0
  | cons w ws ih =>
    unfold gLoop
    rw [if_pos (hk 0 b h (Nat.zero_le _) h0)]
    have q := hs 0 w b h rfl h0
    cases e : tg w (wipeS sl own) h with
    | none => rw [e] at q; exact q.elim
    | some p =>
      obtain ⟨s, h1⟩ := p
      rw [e] at q
      have go : ∀ b2 h2, I 1 b2 h2 → Wp (gLoop own kp tg tt te sl fin step ws b2 h2) KO E := fun b2 h2 i2 =>
        ih (fun i => I (i + 1)) i2 (fun i sl h l => hk (i + 1) sl h (Nat.succ_le_succ l)) (fun i w sl h e => hs (i + 1) w sl h (by simpa using e)) (fun sl h i3 => hd sl h i3)
      refine wp_bind (wp_noX (wp_mono q (fun c h2 q => ?_) fun _ _ q => q))
      cases c with
      | true =>
        rw [if_pos rfl]
        refine wp_bind (wp_noX (wp_mono (q.1 rfl) (fun y h3 q => ?_) fun _ _ q => q))
        unfold gNext
        rcases q with ⟨z, e1, q⟩ | ⟨b', e1, q⟩
        · rw [e1]; exact q
        · rw [e1]; exact go _ _ q
      | false =>
        rw [if_neg (by decide)]
        exact go _ _ (q.2 rfl)
/-- what is asked of an element that stores nothing: kept by P, worth F -/
def El (tg : Gx) (tt : Tx) (te : Ex) (sl : Sl) (h : HS) (w : W) (p : Bool) (y : W) : Prop :=
  Gp (tg w sl h) (fun s h1 => Wp (tt s h1) (fun c h2 => c = p ∧ h2 = h ∧ (c = true → Wp (te s h2) (fun y' h3 => y' = y ∧ h3 = h) NoE)) NoE)
theorem el_gp {w : W} {p : Bool} {y : W} {I : Bool → W → HS → Prop} (e : El tg tt te sl h w p y) :
    Gp (tg w sl h) (fun s h1 => Wp (tt s h1) (fun c h2 => (c = true → Wp (te s h2) (fun y' h3 => p = true ∧ y' = y ∧ h3 = h) NoE) ∧ (c = false → p = false ∧ h2 = h)) NoE) := by
  unfold El Gp at e
  unfold Gp
  split at e
  · refine wp_mono e (fun c h2 q => ⟨fun ec => wp_mono (q.2.2 ec) (fun _ _ r => ⟨by rw [← q.1]; exact ec, r⟩) fun _ _ r => r, fun ec => ⟨by rw [← q.1]; exact ec, q.2.1⟩⟩) fun _ _ q => q
  · exact e.elim
theorem gp_mono {g : Option (Sl × HS)} {N N' : Sl → HS → Prop} (p : Gp g N) (f : ∀ s h, N s h → N' s h) : Gp g N' := by
  unfold Gp at p ⊢
  split at p
  · exact f _ _ p
  · exact p
theorem wp_tupI {kp : HS → Bool} {ns : List Int} (P : Int → Bool) (F : Int → W) (hl : ns.length ≤ sizeLine) (hk : kp h = true) (hs : ∀ n ∈ ns, El tg tt te (wipeS sl own) h (.int n) (P n) (F n))
    (hd : K (.tup ((ns.filter P).map F)) h) : Wp (gLoop own kp tg tt te sl (fun ws h => .ok (.tup ws) h) stTup (ns.map W.int) [] h) K E := by
  refine wp_gLoop (fun i acc h' => h' = h ∧ acc = ((ns.take i).filter P).map F) ⟨rfl, rfl⟩ (fun i acc h' _ q => by rw [q.1]; exact hk) (fun i w acc h' e q => ?_) (fun acc h' q => ?_)
  · obtain ⟨rfl, rfl⟩ := q
    rw [List.getElem?_map] at e
    cases e2 : ns[i]? with
    | none => rw [e2] at e; cases e
    | some n =>
      rw [e2] at e
      cases e
      have hi : i < ns.length := (List.getElem?_eq_some_iff.mp e2).1
      have tk : ns.take (i + 1) = ns.take i ++ [n] := by rw [List.take_add_one, e2]; rfl
      refine gp_mono (el_gp (I := fun _ _ _ => True) (hs n (List.mem_of_getElem? e2))) fun s h1 z => wp_mono z (fun c h2 ⟨z1, z2⟩ => ⟨fun ec => wp_mono (z1 ec) (fun y h3 ⟨p1, p2, p3⟩ => .inr ⟨_, ?_, p3, rfl⟩) fun _ _ q => q, fun ec => ?_⟩) fun _ _ q => q
      · subst p2
        unfold stTup
        rw [if_pos, tk, List.filter_append, List.map_append, List.filter_cons_of_pos p1]
        · rfl
        · have := List.length_filter_le P (ns.take i)
          rw [List.length_map]
          have l2 : (ns.take i).length ≤ i := List.length_take_le i ns
          omega
      · refine ⟨(z2 ec).2, ?_⟩
        rw [tk, List.filter_append, List.map_append, List.filter_cons_of_neg (by rw [(z2 ec).1]; decide)]
        simp
  · obtain ⟨rfl, rfl⟩ := q
    rw [List.length_map, List.take_length]
    exact hd
theorem wp_tupX {γ : Type} {kp : HS → Bool} {ns : List γ} (ex : γ → W) (P : γ → Bool) (F : γ → W) (hl : ns.length ≤ sizeLine) (hk : kp h = true) (hs : ∀ n ∈ ns, El tg tt te (wipeS sl own) h (ex n) (P n) (F n))
    (hd : K (.tup ((ns.filter P).map F)) h) : Wp (gLoop own kp tg tt te sl (fun ws h => .ok (.tup ws) h) stTup (ns.map ex) [] h) K E := by
  refine wp_gLoop (fun i acc h' => h' = h ∧ acc = ((ns.take i).filter P).map F) ⟨rfl, rfl⟩ (fun i acc h' _ q => by rw [q.1]; exact hk) (fun i w acc h' e q => ?_) (fun acc h' q => ?_)
  · obtain ⟨rfl, rfl⟩ := q
    rw [List.getElem?_map] at e
    cases e2 : ns[i]? with
    | none => rw [e2] at e; cases e
    | some n =>
      rw [e2] at e
      cases e
      have hi : i < ns.length := (List.getElem?_eq_some_iff.mp e2).1
      have tk : ns.take (i + 1) = ns.take i ++ [n] := by rw [List.take_add_one, e2]; rfl
      refine gp_mono (el_gp (I := fun _ _ _ => True) (hs n (List.mem_of_getElem? e2))) fun s h1 z => wp_mono z (fun c h2 ⟨z1, z2⟩ => ⟨fun ec => wp_mono (z1 ec) (fun y h3 ⟨p1, p2, p3⟩ => .inr ⟨_, ?_, p3, rfl⟩) fun _ _ q => q, fun ec => ?_⟩) fun _ _ q => q
      · subst p2
        unfold stTup
        rw [if_pos, tk, List.filter_append, List.map_append, List.filter_cons_of_pos p1]
        · rfl
        · have := List.length_filter_le P (ns.take i)
          rw [List.length_map]
          have l2 : (ns.take i).length ≤ i := List.length_take_le i ns
          omega
      · refine ⟨(z2 ec).2, ?_⟩
        rw [tk, List.filter_append, List.map_append, List.filter_cons_of_neg (by rw [(z2 ec).1]; decide)]
        simp
  · obtain ⟨rfl, rfl⟩ := q
    rw [List.length_map, List.take_length]
    exact hd
theorem wp_sumI {kp : HS → Bool} {ns : List Int} (P : Int → Bool) (F : Int → Int) (hl : ns.length ≤ 2 ^ 20) (hb : ∀ n ∈ ns, 0 ≤ F n ∧ F n ≤ 2 ^ 40) (hk : kp h = true) (hs : ∀ n ∈ ns, El tg tt te (wipeS sl own) h (.int n) (P n) (.int (F n)))
    (hd : K (.int ((ns.filter P).map F).sum) h) : Wp (gLoop own kp tg tt te sl (fun n h => .ok (.int n) h) stSum (ns.map W.int) 0 h) K E := by
  have bd : ∀ l : List Int, (∀ n ∈ l, 0 ≤ F n ∧ F n ≤ 2 ^ 40) → 0 ≤ ((l.filter P).map F).sum ∧ ((l.filter P).map F).sum ≤ l.length * 2 ^ 40 := by
    intro l
    induction l with
    | nil => intro _; simp
    | cons n l ih =>
      intro hb
      obtain ⟨i1, i2⟩ := ih fun m hm => hb m (List.mem_cons_of_mem _ hm)
      obtain ⟨b1, b2⟩ := hb n List.mem_cons_self
      by_cases hp : P n = true
      · rw [List.filter_cons_of_pos hp, List.map_cons, List.sum_cons, List.length_cons]
        omega
      · rw [List.filter_cons_of_neg hp, List.length_cons]
        omega
  refine wp_gLoop (fun i (acc : Int) h' => h' = h ∧ acc = (((ns.take i).filter P).map F).sum) ⟨rfl, rfl⟩ (fun i acc h' _ q => by rw [q.1]; exact hk) (fun i w acc h' e q => ?_) (fun acc h' q => ?_)
  · obtain ⟨rfl, rfl⟩ := q
    rw [List.getElem?_map] at e
    cases e2 : ns[i]? with
    | none => rw [e2] at e; cases e
    | some n =>
      rw [e2] at e
      cases e
      have hi : i < ns.length := (List.getElem?_eq_some_iff.mp e2).1
      have tk : ns.take (i + 1) = ns.take i ++ [n] := by rw [List.take_add_one, e2]; rfl
      refine gp_mono (el_gp (I := fun _ _ _ => True) (hs n (List.mem_of_getElem? e2))) fun s h1 z => wp_mono z (fun c h2 ⟨z1, z2⟩ => ⟨fun ec => wp_mono (z1 ec) (fun y h3 ⟨p1, p2, p3⟩ => .inr ⟨_, ?_, p3, rfl⟩) fun _ _ q => q, fun ec => ?_⟩) fun _ _ q => q
      · subst p2
        have hbn := hb n (List.mem_of_getElem? e2)
        obtain ⟨i1, i2⟩ := bd (ns.take i) fun m hm => hb m (List.mem_of_mem_take hm)
        have l2 : (ns.take i).length ≤ i := List.length_take_le i ns
        unfold stSum
        dsimp only
        rw [if_pos, tk, List.filter_append, List.map_append, List.filter_cons_of_pos p1, List.sum_append]
        · simp
        · unfold inL
          simp only [Bool.and_eq_true, decide_eq_true_eq]
          omega
      · refine ⟨(z2 ec).2, ?_⟩
        rw [tk, List.filter_append, List.map_append, List.filter_cons_of_neg (by rw [(z2 ec).1]; decide)]
        simp
  · obtain ⟨rfl, rfl⟩ := q
    rw [List.length_map, List.take_length]
    exact hd
theorem wp_sumX {γ : Type} {kp : HS → Bool} {ns : List γ} (ex : γ → W) (P : γ → Bool) (F : γ → Int) (hl : ns.length ≤ 2 ^ 20) (hb : ∀ n ∈ ns, 0 ≤ F n ∧ F n ≤ 2 ^ 40) (hk : kp h = true) (hs : ∀ n ∈ ns, El tg tt te (wipeS sl own) h (ex n) (P n) (.int (F n)))
    (hd : K (.int ((ns.filter P).map F).sum) h) : Wp (gLoop own kp tg tt te sl (fun n h => .ok (.int n) h) stSum (ns.map ex) 0 h) K E := by
  have bd : ∀ l : List γ, (∀ n ∈ l, 0 ≤ F n ∧ F n ≤ 2 ^ 40) → 0 ≤ ((l.filter P).map F).sum ∧ ((l.filter P).map F).sum ≤ l.length * 2 ^ 40 := by
    intro l
    induction l with
    | nil => intro _; simp
    | cons n l ih =>
      intro hb
      obtain ⟨i1, i2⟩ := ih fun m hm => hb m (List.mem_cons_of_mem _ hm)
      obtain ⟨b1, b2⟩ := hb n List.mem_cons_self
      by_cases hp : P n = true
      · rw [List.filter_cons_of_pos hp, List.map_cons, List.sum_cons, List.length_cons]
        omega
      · rw [List.filter_cons_of_neg hp, List.length_cons]
        omega
  refine wp_gLoop (fun i (acc : Int) h' => h' = h ∧ acc = (((ns.take i).filter P).map F).sum) ⟨rfl, rfl⟩ (fun i acc h' _ q => by rw [q.1]; exact hk) (fun i w acc h' e q => ?_) (fun acc h' q => ?_)
  · obtain ⟨rfl, rfl⟩ := q
    rw [List.getElem?_map] at e
    cases e2 : ns[i]? with
    | none => rw [e2] at e; cases e
    | some n =>
      rw [e2] at e
      cases e
      have hi : i < ns.length := (List.getElem?_eq_some_iff.mp e2).1
      have tk : ns.take (i + 1) = ns.take i ++ [n] := by rw [List.take_add_one, e2]; rfl
      refine gp_mono (el_gp (I := fun _ _ _ => True) (hs n (List.mem_of_getElem? e2))) fun s h1 z => wp_mono z (fun c h2 ⟨z1, z2⟩ => ⟨fun ec => wp_mono (z1 ec) (fun y h3 ⟨p1, p2, p3⟩ => .inr ⟨_, ?_, p3, rfl⟩) fun _ _ q => q, fun ec => ?_⟩) fun _ _ q => q
      · subst p2
        have hbn := hb n (List.mem_of_getElem? e2)
        obtain ⟨i1, i2⟩ := bd (ns.take i) fun m hm => hb m (List.mem_of_mem_take hm)
        have l2 : (ns.take i).length ≤ i := List.length_take_le i ns
        unfold stSum
        dsimp only
        rw [if_pos, tk, List.filter_append, List.map_append, List.filter_cons_of_pos p1, List.sum_append]
        · simp
        · unfold inL
          simp only [Bool.and_eq_true, decide_eq_true_eq]
          omega
      · refine ⟨(z2 ec).2, ?_⟩
        rw [tk, List.filter_append, List.map_append, List.filter_cons_of_neg (by rw [(z2 ec).1]; decide)]
        simp
  · obtain ⟨rfl, rfl⟩ := q
    rw [List.length_map, List.take_length]
    exact hd
theorem wp_anyW {kp : HS → Bool} {ws : List W} (P : W → Bool) (hk : kp h = true) (hs : ∀ n ∈ ws, El tg tt te (wipeS sl own) h n true (.bl (P n)))
    (hd : K (.bl (ws.any P)) h) : Wp (gLoop own kp tg tt te sl (fun _ h => .ok (.bl false) h) stAny ws () h) K E := by
  refine wp_gLoop (fun i _ h' => h' = h ∧ ws.any P = (ws.drop i).any P) ⟨rfl, rfl⟩ (fun i acc h' _ q => by rw [q.1]; exact hk) (fun i w acc h' e q => ?_) (fun acc h' q => ?_)
  · obtain ⟨rfl, q⟩ := q
    have hi := (List.getElem?_eq_some_iff.mp e)
    obtain ⟨hi, e'⟩ := hi
    have tk : ws.drop i = w :: ws.drop (i + 1) := by rw [List.drop_eq_getElem_cons hi, e']
    refine gp_mono (el_gp (I := fun _ _ _ => True) (hs w (List.mem_of_getElem? e))) fun s h1 z => wp_mono z (fun c h2 ⟨z1, z2⟩ => ⟨fun ec => wp_mono (z1 ec) (fun y h3 ⟨p1, p2, p3⟩ => ?_) fun _ _ q => q, fun ec => ?_⟩) fun _ _ q => q
    · subst p2 p3
      rw [tk, List.any_cons] at q
      cases ep : P w with
      | true =>
        rw [ep] at q
        exact .inl ⟨_, rfl, by rw [q] at hd; exact hd⟩
      | false => rw [ep] at q; exact .inr ⟨(), rfl, rfl, q⟩
    · exact absurd (z2 ec).1 (by decide)
  · obtain ⟨rfl, q⟩ := q
    rw [List.drop_length] at q
    rw [q] at hd
    exact hd
theorem wp_any (p : Ip (src sl h) (fun ws kp h1 => Wp (gLoop own kp tg tt te sl (fun _ h => .ok (.bl false) h) stAny ws () h1) K E) E) : Wp (eAny own src tg tt te sl h) K E := wp_bind p
theorem wp_all (p : Ip (src sl h) (fun ws kp h1 => Wp (gLoop own kp tg tt te sl (fun _ h => .ok (.bl true) h) stAll ws () h1) K E) E) : Wp (eAll own src tg tt te sl h) K E := wp_bind p
theorem wp_sumG (p : Ip (src sl h) (fun ws kp h1 => Wp (gLoop own kp tg tt te sl (fun n h => .ok (.int n) h) stSum ws 0 h1) K E) E) : Wp (eSumG own src tg tt te sl h) K E := wp_bind p
theorem wp_tupG (p : Ip (src sl h) (fun ws kp h1 => Wp (gLoop own kp tg tt te sl (fun ws h => .ok (.tup ws) h) stTup ws [] h1) K E) E) : Wp (eTupG own src tg tt te sl h) K E := wp_bind p
/-! whole numbers in a row -/
def iota (lo : Int) (n : Nat) : List Int := (List.range n).map fun i => lo + (i : Nat)
theorem rItems_one (lo : Int) (n : Nat) : rItems lo 1 n = (iota lo n).map W.int := by
  unfold rItems iota
  rw [List.map_map]
  exact List.map_congr_left fun i _ => by simp
theorem mem_iota {lo x : Int} {n : Nat} : x ∈ iota lo n ↔ lo ≤ x ∧ x < lo + n := by
  unfold iota
  rw [List.mem_map]
  constructor
  · rintro ⟨i, hi, rfl⟩
    have := List.mem_range.mp hi
    omega
  · rintro ⟨a, b⟩
    exact ⟨(x - lo).toNat, List.mem_range.mpr (by omega), by omega⟩
@[simp] theorem iota_length (lo : Int) (n : Nat) : (iota lo n).length = n := by simp [iota]
theorem iota_succ (lo : Int) (n : Nat) : iota lo (n + 1) = iota lo n ++ [lo + n] := by simp [iota, List.range_succ]
theorem iota_cons (lo : Int) (n : Nat) : iota lo (n + 1) = lo :: iota (lo + 1) n := by
  simp only [iota, List.range_succ_eq_map, List.map_cons, List.map_map]
  congr 1
  · simp
  · exact List.map_congr_left fun i _ => by simp only [Function.comp_def]; omega
theorem iota_append (lo : Int) : ∀ (a b : Nat) (n : Nat), n = a + b → iota lo n = iota lo a ++ iota (lo + a) b
  | a, 0, n, e => by subst e; simp [iota]
  | a, b + 1, n, e => by
    obtain ⟨m, rfl⟩ : ∃ m, n = m + 1 := ⟨n - 1, by omega⟩
    rw [iota_succ, iota_append lo a b m (by omega), iota_succ, List.append_assoc]
    congr 3
    omega
@[simp] theorem iota_zero (lo : Int) : iota lo 0 = [] := rfl
theorem rgOk_of {i j c : Int} (c0 : c ≠ 0) (i1 : -1000000 ≤ i) (i2 : i ≤ 1000000) (j1 : -1000000 ≤ j) (j2 : j ≤ 1000000) (c1 : -1000000 ≤ c) (c2 : c ≤ 1000000) : rgOk i j c = true := by
  have hs : 0 ≤ Builtin.Range.rangeSize i j c ∧ Builtin.Range.rangeSize i j c ≤ 3000000 := by
    unfold Builtin.Range.rangeSize
    by_cases cp : c > 0
    · rw [if_pos cp]
      split
      · have h1 : 0 ≤ (j - i - 1) / c := Int.ediv_nonneg (by omega) (by omega)
        have h2 : (j - i - 1) / c ≤ j - i - 1 := Int.ediv_le_self _ (by omega)
        omega
      · omega
    · rw [if_neg cp]
      split
      · have h1 : 0 ≤ (i - j - 1) / (-c) := Int.ediv_nonneg (by omega) (by omega)
        have h2 : (i - j - 1) / (-c) ≤ i - j - 1 := Int.ediv_le_self _ (by omega)
        omega
      · omega
  have f : ∀ x : Int, -10000000 ≤ x → x ≤ 10000000 → Builtin.Range.rangeFitsLong x = true := fun x h1 h2 => by
    unfold Builtin.Range.rangeFitsLong
    simp only [Bool.and_eq_true, decide_eq_true_eq]
    omega
  have sm : Builtin.Range.small i j c = true := by
    unfold Builtin.Range.small
    rw [f i (by omega) (by omega), f j (by omega) (by omega), f c (by omega) (by omega), f _ (by omega) (by omega)]
    by_cases cp : c > 0
    · rw [if_pos cp, f _ (by omega) (by omega)]; simp
    · rw [if_neg cp, f _ (by omega) (by omega)]; simp
  unfold rgOk
  rw [sm]
  simp only [Bool.and_eq_true, decide_eq_true_eq]
  exact ⟨⟨⟨c0, by omega⟩, trivial⟩, hs.1⟩
/-! == of what is frozen -/
def okW : Nat → W → Bool
  | 0, _ => false
  | n + 1, w => match w with
    | .non => true
    | .bl _ => true
    | .int _ => true
    | .str x => PyData.strOk x
    | .tup ws => ws.all (okW n)
    | .kt ws => ws.all (okW n)
    | .lst ws => ws.all (okW n)
    | _ => false
theorem okW_pd : ∀ (n : Nat) (w : W), okW n w = true → ∃ d, pd h n w = some d ∧ PyData.canLay0 d = true ∧ PyData.depth d ≤ n
  | 0, _, e => by cases e
  | n + 1, w, e => by
    have all : ∀ ws : List W, ws.all (okW n) = true → ∃ ds, pdl (pd h n) ws = some ds ∧ PyData.canLayAll0 ds = true ∧ PyData.depthAll ds ≤ n := by
      intro ws
      induction ws with
      | nil => intro _; exact ⟨[], rfl, rfl, Nat.zero_le _⟩
      | cons w ws ih =>
        intro e
        rw [List.all_cons, Bool.and_eq_true] at e
        obtain ⟨ds, a1, a2, a3⟩ := ih e.2
        obtain ⟨d, b1, b2, b3⟩ := okW_pd n w e.1
        refine ⟨d :: ds, by unfold pdl; rw [b1, a1], ?_, ?_⟩
        · unfold PyData.canLayAll0; rw [b2, a2]; rfl
        · unfold PyData.depthAll; omega
    unfold okW at e
    unfold pd
    cases w with
    | non => exact ⟨_, rfl, rfl, Nat.zero_le _⟩
    | bl _ => exact ⟨_, rfl, rfl, Nat.zero_le _⟩
    | int _ => exact ⟨_, rfl, rfl, Nat.zero_le _⟩
    | str x => exact ⟨_, rfl, by simpa [PyData.canLay0] using e, Nat.zero_le _⟩
    | tup ws => obtain ⟨ds, a1, a2, a3⟩ := all ws e; exact ⟨.tuple ds, by dsimp only; rw [a1]; rfl, by unfold PyData.canLay0; exact a2, by unfold PyData.depth; omega⟩
    | kt ws => obtain ⟨ds, a1, a2, a3⟩ := all ws e; exact ⟨.tuple ds, by dsimp only; rw [a1]; rfl, by unfold PyData.canLay0; exact a2, by unfold PyData.depth; omega⟩
    | lst ws => obtain ⟨ds, a1, a2, a3⟩ := all ws e; exact ⟨.list ds, by dsimp only [lview]; rw [a1]; rfl, by unfold PyData.canLay0; exact a2, by unfold PyData.depth; omega⟩
    | _ => cases e
theorem pd_shaped {w : W} {d : PyData} (e : okW 9 w = true) (p : pd h 9 w = some d) : SeqAt.shaped d = true := by
  obtain ⟨d', e1, e2, e3⟩ := okW_pd (h := h) 9 w e
  rw [p] at e1
  cases e1
  unfold SeqAt.shaped
  rw [e2, decide_eq_true (by omega)]
  rfl
theorem weq_pd {x y : W} {d d' : PyData} (nx : dview h x = none) (ni : ∀ a b, ¬ (x = .int a ∧ y = .int b)) (ns : ∀ a b, ¬ (x = .str a ∧ y = .str b)) (nb : ∀ a b, ¬ (x = .bl a ∧ y = .bl b)) (ex : pd h 9 x = some d) (ey : pd h 9 y = some d') (sx : SeqAt.shaped d = true) (sy : SeqAt.shaped d' = true) : weq h x y = some (PyData.eqv d d') := by
  unfold weq
  split
  · exact absurd ⟨rfl, rfl⟩ (ni _ _)
  · exact absurd ⟨rfl, rfl⟩ (ns _ _)
  · exact absurd ⟨rfl, rfl⟩ (nb _ _)
  · rw [nx]
    dsimp only
    rw [ex, ey]
    dsimp only
    rw [if_pos ⟨sx, sy⟩]
def isCont : W → Bool
  | .tup _ => true | .kt _ => true | .lst _ => true | _ => false
theorem weq_refl {x y : W} (ex : okW 9 x = true) (ey : okW 9 y = true) (c : isCont x = true) (e : pd h 9 x = pd h 9 y) : weq h x y = some true := by
  obtain ⟨d, e1, e2, e3⟩ := okW_pd (h := h) 9 x ex
  have e4 := e.symm.trans e1
  have sx := pd_shaped ex e1
  rw [weq_pd (d := d) (d' := d) (by cases x <;> first | rfl | cases c) (fun a b z => by rw [z.1] at c; cases c) (fun a b z => by rw [z.1] at c; cases c) (fun a b z => by rw [z.1] at c; cases c) e1 e4 sx sx, SeqAt.eqv_refl d e2]
theorem okW_ints (n : Nat) (l : List Int) : (l.map W.int).all (okW (n + 1)) = true := by
  rw [List.all_map, List.all_eq_true]; intro _ _; rfl
theorem weq_lst {ws : List W} (e : ws.all (okW 8) = true) : weq h (.lst ws) (.lst ws) = some true := weq_refl e e rfl rfl
theorem weq_tup {ws : List W} (e : ws.all (okW 8) = true) : weq h (.tup ws) (.tup ws) = some true := weq_refl e e rfl rfl
theorem weq_kttup {ws : List W} (e : ws.all (okW 8) = true) : weq h (.kt ws) (.tup ws) = some true := weq_refl e e rfl rfl
theorem weq_tupkt {ws : List W} (e : ws.all (okW 8) = true) : weq h (.tup ws) (.kt ws) = some true := weq_refl e e rfl rfl
end
end Pk
end

/-! PlM -/
section
set_option Elab.async false
set_option linter.all false
set_option maxRecDepth 100000
set_option maxHeartbeats 4000000
/-! list(zip(a, b)) over two tuples -/
namespace ZL
open PySem PySem.Spec PyProof.Rows
open PySem.Sem (wp)
abbrev ZipIt (h : Heap) (z TI TO : Addr) (a : Addr) (f : Bool) : Prop :=
  h.get? z = some { cls := .type "zip", dict := none, data := .fields #[rawInt a, .bool f, .bool false, .ref TI, .ref TO], slots := #[] }
section
variable {prog : Program} {w : World} {A : Around} {E : Value → Shared → Prop} {s : Shared}
theorem out_item {z TI TO i1 i2 l1 l2 a : Addr} {f : Bool} {oa : Obj} {k1 k2 : Nat} {xs ys : Array Value} {x y : Value} {Q : Value → Shared → Prop} (D : ZipApart z TI TO i1 i2 l1 l2)
    (hz : ZipIt s.heap z TI TO a f) (ha : s.heap.get? a = some oa) (hTI : IsPair s.heap TI (.ref i1) (.ref i2))
    (h1 : s.heap.IsTupleIter i1 l1 k1) (h2 : s.heap.IsTupleIter i2 l2 k2) (hl1 : s.heap.IsTuple l1 xs) (hl2 : s.heap.IsTuple l2 ys) (hx : xs[k1]? = some x) (hy : ys[k2]? = some y)
    (hQ : ∀ h', ZipIt h' z TI TO a true → h'.IsTupleIter i1 l1 (k1 + 1) → h'.IsTupleIter i2 l2 (k2 + 1) → IsPair h' s.heap.objs.size x y → h'.objs.size = s.heap.objs.size + 1 →
      (∀ c o, c ≠ z → c ≠ i1 → c ≠ i2 → s.heap.get? c = some o → h'.get? c = some o) → Q (.ref s.heap.objs.size) { s with heap := h' }) :
    wpAny (model prog w) A (Builtin.«zip.__next__» ⟨[.ref z], []⟩) (fun fin s' => ∃ v, fin = .done (.ret v) ∧ Q v s') E s := by
  obtain ⟨hp, g, d, tk, os⟩ := s
  show wpAny _ _ (field (.ref z) 2 >>= _) _ _ _
  refine wpAny_bind (wpAny_field hz rfl (x := .bool false) rfl ?_)
  show wpAny _ _ (field (.ref z) 3 >>= _) _ _ _
  refine wpAny_bind (wpAny_field hz rfl (x := .ref TI) rfl ?_)
  refine wpAny_bind (wpAny_seqItems hTI rfl ?_)
  show wpAny _ _ (Builtin.SmallTypes.ownedTupleIsFree (.ref z) >>= _) _ _ _
  refine wpAny_bind ?_
  unfold Builtin.SmallTypes.ownedTupleIsFree
  refine wpAny_bind (wpAny_field hz rfl (x := rawInt a) rfl ?_)
  show wpAny _ _ (loadIfAlive ((a : Int).toNat) >>= _) _ _ _
  rw [Int.toNat_natCast]
  refine wpAny_bind (PySem.W.kdx_alive ha ?_)
  simp only [Option.isNone_some, Bool.false_eq_true, if_false]
  refine wpAny_bind (wpAny_field hz rfl (x := .bool f) rfl ?_)
  have rest : ∀ h₀ : Heap, ZipIt h₀ z TI TO a true → Heap.SameBut z hp h₀ → wpAny (model prog w) A (Builtin.SmallTypes.nextOf (.ref i1)) (fun x1 s1 => wpAny (model prog w) A (Builtin.SmallTypes.nextOf (.ref i2)) (fun x2 s2 => wpAny (model prog w) A (newTuple [x1, x2] >>= fun r => ret r) (fun fin s' => ∃ v, fin = .done (.ret v) ∧ Q v s') E s2) E s1) E ⟨h₀, g, d, tk, os⟩ := by
    intro h₀ hz₀ hs₀
    have k0 : ∀ c o, c ≠ z → hp.get? c = some o → h₀.get? c = some o := fun c o n e => hs₀.extBut _ _ n e
    refine RZ.nextOf_tuple_item (s := ⟨h₀, g, d, tk, os⟩) (h1.at fun o e => k0 _ o D.i1z e) (let ⟨o, e, r⟩ := hl1; ⟨o, k0 _ o D.l1z e, r⟩) hx fun h₁ h1₁ hs₁ => ?_
    have k1' : ∀ c o, c ≠ z → c ≠ i1 → hp.get? c = some o → h₁.get? c = some o := fun c o n n1 e => hs₁.extBut _ _ n1 (k0 c o n e)
    refine RZ.nextOf_tuple_item (s := ⟨h₁, g, d, tk, os⟩) (h2.at fun o e => k1' _ o D.i2z D.i12.symm e) (let ⟨o, e, r⟩ := hl2; ⟨o, k1' _ o D.l2z D.l2i1 e, r⟩) hy fun h₂ h2₂ hs₂ => ?_
    have k2' : ∀ c o, c ≠ z → c ≠ i1 → c ≠ i2 → hp.get? c = some o → h₂.get? c = some o := fun c o n n1 n2 e => hs₂.extBut _ _ n2 (k1' c o n n1 e)
    refine wpAny_bind (wpAny_newTuple ?_)
    refine wpAny_pure ⟨_, rfl, ?_⟩
    have z0 : h₀.objs.size = hp.objs.size := hs₀.1
    have z1 : h₁.objs.size = h₀.objs.size := hs₁.1
    have z2 : h₂.objs.size = h₁.objs.size := hs₂.1
    have hsz : h₂.objs.size = hp.objs.size := by rw [z2, z1, z0]
    have hz₂ : ZipIt h₂ z TI TO a true := hs₂.extBut _ _ D.i2z.symm (hs₁.extBut _ _ D.i1z.symm hz₀)
    have h1₂ : h₂.IsTupleIter i1 l1 (k1 + 1) := h1₁.at fun o e => hs₂.extBut _ _ D.i12 e
    show Q (.ref h₂.objs.size) ⟨h₂.push { cls := .type "tuple", data := .seq #[x, y] }, g, d, tk, os⟩
    rw [hsz]
    refine hQ _ (Heap.get?_push_of_some _ hz₂) (h1₂.at fun o e => Heap.get?_push_of_some _ e) (h2₂.at fun o e => Heap.get?_push_of_some _ e) ?_ (by rw [Heap.size_push, hsz]) fun c o n n1 n2 e => Heap.get?_push_of_some _ (k2' c o n n1 n2 e)
    show IsPair _ hp.objs.size x y
    rw [← hsz]
    exact Heap.get?_push_size _ rfl
  cases f with
  | true =>
    rw [if_neg (show ¬ ((Value.bool true != Value.bool true) = true) from Bool.false_ne_true)]
    refine wpAny_pure ?_
    simp only [Bool.false_eq_true, if_false]
    simp only [← Array.forIn_toList, List.forIn_cons, List.forIn_nil]
    refine wpAny_bind ?_
    refine wpAny_bind ?_
    refine wpAny_bind (wpAny_holding ?_)
    show wpAny _ _ (Builtin.SmallTypes.nextOf (.ref i1) >>= _) _ _ _
    refine wpAny_bind (wpAny_mono (rest hp hz (Heap.SameBut.refl _ _)) (fun x1 s1 q => wpAny_pure (wpAny_pure ?_)) fun _ _ q => q)
    refine wpAny_bind ?_
    refine wpAny_bind (wpAny_holding ?_)
    show wpAny _ _ (Builtin.SmallTypes.nextOf (.ref i2) >>= _) _ _ _
    refine wpAny_bind (wpAny_mono q (fun x2 s2 q => wpAny_pure (wpAny_pure (wpAny_pure ?_))) fun _ _ q => q)
    exact q
  | false =>
    rw [if_pos (show (Value.bool false != Value.bool true) = true from rfl)]
    refine wpAny_bind (wpAny_setField_rec hz (by simp) fun h₃ he₃ hs₃ => ?_)
    replace hs₃ : Heap.SameBut z hp h₃ := hs₃
    replace he₃ : ZipIt h₃ z TI TO a true := he₃
    refine wpAny_pure ?_
    simp only [Bool.false_eq_true, if_false]
    simp only [← Array.forIn_toList, List.forIn_cons, List.forIn_nil]
    refine wpAny_bind ?_
    refine wpAny_bind ?_
    refine wpAny_bind (wpAny_holding ?_)
    show wpAny _ _ (Builtin.SmallTypes.nextOf (.ref i1) >>= _) _ _ ⟨h₃, g, d, tk, os⟩
    refine wpAny_bind (wpAny_mono (rest h₃ he₃ hs₃) (fun x1 s1 q => wpAny_pure (wpAny_pure ?_)) fun _ _ q => q)
    refine wpAny_bind ?_
    refine wpAny_bind (wpAny_holding ?_)
    show wpAny _ _ (Builtin.SmallTypes.nextOf (.ref i2) >>= _) _ _ _
    refine wpAny_bind (wpAny_mono q (fun x2 s2 q => wpAny_pure (wpAny_pure (wpAny_pure ?_))) fun _ _ q => q)
    exact q
theorem out_end {z TI TO i1 i2 l1 l2 a : Addr} {f : Bool} {oa : Obj} {k1 k2 : Nat} {xs ys : Array Value} {Q : Fin → Shared → Prop} (hh : A.handled = none) (D : ZipApart z TI TO i1 i2 l1 l2)
    (hz : ZipIt s.heap z TI TO a f) (ha : s.heap.get? a = some oa) (hTI : IsPair s.heap TI (.ref i1) (.ref i2))
    (h1 : s.heap.IsTupleIter i1 l1 k1) (h2 : s.heap.IsTupleIter i2 l2 k2) (hl1 : s.heap.IsTuple l1 xs) (hl2 : s.heap.IsTuple l2 ys) (hend : xs[k1]? = none ∨ ys[k2]? = none)
    (hE : ∀ h' e, (∀ c o, c ≠ z → c ≠ i1 → c ≠ i2 → s.heap.get? c = some o → h'.get? c = some o) → (∃ o, h'.get? e = some o ∧ o.cls = .type "StopIteration") → E (.ref e) { s with heap := h' }) :
    wpAny (model prog w) A (Builtin.«zip.__next__» ⟨[.ref z], []⟩) Q E s := by
  obtain ⟨hp, g, d, tk, os⟩ := s
  show wpAny _ _ (field (.ref z) 2 >>= _) _ _ _
  refine wpAny_bind (wpAny_field hz rfl (x := .bool false) rfl ?_)
  show wpAny _ _ (field (.ref z) 3 >>= _) _ _ _
  refine wpAny_bind (wpAny_field hz rfl (x := .ref TI) rfl ?_)
  refine wpAny_bind (wpAny_seqItems hTI rfl ?_)
  show wpAny _ _ (Builtin.SmallTypes.ownedTupleIsFree (.ref z) >>= _) _ _ _
  refine wpAny_bind ?_
  unfold Builtin.SmallTypes.ownedTupleIsFree
  refine wpAny_bind (wpAny_field hz rfl (x := rawInt a) rfl ?_)
  show wpAny _ _ (loadIfAlive ((a : Int).toNat) >>= _) _ _ _
  rw [Int.toNat_natCast]
  refine wpAny_bind (PySem.W.kdx_alive ha ?_)
  simp only [Option.isNone_some, Bool.false_eq_true, if_false]
  refine wpAny_bind (wpAny_field hz rfl (x := .bool f) rfl ?_)
  have rest : ∀ h₀ : Heap, ZipIt h₀ z TI TO a true → Heap.SameBut z hp h₀ → ∀ Q' : Value → Shared → Prop, wpAny (model prog w) A (Builtin.SmallTypes.nextOf (.ref i1)) (fun x1 s1 => wpAny (model prog w) A (Builtin.SmallTypes.nextOf (.ref i2)) Q' E s1) E ⟨h₀, g, d, tk, os⟩ := by
    intro h₀ hz₀ hs₀ Q'
    have k0 : ∀ c o, c ≠ z → hp.get? c = some o → h₀.get? c = some o := fun c o n e => hs₀.extBut _ _ n e
    cases hx : xs[k1]? with
    | none =>
      refine RZ.nextOf_tuple_end (s := ⟨h₀, g, d, tk, os⟩) hh (h1.at fun o e => k0 _ o D.i1z e) (let ⟨o, e, r⟩ := hl1; ⟨o, k0 _ o D.l1z e, r⟩) hx fun h₁ e hs₁ he => ?_
      exact hE h₁ e (fun c o n n1 n2 e => hs₁ _ _ n1 (k0 c o n e)) he
    | some x =>
      have hy : ys[k2]? = none := by rcases hend with h | h; rw [hx] at h; cases h; exact h
      refine RZ.nextOf_tuple_item (s := ⟨h₀, g, d, tk, os⟩) (h1.at fun o e => k0 _ o D.i1z e) (let ⟨o, e, r⟩ := hl1; ⟨o, k0 _ o D.l1z e, r⟩) hx fun h₁ h1₁ hs₁ => ?_
      have k1' : ∀ c o, c ≠ z → c ≠ i1 → hp.get? c = some o → h₁.get? c = some o := fun c o n n1 e => hs₁.extBut _ _ n1 (k0 c o n e)
      refine RZ.nextOf_tuple_end (s := ⟨h₁, g, d, tk, os⟩) hh (h2.at fun o e => k1' _ o D.i2z D.i12.symm e) (let ⟨o, e, r⟩ := hl2; ⟨o, k1' _ o D.l2z D.l2i1 e, r⟩) hy fun h₂ e hs₂ he => ?_
      exact hE h₂ e (fun c o n n1 n2 e => hs₂ _ _ n2 (k1' c o n n1 e)) he
  cases f with
  | true =>
    rw [if_neg (show ¬ ((Value.bool true != Value.bool true) = true) from Bool.false_ne_true)]
    refine wpAny_pure ?_
    simp only [Bool.false_eq_true, if_false]
    simp only [← Array.forIn_toList, List.forIn_cons, List.forIn_nil]
    refine wpAny_bind ?_
    refine wpAny_bind ?_
    refine wpAny_bind (wpAny_holding ?_)
    show wpAny _ _ (Builtin.SmallTypes.nextOf (.ref i1) >>= _) _ _ _
    refine wpAny_bind (wpAny_mono (rest hp hz (Heap.SameBut.refl _ _) fun _ _ => False) (fun x1 s1 q => wpAny_pure (wpAny_pure ?_)) fun _ _ q => q)
    refine wpAny_bind ?_
    refine wpAny_bind (wpAny_holding ?_)
    show wpAny _ _ (Builtin.SmallTypes.nextOf (.ref i2) >>= _) _ _ _
    exact wpAny_bind (wpAny_mono q (fun _ _ f => f.elim) fun _ _ q => q)
  | false =>
    rw [if_pos (show (Value.bool false != Value.bool true) = true from rfl)]
    refine wpAny_bind (wpAny_setField_rec hz (by simp) fun h₃ he₃ hs₃ => ?_)
    replace hs₃ : Heap.SameBut z hp h₃ := hs₃
    replace he₃ : ZipIt h₃ z TI TO a true := he₃
    refine wpAny_pure ?_
    simp only [Bool.false_eq_true, if_false]
    simp only [← Array.forIn_toList, List.forIn_cons, List.forIn_nil]
    refine wpAny_bind ?_
    refine wpAny_bind ?_
    refine wpAny_bind (wpAny_holding ?_)
    show wpAny _ _ (Builtin.SmallTypes.nextOf (.ref i1) >>= _) _ _ ⟨h₃, g, d, tk, os⟩
    refine wpAny_bind (wpAny_mono (rest h₃ he₃ hs₃ fun _ _ => False) (fun x1 s1 q => wpAny_pure (wpAny_pure ?_)) fun _ _ q => q)
    refine wpAny_bind ?_
    refine wpAny_bind (wpAny_holding ?_)
    show wpAny _ _ (Builtin.SmallTypes.nextOf (.ref i2) >>= _) _ _ _
    exact wpAny_bind (wpAny_mono q (fun _ _ f => f.elim) fun _ _ q => q)
/-- a zip that list(..) walks, with what lies behind it -/
structure ZSt (h : Heap) (z TI TO i1 i2 l1 l2 S : Addr) (xs ys : Array Value) (i : Nat) : Prop where
  pTI : IsPair h TI (.ref i1) (.ref i2)
  pi1 : h.IsTupleIter i1 l1 i
  pi2 : h.IsTupleIter i2 l2 i
  pl1 : h.IsTuple l1 xs
  pl2 : h.IsTuple l2 ys
  pst : (IsZip h z TI TO .none ∧ ∃ a b, IsPair h TO a b) ∨ ∃ a f oa, ZipIt h z TI TO a f ∧ h.get? a = some oa ∧ a ≠ z ∧ a ≠ S ∧ a ≠ i1 ∧ a ≠ i2 ∧ a ≠ TO
theorem ZSt.keep {h h' : Heap} {z TI TO i1 i2 l1 l2 S : Addr} {xs ys : Array Value} {i : Nat} (x : ZSt h z TI TO i1 i2 l1 l2 S xs ys i) (hk : ∀ b o, b ≠ S → h.get? b = some o → h'.get? b = some o)
    (nS : z ≠ S ∧ TI ≠ S ∧ TO ≠ S ∧ i1 ≠ S ∧ i2 ≠ S ∧ l1 ≠ S ∧ l2 ≠ S) : ZSt h' z TI TO i1 i2 l1 l2 S xs ys i := by
  obtain ⟨a, b, c, d, e, f⟩ := x
  obtain ⟨n1, n2, n3, n4, n5, n6, n7⟩ := nS
  refine ⟨hk _ _ n2 a, b.at fun o e => hk _ o n4 e, c.at fun o e => hk _ o n5 e, let ⟨o, e, r⟩ := d; ⟨o, hk _ o n6 e, r⟩, let ⟨o, q, r⟩ := e; ⟨o, hk _ o n7 q, r⟩, ?_⟩
  rcases f with ⟨f1, u, v, f2⟩ | ⟨u, f, oa, f1, f2, f3, f4, f5⟩
  · exact .inl ⟨hk _ _ n1 f1, u, v, hk _ _ n3 f2⟩
  · exact .inr ⟨u, f, oa, hk _ _ n1 f1, hk _ _ f4 f2, f3, f4, f5⟩
theorem z_item {z TI TO i1 i2 l1 l2 S : Addr} {xs ys : Array Value} {i : Nat} {x y : Value} {Q : Option Value → Shared → Prop} (D : ZipApart z TI TO i1 i2 l1 l2) (st : ZSt s.heap z TI TO i1 i2 l1 l2 S xs ys i)
    (hS : S < s.heap.objs.size) (lz : z < s.heap.objs.size ∧ TI < s.heap.objs.size ∧ TO < s.heap.objs.size ∧ i1 < s.heap.objs.size ∧ i2 < s.heap.objs.size) (hx : xs[i]? = some x) (hy : ys[i]? = some y)
    (hQ : ∀ h', ZSt h' z TI TO i1 i2 l1 l2 S xs ys (i + 1) → IsPair h' s.heap.objs.size x y → h'.objs.size = s.heap.objs.size + 1 → (∀ c o, c ≠ z → c ≠ TO → c ≠ i1 → c ≠ i2 → s.heap.get? c = some o → h'.get? c = some o) → Q (some (.ref s.heap.objs.size)) { s with heap := h' }) :
    wpAny (model prog w) A (pyNext (.ref z)) Q E s := by
  obtain ⟨q1, q2, q3, q4, q5, q6⟩ := st
  obtain ⟨z1, z2, z3, z4, z5⟩ := lz
  have tl : ∀ {l : Addr} {vs : Array Value} {h' : Heap}, l ≠ z → l ≠ TO → l ≠ i1 → l ≠ i2 → (∀ c o, c ≠ z → c ≠ TO → c ≠ i1 → c ≠ i2 → s.heap.get? c = some o → h'.get? c = some o) → s.heap.IsTuple l vs → h'.IsTuple l vs := fun n1 n2 n3 n4 k ⟨o, e, r⟩ => ⟨o, k _ o n1 n2 n3 n4 e, r⟩
  rcases q6 with ⟨f1, u, v, f2⟩ | ⟨u, f, oa, f1, f2, f3, f4, f5, f6, f7⟩
  · refine RZ.pyNext_zipT_item D f1 q1 f2 q2 q3 q4 q5 hx hy fun h' a1 a2 a3 a4 a5 a6 a7 => ?_
    exact hQ h' ⟨a7 _ _ D.TIz D.TITO D.TIi1 D.TIi2 q1, a3, a4, tl D.l1z D.l1TO D.l1i1 D.l1i2 a7 q4, tl D.l2z D.l2TO D.l2i1 D.l2i2 a7 q5, .inr ⟨_, false, _, a1, a5, Nat.ne_of_gt z1, Nat.ne_of_gt hS, Nat.ne_of_gt z4, Nat.ne_of_gt z5, Nat.ne_of_gt z3⟩⟩ a5 a6 a7
  · have hT : s.TypeIs (.ref z) "zip" := ⟨_, f1, rfl⟩
    unfold pyNext
    exact wpAny_bind (wpAny_attempt (wpAny_callSpecial?_slot (name := Str.ofString "__next__") hT F.slot_zip_next
      (wpAny_call_entry F.slot_zip_next hT F.entry_zip_next
        (out_item D f1 f2 q1 q2 q3 q4 q5 hx hy fun h' a1 a2 a3 a4 a5 a6 => wpAny_pure (by
          have a7 : ∀ c o, c ≠ z → c ≠ TO → c ≠ i1 → c ≠ i2 → s.heap.get? c = some o → h'.get? c = some o := fun c o n1 _ n3 n4 e => a6 c o n1 n3 n4 e
          exact hQ h' ⟨a7 _ _ D.TIz D.TITO D.TIi1 D.TIi2 q1, a2, a3, tl D.l1z D.l1TO D.l1i1 D.l1i2 a7 q4, tl D.l2z D.l2TO D.l2i1 D.l2i2 a7 q5, .inr ⟨_, true, oa, a1, a6 _ _ f3 f5 f6 f2, f3, f4, f5, f6, f7⟩⟩ a4 a5 a7)) (F.args_zip_next_1 _))))
theorem z_done {z TI TO i1 i2 l1 l2 S : Addr} {xs ys : Array Value} {i : Nat} {Q : Option Value → Shared → Prop} (hh : A.handled = none) (D : ZipApart z TI TO i1 i2 l1 l2) (st : ZSt s.heap z TI TO i1 i2 l1 l2 S xs ys i)
    (hend : xs[i]? = none ∨ ys[i]? = none)
    (hQ : ∀ h', (∀ c o, c ≠ z → c ≠ TO → c ≠ i1 → c ≠ i2 → s.heap.get? c = some o → h'.get? c = some o) → Q none { s with heap := h' }) :
    wpAny (model prog w) A (pyNext (.ref z)) Q E s := by
  obtain ⟨q1, q2, q3, q4, q5, q6⟩ := st
  rcases q6 with ⟨f1, u, v, f2⟩ | ⟨u, f, oa, f1, f2, f3, f4, f5, f6⟩
  · exact RZ.pyNext_zipT_end hh D f1 q1 f2 q2 q3 q4 q5 hend hQ
  · have hT : s.TypeIs (.ref z) "zip" := ⟨_, f1, rfl⟩
    unfold pyNext
    refine wpAny_bind (wpAny_attempt (wpAny_callSpecial?_slot (name := Str.ofString "__next__") hT F.slot_zip_next
      (wpAny_call_entry F.slot_zip_next hT F.entry_zip_next (out_end hh D f1 f2 q1 q2 q3 q4 q5 hend fun h' e hk he => ?_) (F.args_zip_next_1 _))))
    obtain ⟨o, ho, hc⟩ := he
    refine wpAny_bind (wpAny_isInstance (T := "StopIteration") (b := true) ⟨o, ho, hc⟩ isSubtype_stop ?_)
    exact wpAny_pure (hQ _ fun c o n1 _ n3 n4 e => hk c o n1 n3 n4 e)
/-- the pairs made -/
structure ZG (xs ys : Array Value) (lo : Addr) (h : Heap) (as : List Addr) : Prop where
  rise : as.Pairwise (· < ·)
  above : ∀ a ∈ as, lo < a
  pairs : ∀ (j : Nat) (a : Addr), as[j]? = some a → ∃ x y, xs[j]? = some x ∧ ys[j]? = some y ∧ IsPair h a x y
theorem ZG.there {xs ys : Array Value} {lo : Addr} {h : Heap} {as : List Addr} (g : ZG xs ys lo h as) {a : Addr} (ha : a ∈ as) : a < h.objs.size := by
  obtain ⟨j, hj⟩ := List.mem_iff_getElem?.mp ha
  obtain ⟨_, _, _, _, e⟩ := g.pairs j a hj
  exact Heap.lt_size e
end
section
variable {prog : Program} {w : World} {A : Around} {s : Shared} {R : Result → Shared → Prop}
theorem z_loop {z TI TO i1 i2 l1 l2 S : Addr} {xs ys : Array Value} {n : Nat} (hh : A.handled = none) (D : ZipApart z TI TO i1 i2 l1 l2) (lS : z < S ∧ TI < S ∧ TO < S ∧ i1 < S ∧ i2 < S ∧ l1 < S ∧ l2 < S) (hn1 : n ≤ xs.size) (hn2 : n ≤ ys.size) (he : n = xs.size ∨ n = ys.size) (hn : n ≤ sizeLine) (res : Value) {h₁ : Heap}
    (hR : ∀ h' tk acc c as, (∀ b o, b ≠ S → b ≠ z → b ≠ TO → b ≠ i1 → b ≠ i2 → h₁.get? b = some o → h'.get? b = some o) → h'.get? S = some { cls := .type "list", dict := none, data := .seq acc c, slots := #[] } → as.length = n → ZG xs ys S h' as →
      acc.toList = as.map Value.ref → R (.ok (.ret res)) { s with heap := h', toks := tk }) :
    ∀ (k i : Nat) (h : Heap) (tk c : Nat) (acc : Array Value) (as : List Addr), n - i = k → i ≤ n → ZSt h z TI TO i1 i2 l1 l2 S xs ys i → (∀ b o, b ≠ S → b ≠ z → b ≠ TO → b ≠ i1 → b ≠ i2 → h₁.get? b = some o → h.get? b = some o) →
      h.get? S = some { cls := .type "list", dict := none, data := .seq acc c, slots := #[] } → acc.toList = as.map Value.ref → as.length = i → ZG xs ys S h as →
      codeAny (model prog w) A (.builtin "list.extend.loop" ⟨[.ref S, .ref z, res], []⟩) R { s with heap := h, toks := tk } := by
  obtain ⟨m1, m2, m3, m4, m5, m6, m7⟩ := lS
  intro k
  induction k with
  | zero =>
    intro i h tk c acc as hk hi hst hkeep hS hacc hal hG
    have hin : i = n := by omega
    have hend : xs[i]? = none ∨ ys[i]? = none := by
      rcases he with q | q
      · exact .inl (by simp; omega)
      · exact .inr (by simp; omega)
    refine codeAny_builtin PySem.F.entry_extend_loop ?_
    rw [Around.under_plainId PySem.F.plain_extend_loop _]
    show wpAny _ A.in1 (pyNext (.ref z) >>= _) _ _ _
    refine wpAny_bind (z_done (s := { s with heap := h, toks := tk }) (A := A.in1) hh D hst hend fun h' he => ?_)
    refine wpAny_pure (hR h' tk acc c as (fun b o h1 h2 h3 h4 h5 e => he b o h2 h3 h4 h5 (hkeep b o h1 h2 h3 h4 h5 e)) (he S _ (Nat.ne_of_gt m1) (Nat.ne_of_gt m3) (Nat.ne_of_gt m4) (Nat.ne_of_gt m5) hS) (by omega) ⟨hG.rise, hG.above, fun j a hj => ?_⟩ hacc)
    obtain ⟨x, y, e1, e2, e3⟩ := hG.pairs j a hj
    have ha := hG.above a (List.mem_of_getElem? hj)
    exact ⟨x, y, e1, e2, he a _ (Nat.ne_of_gt (Nat.lt_trans m1 ha)) (Nat.ne_of_gt (Nat.lt_trans m3 ha)) (Nat.ne_of_gt (Nat.lt_trans m4 ha)) (Nat.ne_of_gt (Nat.lt_trans m5 ha)) e3⟩
  | succ k ih =>
    intro i h tk c acc as hk hi hst hkeep hS hacc hal hG
    have hlt : i < n := by omega
    obtain ⟨x, hx⟩ : ∃ p, xs[i]? = some p := ⟨xs[i], by simp⟩
    obtain ⟨y, hy⟩ : ∃ p, ys[i]? = some p := ⟨ys[i], by simp⟩
    have hsz : acc.size = i := by rw [← Array.length_toList, hacc, List.length_map, hal]
    have hSl : S < h.objs.size := Heap.lt_size hS
    refine codeAny_builtin PySem.F.entry_extend_loop ?_
    rw [Around.under_plainId PySem.F.plain_extend_loop _]
    show wpAny _ A.in1 (pyNext (.ref z) >>= _) _ _ _
    refine wpAny_bind (z_item (s := { s with heap := h, toks := tk }) (S := S) D hst hSl ⟨Nat.lt_trans m1 hSl, Nat.lt_trans m2 hSl, Nat.lt_trans m3 hSl, Nat.lt_trans m4 hSl, Nat.lt_trans m5 hSl⟩ hx hy fun h' hst' ht hz hkp => ?_)
    dsimp only at ht hz hkp ⊢
    have hS' := hkp S _ (Nat.ne_of_gt m1) (Nat.ne_of_gt m3) (Nat.ne_of_gt m4) (Nat.ne_of_gt m5) hS
    have up : ∀ b o, b ≠ S → h'.get? b = some o → (h'.update S (Obj.mapSeq (·.push (Value.ref h.objs.size)))).get? b = some o := fun b o hb e => (Heap.get?_update_other _ _ (Ne.symm hb)).trans e
    show wpAny _ A.in1 (updateSeq S (·.push (Value.ref h.objs.size)) >>= _) _ _ _
    refine wpAny_bind ?_
    refine wpAny_updateSeq hS' rfl (wpAny_pure ⟨plainId_quiet PySem.F.plain_extend_loop _, ih (i + 1) _ tk _ (acc.push (Value.ref h.objs.size)) (as ++ [h.objs.size]) (by omega) hlt (hst'.keep up ⟨Nat.ne_of_lt m1, Nat.ne_of_lt m2, Nat.ne_of_lt m3, Nat.ne_of_lt m4, Nat.ne_of_lt m5, Nat.ne_of_lt m6, Nat.ne_of_lt m7⟩)
      (fun b o h1 h2 h3 h4 h5 e => up b o h1 (hkp b o h2 h3 h4 h5 (hkeep b o h1 h2 h3 h4 h5 e))) (Heap.get?_update_self _ hS' rfl) (by rw [Array.toList_push, hacc, List.map_append]; rfl) (by rw [List.length_append, hal]; rfl) ⟨?_, ?_, ?_⟩⟩) (by rw [hsz]; omega) (by show (acc.push (Value.ref h.objs.size)).size ≤ sizeLine + 1; rw [Array.size_push, hsz]; omega)
    · refine List.pairwise_append.mpr ⟨hG.rise, List.pairwise_singleton _ _, fun a ha b hb => ?_⟩
      rw [List.mem_singleton.mp hb]
      exact hG.there ha
    · intro a ha
      rcases List.mem_append.mp ha with ha | ha
      · exact hG.above a ha
      · rw [List.mem_singleton.mp ha]; exact hSl
    · intro j b hj
      rcases Nat.lt_trichotomy j as.length with h1 | h1 | h1
      · rw [List.getElem?_append_left h1] at hj
        obtain ⟨x', y', e1, e2, e3⟩ := hG.pairs j b hj
        have hb := hG.above b (List.mem_of_getElem? hj)
        exact ⟨x', y', e1, e2, up b _ (Nat.ne_of_gt hb) (hkp b _ (Nat.ne_of_gt (Nat.lt_trans m1 hb)) (Nat.ne_of_gt (Nat.lt_trans m3 hb)) (Nat.ne_of_gt (Nat.lt_trans m4 hb)) (Nat.ne_of_gt (Nat.lt_trans m5 hb)) e3)⟩
      · subst h1
        have hb : h.objs.size = b := by simpa using hj
        subst hb
        exact ⟨x, y, by rw [hal]; exact hx, by rw [hal]; exact hy, up _ _ (Nat.ne_of_gt hSl) ht⟩
      · have hnone : (as ++ [h.objs.size])[j]? = none := List.getElem?_eq_none (by rw [List.length_append, List.length_singleton]; omega)
        rw [hnone] at hj; cases hj
end
theorem zip_no_len : typeLookup (.type "zip") "__len__" = pure none := by rw [typeLookup_type, builtinLookup_eq_fast]; kernel_rfl
theorem zip_no_hint : typeLookup (.type "zip") "__length_hint__" = pure none := by rw [typeLookup_type, builtinLookup_eq_fast]; kernel_rfl
section
variable {prog : Program} {w : World} {A : Around} {E : Value → Shared → Prop} {s : Shared}
theorem z_extend {R : Result → Shared → Prop} {z TI TO i1 i2 l1 l2 S : Addr} {xs ys : Array Value} {n : Nat} (hh : A.handled = none) (D : ZipApart z TI TO i1 i2 l1 l2) (lS : z < S ∧ TI < S ∧ TO < S ∧ i1 < S ∧ i2 < S ∧ l1 < S ∧ l2 < S) (hn1 : n ≤ xs.size) (hn2 : n ≤ ys.size) (he : n = xs.size ∨ n = ys.size) (hn : n ≤ sizeLine) (res : Value) (c₀ : Nat)
    (st : ZSt s.heap z TI TO i1 i2 l1 l2 S xs ys 0) (hzz : ∃ f0, IsZip s.heap z TI TO f0) (hS : s.heap.get? S = some { cls := .type "list", data := .seq #[] c₀ })
    (hR : ∀ h' tk acc c as, (∀ b o, b ≠ S → b ≠ z → b ≠ TO → b ≠ i1 → b ≠ i2 → s.heap.get? b = some o → h'.get? b = some o) → h'.get? S = some { cls := .type "list", dict := none, data := .seq acc c, slots := #[] } → as.length = n → ZG xs ys S h' as →
      acc.toList = as.map Value.ref → R (.ok (.ret res)) { s with heap := h', toks := tk }) :
    wpAny (model prog w) A.in1 (Builtin.List.listExtendWith (.ref S) (.ref z) res)
      (fun fin s' => match fin with | .done f => R (.ok f) s' | .again c' => c'.quiet = true ∧ codeAny (model prog w) A c' R s') (fun e s' => R (.error e) s') s := by
  have lS' := lS
  obtain ⟨m1, m2, m3, m4, m5, m6, m7⟩ := lS'
  have nS : z ≠ S ∧ TI ≠ S ∧ TO ≠ S ∧ i1 ≠ S ∧ i2 ≠ S ∧ l1 ≠ S ∧ l2 ≠ S := ⟨Nat.ne_of_lt m1, Nat.ne_of_lt m2, Nat.ne_of_lt m3, Nat.ne_of_lt m4, Nat.ne_of_lt m5, Nat.ne_of_lt m6, Nat.ne_of_lt m7⟩
  obtain ⟨f0, hzz⟩ := hzz
  have key : ∀ (h : Heap) (c₁ tk : Nat), (∀ b o, b ≠ S → s.heap.get? b = some o → h.get? b = some o) →
      h.get? S = some { cls := .type "list", data := .seq #[] c₁ } → codeAny (model prog w) A (.builtin "list.extend.loop" ⟨[.ref S, .ref z, res], []⟩) R { s with heap := h, toks := tk } := by
    intro h c₁ tk hk hS₁
    refine z_loop (s := s) (h₁ := s.heap) (n := n) hh D lS hn1 hn2 he hn res hR n 0 h tk c₁ #[] [] (Nat.sub_zero _) (Nat.zero_le _) (st.keep hk nS) (fun b o hb _ _ _ _ e => hk b o hb e) hS₁ rfl rfl
      ⟨List.Pairwise.nil, (fun _ ha => nomatch ha), (fun j a hj => by simp at hj)⟩
  have hT : s.TypeIs (.ref z) "zip" := ⟨_, hzz, rfl⟩
  unfold Builtin.List.listExtendWith
  refine wpAny_bind (wpAny_typeOf (T := "zip") hT ?_)
  have h1 : Builtin.List.listSameRef (.ref S) (.ref z) = false := by simp [Builtin.List.listSameRef, Ne.symm nS.1]
  have h2 : (Value.type "zip" == Value.type "list") = false := by decide
  have h3 : (Value.type "zip" == Value.type "tuple") = false := by decide
  simp only [h1, h2, h3, Bool.or_false, Bool.false_eq_true, if_false]
  refine wpAny_bind (wpAny_pyIter_zip hzz ?_)
  refine wpAny_bind (wpAny_holding ?_)
  unfold Builtin.List.listLengthHint
  refine wpAny_bind (wpAny_specialOf hT zip_no_len ?_)
  show wpAny _ A.in1 (specialOf (Value.ref z) (Str.ofString "__length_hint__") >>= _) _ _ _
  refine wpAny_bind (wpAny_specialOf hT zip_no_hint ?_)
  refine wpAny_pure ?_
  show wpAny _ A.in1 (rule "list.extend.makes-room" >>= fun _ => Builtin.List.listTouch (.ref S) >>= fun _ =>
    again (.builtin "list.extend.loop" ⟨[.ref S, .ref z, res], []⟩)) _ _ _
  refine wpAny_bind (wpAny_rule ?_)
  refine wpAny_bind ?_
  show wpAny _ _ (updateSeq S (·.push .none) >>= fun _ => updateSeq S (·.pop)) _ _ _
  refine wpAny_bind (wpAny_updateSeq hS rfl ?_)
  have hS₂ := Heap.get?_update_self (Obj.mapSeq (·.push Value.none)) hS rfl
  refine wpAny_updateSeq (hz := by seq_fits) hS₂ rfl ?_
  have hS₃ := Heap.get?_update_self (Obj.mapSeq (·.pop)) hS₂ rfl
  refine wpAny_pure ⟨plainId_quiet PySem.F.plain_extend_loop _, key _ _ _ (fun b o hb e => ?_) hS₃⟩
  exact (Heap.get?_update_other _ _ (Ne.symm hb)).trans ((Heap.get?_update_other _ _ (Ne.symm hb)).trans e)
theorem z_init {R : Result → Shared → Prop} {z TI TO i1 i2 l1 l2 S : Addr} {xs ys : Array Value} {n : Nat} (hh : A.handled = none) (D : ZipApart z TI TO i1 i2 l1 l2) (lS : z < S ∧ TI < S ∧ TO < S ∧ i1 < S ∧ i2 < S ∧ l1 < S ∧ l2 < S) (hn1 : n ≤ xs.size) (hn2 : n ≤ ys.size) (he : n = xs.size ∨ n = ys.size) (hn : n ≤ sizeLine)
    (st : ZSt s.heap z TI TO i1 i2 l1 l2 S xs ys 0) (hzz : ∃ f0, IsZip s.heap z TI TO f0) (hS : s.heap.get? S = some { cls := .type "list", data := .seq #[] })
    (hR : ∀ h' tk acc c as, (∀ b o, b ≠ S → b ≠ z → b ≠ TO → b ≠ i1 → b ≠ i2 → s.heap.get? b = some o → h'.get? b = some o) → h'.get? S = some { cls := .type "list", dict := none, data := .seq acc c, slots := #[] } → as.length = n → ZG xs ys S h' as →
      acc.toList = as.map Value.ref → R (.ok (.ret .none)) { s with heap := h', toks := tk }) :
    wpAny (model prog w) A.in1 (Builtin.«list.__init__» ⟨[.ref S, .ref z], []⟩)
      (fun fin s' => match fin with | .done f => R (.ok f) s' | .again c' => c'.quiet = true ∧ codeAny (model prog w) A c' R s') (fun e s' => R (.error e) s') s := by
  show wpAny _ _ (do let old ← Builtin.List.listItems (.ref S); Builtin.List.listUpdate (.ref S) (fun _ => #[]); letGo old.toList.reverse; Builtin.List.listExtendWith (.ref S) (.ref z) .none) _ _ s
  refine wpAny_bind ?_
  unfold Builtin.List.listItems
  refine wpAny_bind (wpAny_seqItems hS rfl (wpAny_pure ?_))
  show wpAny _ _ (updateSeq S (fun _ => #[]) >>= fun _ => letGo (#[] : Array Value).toList.reverse >>= fun _ => Builtin.List.listExtendWith (.ref S) (.ref z) .none) _ _ s
  refine wpAny_bind (wpAny_updateSeq hS rfl ?_)
  have hS₂ := Heap.get?_update_self (Obj.mapSeq (fun _ => (#[] : Array Value))) hS rfl
  have oth : ∀ b o, b ≠ S → s.heap.get? b = some o → (s.heap.update S (Obj.mapSeq (fun _ => (#[] : Array Value)))).get? b = some o :=
    fun b o hb e => (Heap.get?_update_other _ _ (Ne.symm hb)).trans e
  refine wpAny_bind (wpAny_letGo ?_)
  have lS' := lS
  obtain ⟨m1, m2, m3, m4, m5, m6, m7⟩ := lS'
  obtain ⟨f0, hzz⟩ := hzz
  refine z_extend (n := n) hh D lS hn1 hn2 he hn .none _ (st.keep oth ⟨Nat.ne_of_lt m1, Nat.ne_of_lt m2, Nat.ne_of_lt m3, Nat.ne_of_lt m4, Nat.ne_of_lt m5, Nat.ne_of_lt m6, Nat.ne_of_lt m7⟩) ⟨f0, oth _ _ (Nat.ne_of_lt m1) hzz⟩ hS₂ (fun h' tk acc c as hk hS' hl hG hacc => ?_)
  exact hR h' tk acc c as (fun b o hb n1 n2 n3 n4 e => hk b o hb n1 n2 n3 n4 (oth b o hb e)) hS' hl hG hacc
theorem z_call {Q : Value → Shared → Prop} {z TI TO i1 i2 l1 l2 : Addr} {xs ys : Array Value} {n : Nat} (hh : A.handled = none) (D : ZipApart z TI TO i1 i2 l1 l2) (lS : z < s.heap.objs.size ∧ TI < s.heap.objs.size ∧ TO < s.heap.objs.size ∧ i1 < s.heap.objs.size ∧ i2 < s.heap.objs.size ∧ l1 < s.heap.objs.size ∧ l2 < s.heap.objs.size) (hn1 : n ≤ xs.size) (hn2 : n ≤ ys.size) (he : n = xs.size ∨ n = ys.size) (hn : n ≤ sizeLine)
    (hz : IsZip s.heap z TI TO .none) (pTI : IsPair s.heap TI (.ref i1) (.ref i2)) (pTO : IsPair s.heap TO .none .none) (p1 : s.heap.IsTupleIter i1 l1 0) (p2 : s.heap.IsTupleIter i2 l2 0) (q1 : s.heap.IsTuple l1 xs) (q2 : s.heap.IsTuple l2 ys)
    (hQ : ∀ h' tk acc c as, (∀ b o, b ≠ z → b ≠ TO → b ≠ i1 → b ≠ i2 → s.heap.get? b = some o → h'.get? b = some o) → h'.get? s.heap.objs.size = some { cls := .type "list", dict := none, data := .seq acc c, slots := #[] } → as.length = n → ZG xs ys s.heap.objs.size h' as →
      acc.toList = as.map Value.ref → Q (.ref s.heap.objs.size) { s with heap := h', toks := tk }) :
    wpAny (model prog w) A (call (.type "list") [.ref z]) Q E s := by
  refine callType_codes (Q₁ := fun obj s₁ => obj = .ref s.heap.objs.size ∧ s₁ = { s with heap := s.heap.push { cls := .type "list", data := .seq #[] } }) PySem.F.called_list (PySem.F.typeCall_list_1 _) PySem.F.entry_list_init
    (code_list_new _ ⟨rfl, rfl⟩) fun obj s₁ h₁ => ?_
  obtain ⟨rfl, rfl⟩ := h₁
  have hS : (s.heap.push { cls := .type "list", data := .seq #[] }).get? s.heap.objs.size = some { cls := .type "list", data := .seq #[] } := Heap.get?_push_size _ rfl
  have up : ∀ b o, s.heap.get? b = some o → (s.heap.push { cls := .type "list", data := .seq #[] }).get? b = some o := fun b o e => Heap.get?_push_of_some _ e
  refine ⟨⟨_, hS, rfl⟩, PySem.F.args_list_init_2 _ _, z_init (n := n) (A := A.in1) hh D lS hn1 hn2 he hn ⟨up _ _ pTI, p1.at fun o e => up _ o e, p2.at fun o e => up _ o e, q1.push _, q2.push _, .inl ⟨up _ _ hz, _, _, up _ _ pTO⟩⟩ ⟨_, up _ _ hz⟩ hS (fun h' tk acc c as hk hS' hl hG hacc => ?_)⟩
  exact ⟨rfl, hQ h' tk acc c as (fun b o n1 n2 n3 n4 e => hk b o (Nat.ne_of_lt (Heap.lt_size e)) n1 n2 n3 n4 (up b o e)) hS' hl hG hacc⟩
end
end ZL

namespace Pk
open PySem PySem.Spec PyProof.Rows L2
def putZ : Hp → List Addr → List (V × V) → Hp
  | H, a :: as, p :: ps => putZ (upd H a (.tup [p.1, p.2])) as ps
  | H, _, _ => H
theorem putZ_off {b : Addr} : ∀ (as : List Addr) (ps : List (V × V)) (H : Hp), b ∉ as → putZ H as ps b = H b
  | [], _, _, _ => rfl
  | _ :: _, [], _, _ => rfl
  | a :: as, p :: ps, H, h => by
    show putZ (upd H a (.tup [p.1, p.2])) as ps b = H b
    rw [putZ_off as ps _ (fun z => h (List.mem_cons_of_mem _ z)), upd_ne (fun z => h (by rw [z]; exact List.mem_cons_self))]
theorem putZ_at : ∀ (as : List Addr) (ps : List (V × V)) (H : Hp), as.length = ps.length → as.Nodup → Paired (fun (t : Addr) (p : V × V) => putZ H as ps t = some (.tup [p.1, p.2])) as ps
  | [], [], _, _, _ => .nil
  | [], _ :: _, _, h, _ => by cases h
  | _ :: _, [], _, h, _ => by cases h
  | a :: as, p :: ps, H, h, hn => by
    have hn' := List.nodup_cons.mp hn
    have ih := putZ_at as ps (upd H a (.tup [p.1, p.2])) (Nat.succ.inj h) hn'.2
    refine .cons ?_ ih
    show putZ (upd H a (.tup [p.1, p.2])) as ps a = some (.tup [p.1, p.2])
    rw [putZ_off as ps _ hn'.1, upd_same]
section
variable {X : Cx}
theorem pairs_laid {pins : List (Addr × Obj)} {σ : L2.St} {H : Hp} {s : Shared} {h' : Heap} {tk : Nat} {ps : List (V × V)} {acc : Array Value} {c : Nat} {as : List Addr} {S : Addr} (I : Inv X pins σ H s) (hz : as.length ≤ sizeLine) (hl : as.length = ps.length) (lo : s.heap.objs.size ≤ S) (ab : ∀ a ∈ as, S < a) (nd : as.Nodup)
    (hk : ∀ b o, s.heap.get? b = some o → h'.get? b = some o) (hS : h'.get? S = some { cls := .type "list", dict := none, data := .seq acc c, slots := #[] }) (hacc : acc.toList = as.map Value.ref)
    (hp : ∀ (j : Nat) (a : Addr) (p : V × V), as[j]? = some a → ps[j]? = some p → ∃ x y, RelV p.1 x ∧ RelV p.2 y ∧ IsPair h' a x y) :
    ∃ H' : Hp, (∀ b o, H b = some o → H' b = some o) ∧ H S = none ∧ (∀ t ∈ as, H t = none) ∧ S ∉ as ∧ H' S = some (.lst (as.map V.ref)) ∧ Paired (fun (t : Addr) (q : V × V) => H' t = some (.tup [q.1, q.2])) as ps ∧ Inv X pins σ H' { s with heap := h', toks := tk } := by
  have hSn : S ∉ as := fun z => Nat.lt_irrefl _ (ab _ z)
  have new : ∀ t ∈ as, H t = none := fun t ht => I.hok.fresh (Nat.le_trans lo (Nat.le_of_lt (ab t ht)))
  have newS : H S = none := I.hok.fresh lo
  have atP := putZ_at as ps (upd H S (.lst (as.map V.ref))) hl nd
  have off : ∀ b, b ∉ as → b ≠ S → putZ (upd H S (.lst (as.map V.ref))) as ps b = H b := fun b h1 h2 => by rw [putZ_off as ps _ h1, upd_ne h2]
  have low : ∀ b o, s.heap.get? b = some o → b ∉ as ∧ b ≠ S := fun b o e => ⟨fun z => absurd (Heap.lt_size e) (Nat.not_lt.mpr (Nat.le_trans lo (Nat.le_of_lt (ab b z)))), Nat.ne_of_lt (Nat.lt_of_lt_of_le (Heap.lt_size e) lo)⟩
  have kp : ∀ b u, H b = some u → (putZ (upd H S (.lst (as.map V.ref))) as ps) b = some u := fun b u e => by
    rw [off b (fun z => by rw [new b z] at e; cases e) (fun z => by rw [z, newS] at e; cases e)]
    exact e
  have eS : putZ (upd H S (.lst (as.map V.ref))) as ps S = some (.lst (as.map V.ref)) := by rw [putZ_off as ps _ hSn, upd_same]
  refine ⟨putZ (upd H S (.lst (as.map V.ref))) as ps, kp, newS, new, hSn, eS, atP, ?_⟩
  refine I.call' (ch := []) rfl ⟨fun b o q _ _ _ => hk b o q, fun b o q _ _ _ => ⟨o.slots, hk b o q⟩, fun b o q n _ => ?_, fun b o q _ => ⟨o, hk b o q⟩, fun b xs q => kp b _ q, fun b o u q => kp b _ q, fun b ps q => ⟨#[], by rw [kp b _ q]; simp⟩⟩ (fun b u q => ?_) I.bare fun b z => by simp at z
  · obtain ⟨z1, z2⟩ := low b o q
    rw [off b z1 z2]
    exact n
  · by_cases hb : b ∈ as
    · obtain ⟨j, pk, e1, e2, e3⟩ := LiI.paired_ix atP hb
      rw [e3] at q
      cases q
      obtain ⟨x, y, f1, f2, f3⟩ := hp j b pk e1 e2
      exact ⟨by show 2 ≤ sizeLine; decide, [x, y], .cons f1 (.cons f2 .nil), ⟨_, f3, rfl, _, rfl⟩⟩
    · by_cases hb2 : b = S
      · rw [hb2] at q ⊢
        rw [eS] at q
        cases q
        refine ⟨by rw [List.length_map]; omega, acc.toList, c, by rw [hacc]; exact LiI.vals_refs as, ?_⟩
        rw [Array.toArray_toList]
        exact hS
      · rw [off b hb hb2] at q
        exact (I.hok b u q).stay (fun d v _ y => hk d v y) (fun d y => kp d _ y) fun d xs y => kp d _ y
end
section
variable {Γ : Γ} {Wx : WX} {X : Cx} {g : G} {h : HS} {H : Hp} {σ : L2.St} {e1 e2 : Expr} {fr : Ax} {pos p cpos : Pos}
theorem tupsP_frz {K : PySem.W.Frag} (hK : K = Γ.K) : ∀ {as : List Addr} {us vs : List V} {a b : List W} {g : G}, RH Γ g h H → Paired (fun (t : Addr) (q : V × V) => H t = some (.tup [q.1, q.2])) as (us.zip vs) → RWs K g a us → RWs K g b vs →
    ∃ g2, g.le g2 ∧ RH Γ g2 h H ∧ RWs K g2 ((a.zip b).map fun p => W.tup [p.1, p.2]) (as.map V.ref)
  | as, [], vs, a, b, g, x, pd, ra, rb => by
    have e : as = [] := by cases pd; rfl
    subst e
    cases a with
    | nil => exact ⟨g, .refl g, x, .nil⟩
    | cons _ _ => unfold RWs at ra; obtain ⟨_, _, z, _⟩ := ra; cases z
  | as, u :: us, [], a, b, g, x, pd, ra, rb => by
    have e : as = [] := by cases pd; rfl
    subst e
    cases b with
    | nil => rw [List.zip_nil_right]; exact ⟨g, .refl g, x, .nil⟩
    | cons _ _ => unfold RWs at rb; obtain ⟨_, _, z, _⟩ := rb; cases z
  | as, u :: us, v :: vs, a, b, g, x, pd, ra, rb => by
    cases pd with
    | cons pa pr =>
      cases a with
      | nil => unfold RWs at ra; cases ra
      | cons wa a =>
        cases b with
        | nil => unfold RWs at rb; cases rb
        | cons wb b =>
          unfold RWs at ra rb
          obtain ⟨v1, vr1, z1, r1, rs1⟩ := ra
          obtain ⟨v2, vr2, z2, r2, rs2⟩ := rb
          cases z1
          cases z2
          obtain ⟨g1, l1, y1, f1⟩ := x.extT pa
          obtain ⟨g2, l2, y2, q2⟩ := tupsP_frz hK y1 pr (RWs.mono l1 _ _ rs1) (RWs.mono l1 _ _ rs2)
          refine ⟨g2, l1.trans l2, y2, .cons ?_ q2⟩
          unfold RW
          exact ⟨_, [u, v], rfl, l2.F _ _ f1, .cons (RW.mono (l1.trans l2) _ _ r1) (.cons (RW.mono (l1.trans l2) _ _ r2) .nil)⟩
theorem zipL_q {bx : Bool} {S : Addr} {as : List Addr} {us vs : List V} {a b : List W} {H1 H' : Hp} {Q : VK} (k1 : ∀ b o, H1 b = some o → H' b = some o) (k2 : H1 S = none) (k4 : S ∉ as) (k5 : H' S = some (.lst (as.map V.ref))) (k6 : Paired (fun (t : Addr) (q : V × V) => H' t = some (.tup [q.1, q.2])) as (us.zip vs))
    (hH1 : RH Γ g h H1) (ra : RWs Γ.K g a us) (rb : RWs Γ.K g b vs) (q1 : Rz Γ Wx (RW Γ.K) g (mkL bx ((a.zip b).map fun p => .tup [p.1, p.2]) h) σ Q) : Q (.ref S) H' := by
  let H0 : Hp := fun b => if b = S then none else H' b
  have eH : H' = upd H0 S (.lst (as.map V.ref)) := by
    funext b
    by_cases hb : b = S
    · rw [hb, upd_same, k5]
    · rw [upd_ne hb]
      show H' b = if b = S then none else H' b
      rw [if_neg hb]
  have e0 : H0 S = none := if_pos rfl
  have y0 : RH Γ g h H0 := hH1.more fun b o e => by
    show (if b = S then none else H' b) = some o
    rw [if_neg (fun z => by rw [z, k2] at e; cases e)]
    exact k1 _ _ e
  have pd : Paired (fun (t : Addr) (q : V × V) => H0 t = some (.tup [q.1, q.2])) as (us.zip vs) := by
    refine paired_mem k6 fun t q ht hq => ?_
    show (if t = S then none else H' t) = _
    rw [if_neg (fun z => k4 (by rw [← z]; exact ht))]
    exact hq
  obtain ⟨g2, l2, y2, r2⟩ := tupsP_frz rfl y0 pd ra rb
  rw [eH]
  exact mkL_ok y2 e0 r2 (Rz.le l2 q1)
theorem e_zipL (bx : Bool) (hc : X.calm = true) (hK : X.K = Γ.K) (hg : Gl X "list") (hm : X.mg "list" = none) (hg2 : Gl X "zip") (hm2 : X.mg "zip" = none) {p2 : Pos} (ha : PA X [e1, e2] (RDA Γ Wx fr)) (hv : bootBuiltins "list" = some (.type "list") := by decide +kernel)
    (hs : starEach [e1, e2] X.env = (false, eval e1 X.env) :: starEach [e2] X.env := by rfl) (hpl : (backTo cpos (starEach [e2] X.env)).any (·.1) = false := by rfl)
    (hs2 : starEach [.Call (.Name "zip" p2) [e1, e2] [] cpos] X.env = (false, eval (.Call (.Name "zip" p2) [e1, e2] [] cpos) X.env) :: starEach [] X.env := by rfl) :
    PE X (.Call (.Name "list" p) [.Call (.Name "zip" p2) [e1, e2] [] cpos] [] pos) (RDE Γ Wx (eZipL bx fr)) := by
  refine ⟨fun pins s σ H Q I ⟨g, sl, h, hH, hS, q⟩ => ?_⟩
  refine wpAny_Call_Name_kw (ld_blt I hg hm hv ?_)
  refine PyProof.Rows.callWith_type1 ?_ hs2 rfl
  rw [hs2]
  show wpAny _ _ (spliced ((false, eval (.Call (.Name "zip" p2) [e1, e2] [] cpos) X.env) :: backTo pos (starEach [] X.env))) _ _ s
  refine Calls.spliced_cons ?_
  refine PyProof.Rows.Call_ (ld_blt I hg2 hm2 PyProof.Rows.boot_zip (PyProof.Rows.callWith_type1 (thn (ha.run cpos pins s σ H _ I (RDA.step hH hS q)) fun us s1 ⟨vs, H1, I1, r1, g1, h1, w1, l1, hH1, rw1, q1⟩ => ?_) hs hpl))
  split at q1
  · rename_i x y
    split at q1
    · rename_i wa wb ea eb
      obtain ⟨v1, v2, rfl, r2, r3⟩ := rws2 rw1
      obtain ⟨a, xs, rfl, sa, ra⟩ := tview_ok hH1 r2 ea
      obtain ⟨b, ys, rfl, sb, rb⟩ := tview_ok hH1 r3 eb
      cases r1 with
      | cons r rr =>
        cases rr with
        | cons r' rr =>
          cases rr
          cases r
          cases r'
          obtain ⟨its, rv, p1, z1⟩ := I1.tuple (hK ▸ sa)
          obtain ⟨its2, rv2, p2', z2⟩ := I1.tuple (hK ▸ sb)
          obtain ⟨o1, ho1, _⟩ := id p1
          obtain ⟨o2, ho2, _⟩ := id p2'
          have hla := Heap.lt_size ho1
          have hlb := Heap.lt_size ho2
          refine RZ.call_zipT (show s1.heap.IsTuple a its.toArray from p1) (show s1.heap.IsTuple b its2.toArray from p2') fun h' hz hTI hTO hi1 hi2 hsz hk => ?_
          refine Calls.spliced_nil ?_
          have lx := rv.length
          have ly := rv2.length
          have kk : ∀ {l : Addr} {vs : Array Value}, s1.heap.IsTuple l vs → h'.IsTuple l vs := fun ⟨o, e, r⟩ => ⟨o, hk _ o e, r⟩
          refine ZL.z_call (s := { s1 with heap := h' }) (n := min its.length its2.length) (I1.ok.hd hc) (PySem.W.ktu_apart s1.heap.objs.size a b hla hlb)
            ⟨by show _ < h'.objs.size; rw [hsz]; exact Nat.lt_succ_self _, by show _ < h'.objs.size; rw [hsz]; exact Nat.add_lt_add_left (by decide) _, by show _ < h'.objs.size; rw [hsz]; exact Nat.add_lt_add_left (by decide) _, by show _ < h'.objs.size; rw [hsz]; exact Nat.lt_add_of_pos_right (by decide), by show _ < h'.objs.size; rw [hsz]; exact Nat.add_lt_add_left (by decide) _, by show _ < h'.objs.size; rw [hsz]; exact Nat.lt_of_lt_of_le hla (Nat.le_add_right _ _), by show _ < h'.objs.size; rw [hsz]; exact Nat.lt_of_lt_of_le hlb (Nat.le_add_right _ _)⟩
            (by simp only [List.size_toArray]; exact Nat.min_le_left _ _) (by simp only [List.size_toArray]; exact Nat.min_le_right _ _) (by simp only [List.size_toArray]; omega) (by omega) hz hTI hTO hi1 hi2 (kk p1) (kk p2') fun h2 tk acc c as hk2 hS2 hl hG hacc => ?_
          have hk3 : ∀ b o, s1.heap.get? b = some o → h2.get? b = some o := fun b o e => by
            have lt := Heap.lt_size e
            refine hk2 b o ?_ ?_ ?_ ?_ (hk b o e)
            · exact Nat.ne_of_lt (Nat.lt_of_lt_of_le lt (Nat.le_add_right _ _))
            · exact Nat.ne_of_lt (Nat.lt_of_lt_of_le lt (Nat.le_add_right _ _))
            · exact Nat.ne_of_lt lt
            · exact Nat.ne_of_lt (Nat.lt_of_lt_of_le lt (Nat.le_add_right _ _))
          have hle : s1.heap.objs.size ≤ h'.objs.size := by rw [hsz]; exact Nat.le_add_right _ _
          obtain ⟨H', k1, k2, k3, k4, k5, k6, J⟩ := pairs_laid (tk := tk) (ps := xs.zip ys) I1 (by rw [hl]; omega) (by rw [hl, List.length_zip]; omega) hle hG.above (List.Pairwise.imp (fun {a b} (h : a < b) => Nat.ne_of_lt h) hG.rise) hk3 hS2 hacc (fun j t q e1 e2 => by
            obtain ⟨x, y, f1, f2, f3⟩ := hG.pairs j t e1
            rw [List.getElem?_zip_eq_some] at e2
            obtain ⟨u, hu, ru⟩ := rv.get e2.1
            obtain ⟨u2, hu2, ru2⟩ := rv2.get e2.2
            have e3 : u = x := by rw [List.getElem?_toArray] at f1; rw [f1] at hu; exact (Option.some.inj hu).symm
            have e4 : u2 = y := by rw [List.getElem?_toArray] at f2; rw [f2] at hu2; exact (Option.some.inj hu2).symm
            subst e3 e4
            exact ⟨u, u2, ru, ru2, f3⟩)
          exact ⟨.ref _, H', J, rfl, zipL_q k1 k2 k4 k5 k6 hH1 ra rb q1⟩
    · exact q1.elim
  · exact q1.elim
end
end Pk
end

/-! Ph -/
section
set_option Elab.async false
set_option linter.all false
set_option maxRecDepth 100000
set_option maxHeartbeats 4000000
/-! the head and the end, for every law -/
namespace Pk
open PySem PySem.Spec L2
def h0 : HS := ⟨fun _ => none, 0⟩
theorem law_start {Γ : Pk.Γ} {m : List W → HS → R W} {H : Hp} {a : Addr} {ns : List Int} (ht : ∀ p ∈ Γ.tabs, H p.1 = some (.tbl #[])) (hS : SqL Γ.K H a (ns.map V.int)) (e : ∃ h', m [.scr ns] h0 = .ok (.bl true) h') :
    spM Γ 1 m [.ref a] H (fun v _ => v = .bl true) (fun _ _ _ => False) := by
  obtain ⟨h', e⟩ := e
  have tabs : LamX.Tabs Γ.tabs H := fun p hp => ⟨#[], ht p hp, trivial, fun pos cv z => by cases z⟩
  have key : ∃ F : Hp, Below F H ∧ (∀ b o, F b = some o → NB o) ∧ SqL Γ.K F a (ns.map V.int) := by
    rcases hS with (hS | ⟨o, hS⟩) | hS
    · refine ⟨fun b => if b = a then H a else none, fun b u q => .inl ?_, fun b o q => ?_, .inl (.inl ?_)⟩
      · dsimp only at q
        split at q
        · rename_i z; rw [z]; exact q
        · cases q
      · dsimp only at q
        split at q
        · rw [hS] at q; cases q; trivial
        · cases q
      · show (if a = a then H a else none) = _
        rw [if_pos rfl]; exact hS
    · refine ⟨fun b => if b = a then H a else none, fun b u q => .inl ?_, fun b o q => ?_, .inl (.inr ⟨o, ?_⟩)⟩
      · dsimp only at q
        split at q
        · rename_i z; rw [z]; exact q
        · cases q
      · dsimp only at q
        split at q
        · rw [hS] at q; cases q; trivial
        · cases q
      · show (if a = a then H a else none) = _
        rw [if_pos rfl]; exact hS
    · exact ⟨fun _ => none, fun _ _ q => (by cases q), fun _ _ q => (by cases q), .inr hS⟩
  obtain ⟨F, bF, nF, sF⟩ := key
  refine ⟨rfl, ⟨0, fun _ => 0, F, fun _ => none, fun _ => none⟩, h0, [.scr ns], ⟨bF, rfl, fun m n hm => absurd rfl hm, fun n hn => absurd rfl hn, fun n c q => (by cases q), tabs, nF, fun _ _ q => (by cases q), fun _ _ q => (by cases q), fun _ _ _ q => (by cases q)⟩, .cons ?_ .nil, ?_⟩
  · unfold RW
    exact ⟨a, rfl, sF⟩
  · rw [e]
    intro g' v H' _ _ r
    exact rbl r
theorem code_of {K : PySem.W.Frag} {x q : Str} {ps : Arguments} {b : List Stmt} {sc : Scope} {dvs : List V} {kws : List (Str × V)} {p : Str × Option Str} {fd : FuncData} (F : FunD K x q ps b sc dvs kws (He.fAd K p) fd) : fd.code = .ref (He.codeOf K p) := by
  obtain ⟨oc, od, dV, kV, doc, pm, an, cdv, ct, osl, e, lk, hcd, _, _⟩ := F.ex
  obtain ⟨c, ec⟩ := He.codeIn_ref hcd
  have e2 : fd.code = .ref c := by rw [e, ← ec]
  rw [e2, He.codeOf_eq lk e2]
/-- a tuple among the module's own -/
def tupAtB (K : PySem.W.Frag) (a : Addr) (vs : List V) : Bool := match K.lookup a with
  | some ⟨.type c, _, .seq its _, _⟩ => decide (c = "tuple") && (decide (its.size ≤ sizeLine) && He.relAll vs its.toList)
  | _ => false
theorem tupAtB_ok {K : PySem.W.Frag} {a : Addr} {vs : List V} (h : tupAtB K a vs = true) (H : Hp) : SqT K H a vs := by
  unfold tupAtB at h
  cases q : K.lookup a with
  | none => rw [q] at h; cases h
  | some o =>
    obtain ⟨oc, od, dt, osl⟩ := o
    rw [q] at h
    cases oc with
    | type c =>
      cases dt with
      | seq its n =>
        obtain ⟨h1, h2⟩ := He.ba (show (decide (c = "tuple") && (decide (its.size ≤ sizeLine) && He.relAll vs its.toList)) = true from h)
        obtain ⟨h3, h4⟩ := He.ba h2
        exact .inr ⟨_, its, n, q, congrArg Value.type (of_decide_eq_true h1), rfl, of_decide_eq_true h3, He.relAll_ok h4⟩
      | _ => cases h
    | _ => cases dt <;> cases h
/-- the tables lie apart -/
def apartB (l : List Addr) : Bool := decide l.Nodup
theorem uni_of {l : List (Addr × Str)} (h : (l.map (·.1)).Nodup) {P : Addr} {q : Str} (hm : (P, q) ∈ l) : ∀ p ∈ l, p.1 = P → p.2 = q := by
  intro p hp e
  obtain ⟨i, hi, ei⟩ := List.getElem_of_mem hp
  obtain ⟨j, hj, ej⟩ := List.getElem_of_mem hm
  have e2 : (l.map (·.1))[i]? = (l.map (·.1))[j]? := by
    rw [List.getElem?_map, List.getElem?_map, List.getElem?_eq_getElem hi, List.getElem?_eq_getElem hj, ei, ej]
    exact congrArg some e
  have e3 := (List.getElem?_inj (by rw [List.length_map]; exact hi) h).mp e2
  subst e3
  rw [ei] at ej
  rw [ej]
end Pk
end

/-! PlN -/
section
set_option Elab.async false
set_option linter.all false
set_option maxRecDepth 100000
set_option maxHeartbeats 4000000
namespace Pk
open PySem PySem.Spec L2
/-- a call from a heap whose next box bears a number that is written -/
def padN : Nat := 1000000000
def ePad (f : Ex) : Ex := fun sl h => if h.nx ≤ padN then f sl ⟨h.at_, padN⟩ else .no
theorem e_pad {Γ : Pk.Γ} {Wx : WX} {X : Cx} {e : Expr} {f : Ex} (p : PE X e (RDE Γ Wx f)) : PE X e (RDE Γ Wx (ePad f)) := PE.imp p fun σ H Q ⟨g, sl, h, hH, hS, q⟩ => by
  unfold ePad at q
  split at q
  · rename_i hn
    obtain ⟨l, y⟩ := hH.pad hn
    exact ⟨g.pad padN, sl, ⟨h.at_, padN⟩, y, hS.mono l, Rz.le l q⟩
  · exact q.elim
end Pk
end

/-! PlO -/
section
set_option Elab.async false
set_option linter.all false
set_option maxRecDepth 100000
set_option maxHeartbeats 4000000
namespace Pk
open PySem PySem.Spec L2

/-! ### the order of what can be sorted: ints, texts, tuples of them -/
def ltK : Key → Key → Bool
  | .inl i, .inl j => decide (i < j)
  | .inr x, .inr y => decide (x.cps.toList < y.cps.toList)
  | .inl _, .inr _ => true
  | .inr _, .inl _ => false
def ltL : List Key → List Key → Bool
  | [], [] => false
  | [], _ :: _ => true
  | _ :: _, [] => false
  | a :: l, b :: m => if a = b then ltL l m else ltK a b
theorem str_of_cps {x y : Str} (h : x.cps.toList = y.cps.toList) : x = y := by
  have e := SeqAt.str_beq x y
  rw [h, beq_self_eq_true] at e
  exact beq_iff_eq.mp e.symm
theorem ltK_irr (a : Key) : ltK a a = false := by
  cases a with
  | inl i => exact decide_eq_false (Int.lt_irrefl i)
  | inr x => exact decide_eq_false (List.lt_irrefl _)
theorem ltK_tr {a b c : Key} (h1 : ltK a b = true) (h2 : ltK b c = true) : ltK a c = true := by
  cases a <;> cases b <;> cases c <;> simp only [ltK, decide_eq_true_eq] at h1 h2 ⊢ <;> first | exact List.lt_trans h1 h2 | (cases h1; done) | (cases h2; done) | omega | skip
theorem ltK_tot {a b : Key} (h1 : ltK a b = false) (h2 : ltK b a = false) : a = b := by
  cases a <;> cases b <;> simp only [ltK, decide_eq_false_iff_not] at h1 h2 ⊢
  · congr 1; omega
  · cases h1
  · cases h2
  · exact congrArg Sum.inr (str_of_cps (List.le_antisymm (List.not_lt.mp h2) (List.not_lt.mp h1)))
theorem ltL_irr : ∀ l : List Key, ltL l l = false
  | [] => rfl
  | a :: l => by unfold ltL; rw [if_pos rfl]; exact ltL_irr l
theorem ltL_tr : ∀ {l m n : List Key}, ltL l m = true → ltL m n = true → ltL l n = true
  | [], [], _, h1, _ => by cases h1
  | [], _ :: _, [], _, h2 => by cases h2
  | [], _ :: _, _ :: _, _, _ => rfl
  | _ :: _, [], _, h1, _ => by cases h1
  | _ :: _, _ :: _, [], _, h2 => by cases h2
  | a :: l, b :: m, c :: n, h1, h2 => by
    unfold ltL at h1 h2 ⊢
    by_cases e1 : a = b
    · rw [if_pos e1] at h1
      subst e1
      by_cases e2 : a = c
      · rw [if_pos e2] at h2 ⊢
        exact ltL_tr h1 h2
      · rw [if_neg e2] at h2 ⊢
        exact h2
    · rw [if_neg e1] at h1
      by_cases e2 : b = c
      · subst e2
        rw [if_neg e1]
        exact h1
      · rw [if_neg e2] at h2
        have h3 := ltK_tr h1 h2
        by_cases e3 : a = c
        · subst e3
          rw [ltK_irr] at h3
          cases h3
        · rw [if_neg e3]
          exact h3
theorem ltL_tot : ∀ {l m : List Key}, ltL l m = false → ltL m l = false → l = m
  | [], [], _, _ => rfl
  | [], _ :: _, h1, _ => by cases h1
  | _ :: _, [], _, h2 => by cases h2
  | a :: l, b :: m, h1, h2 => by
    unfold ltL at h1 h2
    by_cases e : a = b
    · subst e
      rw [if_pos rfl] at h1 h2
      rw [ltL_tot h1 h2]
    · rw [if_neg e] at h1
      rw [if_neg (fun z => e z.symm)] at h2
      exact absurd (ltK_tot h1 h2) e
theorem ltL_swo : SrtO.Swo ltL := by
  refine ⟨fun x y h => ?_, fun x y z h1 h2 => ?_⟩
  · cases q : ltL y x with
    | false => rfl
    | true =>
      have := ltL_tr h q
      rw [ltL_irr] at this
      cases this
  · cases q : ltL z x with
    | false => rfl
    | true =>
      exfalso
      cases p : ltL x y with
      | true =>
        have := ltL_tr q p
        rw [h2] at this
        cases this
      | false =>
        have e := ltL_tot p h1
        subst e
        rw [h2] at q
        cases q
theorem swo_on {α β : Type} {lt : β → β → Bool} (O : SrtO.Swo lt) (f : α → β) : SrtO.Swo fun x y => lt (f x) (f y) := ⟨fun x y => O.asym _ _, fun x y z => O.tr _ _ _⟩

/-! ### sorting by insertion -/
section
variable {α : Type}
def ins (lt : α → α → Bool) (x : α) : List α → List α
  | [] => [x]
  | y :: l => if lt y x then y :: ins lt x l else x :: y :: l
def isort (lt : α → α → Bool) : List α → List α
  | [] => []
  | x :: l => ins lt x (isort lt l)
theorem ins_perm (lt : α → α → Bool) (x : α) : ∀ l : List α, (ins lt x l).Perm (x :: l)
  | [] => .refl _
  | y :: l => by
    unfold ins
    split
    · exact ((ins_perm lt x l).cons y).trans (.swap x y l)
    · exact .refl _
theorem isort_perm (lt : α → α → Bool) : ∀ l : List α, (isort lt l).Perm l
  | [] => .refl _
  | x :: l => (ins_perm lt x _).trans ((isort_perm lt l).cons x)
theorem ins_srtd {lt : α → α → Bool} (O : SrtO.Swo lt) (x : α) : ∀ l : List α, SrtO.Srtd lt l → SrtO.Srtd lt (ins lt x l)
  | [], _ => List.pairwise_singleton _ _
  | y :: l, h => by
    unfold ins
    obtain ⟨h1, h2⟩ := List.pairwise_cons.mp h
    split
    · rename_i c
      refine List.pairwise_cons.mpr ⟨fun z hz => ?_, ins_srtd O x l h2⟩
      rcases List.mem_cons.mp ((ins_perm lt x l).mem_iff.mp hz) with e | hz
      · subst e; exact O.asym _ _ c
      · exact h1 z hz
    · rename_i c
      have c := Bool.eq_false_iff.mpr c
      refine List.pairwise_cons.mpr ⟨fun z hz => ?_, h⟩
      rcases List.mem_cons.mp hz with e | hz
      · subst e; exact c
      · exact O.tr _ _ _ c (h1 z hz)
theorem isort_srtd {lt : α → α → Bool} (O : SrtO.Swo lt) : ∀ l : List α, SrtO.Srtd lt (isort lt l)
  | [] => .nil
  | x :: l => ins_srtd O x _ (isort_srtd O l)
theorem ins_cls {lt : α → α → Bool} (O : SrtO.Swo lt) (x z : α) : ∀ l : List α, (ins lt x l).filter (SrtO.eqv lt z) = (x :: l).filter (SrtO.eqv lt z)
  | [] => rfl
  | y :: l => by
    unfold ins
    split
    · rename_i c
      rw [List.filter_cons, ins_cls O x z l]
      rcases SrtO.bcase (SrtO.eqv lt z x) with e | e
      · have ny : SrtO.eqv lt z y = false := by
          cases q : SrtO.eqv lt z y with
          | false => rfl
          | true =>
            obtain ⟨a1, a2⟩ := SrtO.eqv_iff.mp e
            obtain ⟨b1, b2⟩ := SrtO.eqv_iff.mp q
            have := O.tr x z y a1 b2
            rw [c] at this
            cases this
        rw [ny, if_neg (by decide), List.filter_cons, List.filter_cons, List.filter_cons, ny, e]
        rfl
      · rw [List.filter_cons, List.filter_cons, List.filter_cons, e]
        rfl
    · rfl
theorem isort_stb {lt : α → α → Bool} (O : SrtO.Swo lt) : ∀ l : List α, SrtO.Stb lt (isort lt l) l
  | [] => .refl _
  | x :: l => ⟨isort_perm lt _, fun z => by
    show (ins lt x (isort lt l)).filter _ = _
    rw [ins_cls O x z, List.filter_cons, (isort_stb O l).cls z, ← List.filter_cons]⟩
theorem isort_uniq {lt : α → α → Bool} (O : SrtO.Swo lt) {l m : List α} (h1 : SrtO.Srtd lt l) (h2 : SrtO.Stb lt l m) : l = isort lt m :=
  SrtO.stb_uniq O h1 (isort_srtd O m) (h2.trans ⟨(isort_stb O m).perm.symm, fun z => ((isort_stb O m).cls z).symm⟩)
end

/-! ### what is asked of the things that are sorted -/
/-- the values stand for keys: ints, or texts, or tuples of one form -/
def KeysAt (H : Hp) (xs : List V) (k : V → List Key) : Prop :=
  (∀ x ∈ xs, ∃ i, x = .int i ∧ k x = [.inl i]) ∨ (∀ x ∈ xs, ∃ y, x = .str y ∧ k x = [.inr y]) ∨
  (∃ sh : List Bool, sh ≠ [] ∧ ∀ x ∈ xs, ∃ t, x = .ref t ∧ H t = some (.tup ((k x).map kV)) ∧ (k x).map Sum.isLeft = sh)
def bk : Value → V
  | .int i _ => .int i
  | .str x _ => .str x
  | .ref a => .ref a
  | _ => .non
theorem kvals_inv {ks : List Key} {a : Key} {us : List Value} (h : Vals ((a :: ks).map kV) us) : ∃ v us', us = v :: us' ∧ Vals (ks.map kV) us' ∧ ((∃ i t, a = .inl i ∧ v = .int i t) ∨ ∃ x t, a = .inr x ∧ v = .str x t) := by
  cases h with
  | cons r rs =>
    refine ⟨_, _, rfl, rs, ?_⟩
    cases a with
    | inl i => obtain ⟨t, rfl⟩ := r; exact .inl ⟨i, t, rfl, rfl⟩
    | inr x => obtain ⟨t, rfl⟩ := r; exact .inr ⟨x, t, rfl, rfl⟩
section
variable {prog : Program} {w : World} {A : Around} {E : Value → Shared → Prop} {s : Shared} {Q : Bool → Shared → Prop}
theorem oneLt_strs (c : Bool) {p q : Str} {t u : Tok} (h : Q (decide (p.cps.toList < q.cps.toList)) s) : wpAny (model prog w) A (PyProof.Rows.oneLt' c (.str p t) (.str q u)) Q E s := by
  cases c with
  | true => exact PyProof.Rows.oneLt_str h
  | false => exact PySem.W.kat_one _ _ (PyProof.Rows.lt_str (Q := PySem.W.BoolBack Q) h)
theorem katlex : ∀ {l m : List Key} {us vs : List Value} (i : Nat), Vals (l.map kV) us → Vals (m.map kV) vs → l.map Sum.isLeft = m.map Sum.isLeft → Q (ltL l m) s → PySem.W.KatLex prog w A true false Q (us.zip vs) i s
  | [], [], _, _, i, h1, h2, _, q => by
    cases h1; cases h2
    exact PySem.W.kat_nil q
  | [], _ :: _, _, _, _, _, _, e, _ => by cases e
  | _ :: _, [], _, _, _, _, _, e, _ => by cases e
  | a :: l, b :: m, us, vs, i, h1, h2, e, q => by
    obtain ⟨v, us', rfl, r1, c1⟩ := kvals_inv h1
    obtain ⟨u, vs', rfl, r2, c2⟩ := kvals_inv h2
    have e' : l.map Sum.isLeft = m.map Sum.isLeft := (List.cons.inj e).2
    have e0 : a.isLeft = b.isLeft := (List.cons.inj e).1
    rcases c1 with ⟨x, t, rfl, rfl⟩ | ⟨x, t, rfl, rfl⟩ <;> rcases c2 with ⟨y, t', rfl, rfl⟩ | ⟨y, t', rfl, rfl⟩
    · refine PySem.W.kat_cons (SeqAt.EqAt.int_int x t y t' prog w _ _ (PySem.W.kat_go (fun e1 => ?_) (fun e1 => ?_)))
      · have ex : x = y := by simpa using e1
        subst ex
        unfold ltL at q
        rw [if_pos rfl] at q
        exact PySem.W.kat_yes (katlex (i + 1) r1 r2 e' q)
      · have ex : ¬ x = y := by simpa using e1
        unfold ltL at q
        rw [if_neg (fun z => ex (Sum.inl.inj z))] at q
        exact PySem.W.kat_no (TS.oneLt_ints _ q)
    · cases e0
    · cases e0
    · refine PySem.W.kat_cons (SeqAt.EqAt.str_str x t y t' prog w _ _ (PySem.W.kat_go (fun e1 => ?_) (fun e1 => ?_)))
      · have ex : x = y := by simpa using e1
        subst ex
        unfold ltL at q
        rw [if_pos rfl] at q
        exact PySem.W.kat_yes (katlex (i + 1) r1 r2 e' q)
      · have ex : ¬ x = y := by simpa using e1
        unfold ltL at q
        rw [if_neg (fun z => ex (Sum.inr.inj z))] at q
        exact PySem.W.kat_no (oneLt_strs _ q)
end

section
theorem bk_rel {x : V} {v : Value} (r : RelV x v) (h : (∃ i, x = .int i) ∨ (∃ y, x = .str y) ∨ ∃ a, x = .ref a) : bk v = x := by
  rcases h with ⟨i, rfl⟩ | ⟨y, rfl⟩ | ⟨a, rfl⟩
  · obtain ⟨t, rfl⟩ := r; rfl
  · obtain ⟨t, rfl⟩ := r; rfl
  · obtain rfl : v = Value.ref a := r; rfl
theorem bk_all : ∀ {xs : List V} {us : List Value}, Vals xs us → (∀ x ∈ xs, (∃ i, x = .int i) ∨ (∃ y, x = .str y) ∨ ∃ a, x = .ref a) → xs = us.map bk ∧ ∀ v ∈ us, RelV (bk v) v ∧ bk v ∈ xs
  | _, _, .nil, _ => ⟨rfl, fun v h => nomatch h⟩
  | x :: xs, v :: us, .cons r t, h => by
    obtain ⟨h1, h2⟩ := bk_all t fun y hy => h y (List.mem_cons_of_mem _ hy)
    have e := bk_rel r (h x List.mem_cons_self)
    refine ⟨by rw [List.map_cons, ← h1, e], fun u hu => ?_⟩
    rcases List.mem_cons.mp hu with rfl | hu
    · rw [e]; exact ⟨r, List.mem_cons_self⟩
    · exact ⟨(h2 u hu).1, List.mem_cons_of_mem _ (h2 u hu).2⟩
theorem bk_vals : ∀ {us : List Value}, (∀ v ∈ us, RelV (bk v) v) → Vals (us.map bk) us
  | [], _ => .nil
  | v :: us, h => .cons (h v List.mem_cons_self) (bk_vals fun u hu => h u (List.mem_cons_of_mem _ hu))
theorem keys_form {H : Hp} {xs : List V} {k : V → List Key} (hk : KeysAt H xs k) : ∀ x ∈ xs, (∃ i, x = .int i) ∨ (∃ y, x = .str y) ∨ ∃ a, x = .ref a := by
  intro x hx
  rcases hk with h | h | ⟨sh, _, h⟩
  · obtain ⟨i, e, _⟩ := h x hx; exact .inl ⟨i, e⟩
  · obtain ⟨i, e, _⟩ := h x hx; exact .inr (.inl ⟨i, e⟩)
  · obtain ⟨t, e, _⟩ := h x hx; exact .inr (.inr ⟨t, e⟩)
def TupAt (h : Heap) (v : Value) (ks : List Key) : Prop := ∃ a o its n, v = .ref a ∧ h.get? a = some o ∧ o.cls = .type "tuple" ∧ o.data = .seq (List.toArray its) n ∧ Vals (ks.map kV) its
theorem firsts_sh {h : Heap} {k : Value → List Key} {c : Bool} {sh : List Bool} : ∀ {us : List Value}, (∀ v ∈ us, TupAt h v (k v) ∧ (k v).map Sum.isLeft = c :: sh) → ∃ fs : List Value, PySem.W.KatTups h us fs ∧ fs.length = us.length ∧ ∀ f ∈ fs, if c = true then ∃ x t, f = Value.int x t else ∃ x t, f = Value.str x t
  | [], _ => ⟨[], PySem.W.KatTups.nil, rfl, fun _ hm => by simp at hm⟩
  | v :: us, hp => by
    obtain ⟨fs, h1, h2, h3⟩ := firsts_sh (us := us) fun v' hm => hp v' (List.mem_cons_of_mem _ hm)
    obtain ⟨⟨a, o, its, n, e, ho, hc, hd, rv⟩, hs⟩ := hp v List.mem_cons_self
    subst e
    cases hks : k (.ref a) with
    | nil => rw [hks] at hs; cases hs
    | cons b ks =>
      rw [hks] at hs rv
      obtain ⟨f, its', rfl, _, cf⟩ := kvals_inv rv
      have e0 : b.isLeft = c := (List.cons.inj hs).1
      refine ⟨f :: fs, PySem.W.KatTups.cons ho hc hd rfl h1, by rw [List.length_cons, List.length_cons, h2], fun g hm => ?_⟩
      rcases List.mem_cons.mp hm with rfl | hm
      · rcases cf with ⟨i, t, rfl, rfl⟩ | ⟨i, t, rfl, rfl⟩
        · subst e0; exact ⟨i, t, rfl⟩
        · subst e0; exact ⟨i, t, rfl⟩
      · exact h3 g hm
theorem strs_iv : ∀ {vs : List Value}, (∀ v ∈ vs, ∃ i t, v = Value.str i t) → ∃ ss, PyProof.Rows.StrsAre vs ss
  | [], _ => ⟨[], .nil⟩
  | v :: vs, h => by
    obtain ⟨i, t, e⟩ := h v List.mem_cons_self
    obtain ⟨ss, r⟩ := strs_iv fun u hu => h u (List.mem_cons_of_mem _ hu)
    subst e
    exact ⟨i :: ss, .cons i t r⟩
theorem ltL_int {i j : Int} : ltL [.inl i] [.inl j] = decide (i < j) := by
  unfold ltL
  split
  · rename_i e
    cases e
    exact (decide_eq_false (Int.lt_irrefl i)).symm
  · rfl
theorem ltL_str {i j : Str} : ltL [.inr i] [.inr j] = decide (i.cps.toList < j.cps.toList) := by
  unfold ltL
  split
  · rename_i e
    cases e
    exact (decide_eq_false (List.lt_irrefl _)).symm
  · rfl
variable {X : Cx} {pins : List (Addr × Obj)} {σ : L2.St} {H : Hp} {s : Shared} {A : Around}
theorem sortable (I : Inv X pins σ H s) {xs : List V} {us : List Value} (r : Vals xs us) {k : V → List Key} (hk : KeysAt H xs k) (h2 : 2 ≤ us.length) {h₁ : Heap} {a : Addr} (keep : ∀ b o, s.heap.get? b = some o → b ≠ a ∧ h₁.get? b = some o) :
    SrtO.SortableO X.prog X.w A { s with heap := h₁ } a us (fun v u => ltL (k (bk v)) (k (bk u))) := by
  intro h' keep2
  have kp : ∀ b o, s.heap.get? b = some o → h'.get? b = some o := fun b o e => keep2 b o (keep b o e).1 (keep b o e).2
  obtain ⟨b1, b2⟩ := bk_all r (keys_form hk)
  rcases hk with h | h | ⟨sh, hs, h⟩
  · have hi : ∀ v ∈ us, ∃ i t, v = Value.int i t ∧ k (bk v) = [.inl i] := fun v hv => by
      obtain ⟨i, e1, e2⟩ := h _ (b2 v hv).2
      have r1 := (b2 v hv).1
      rw [e1] at r1
      obtain ⟨t, rfl⟩ := r1
      exact ⟨i, t, rfl, e2⟩
    have hI := SrtO.ints_iv (vs := us) fun v hv => let ⟨i, t, e, _⟩ := hi v hv; ⟨i, t, e⟩
    refine ⟨PyProof.Rows.oneType', fun Q E hq => ?_, fun p q hm hm' => ?_⟩
    · match us, hI, h2 with
      | v1 :: v2 :: rest, hI, _ =>
        rw [PyProof.Rows.keyKind_ints hI]
        exact wpAny_pure hq
      | [], _, h => exact absurd h (by decide)
      | [v], _, h => exact absurd h (by simp)
    · obtain ⟨x, t, e, ek⟩ := hi _ hm
      obtain ⟨y, u, e', ek'⟩ := hi _ hm'
      show wpAny (model X.prog X.w) A (PyProof.Rows.keyLt' PyProof.Rows.oneType' p.1 q.1) (fun r s' => s' = _ ∧ r = ltL (k (bk p.1)) (k (bk q.1))) (fun _ _ => False) _
      rw [ek, ek', e, e', PyProof.Rows.keyLt'_oneType, ltL_int]
      exact PyProof.Rows.oneLt_int ⟨rfl, rfl⟩
  · have hi : ∀ v ∈ us, ∃ i t, v = Value.str i t ∧ k (bk v) = [.inr i] := fun v hv => by
      obtain ⟨i, e1, e2⟩ := h _ (b2 v hv).2
      have r1 := (b2 v hv).1
      rw [e1] at r1
      obtain ⟨t, rfl⟩ := r1
      exact ⟨i, t, rfl, e2⟩
    obtain ⟨ss, hI⟩ := strs_iv (vs := us) fun v hv => let ⟨i, t, e, _⟩ := hi v hv; ⟨i, t, e⟩
    refine ⟨PyProof.Rows.oneType', fun Q E hq => ?_, fun p q hm hm' => ?_⟩
    · match us, hI, h2 with
      | v1 :: v2 :: rest, hI, _ =>
        rw [PyProof.Rows.keyKind_strs hI]
        exact wpAny_pure hq
      | [], _, h => exact absurd h (by decide)
      | [v], _, h => exact absurd h (by simp)
    · obtain ⟨x, t, e, ek⟩ := hi _ hm
      obtain ⟨y, u, e', ek'⟩ := hi _ hm'
      show wpAny (model X.prog X.w) A (PyProof.Rows.keyLt' PyProof.Rows.oneType' p.1 q.1) (fun r s' => s' = _ ∧ r = ltL (k (bk p.1)) (k (bk q.1))) (fun _ _ => False) _
      rw [ek, ek', e, e', PyProof.Rows.keyLt'_oneType, ltL_str]
      exact PyProof.Rows.oneLt_str ⟨rfl, rfl⟩
  · have hi : ∀ v ∈ us, TupAt h' v (k (bk v)) ∧ (k (bk v)).map Sum.isLeft = sh := fun v hv => by
      obtain ⟨t, e1, e2, e3⟩ := h _ (b2 v hv).2
      have r1 := (b2 v hv).1
      rw [e1] at r1
      obtain rfl : v = Value.ref t := r1
      obtain ⟨_, its, rv, o, ho, hc, n, hd⟩ := I.hok _ _ e2
      exact ⟨⟨t, o, its, n, rfl, kp _ _ ho, hc, hd, rv⟩, e3⟩
    cases hsh : sh with
    | nil => exact absurd hsh hs
    | cons c sh' =>
      subst hsh
      obtain ⟨fs, h1, h3, h4⟩ := firsts_sh (k := fun v => k (bk v)) hi
      refine ⟨PyProof.Rows.tuples' true, fun Q E hq => ?_, fun p q hm hm' => ?_⟩
      · refine PySem.W.kat_kind (s := { s with heap := h' }) (T := if c = true then .type "int" else .type "str") h1 (by omega) (fun f hm => ?_) (by cases c <;> rfl) ?_
        · have h5 := h4 f hm
          cases c with
          | true => obtain ⟨x, t, rfl⟩ := h5; exact PySem.W.Looks.now
          | false => obtain ⟨x, t, rfl⟩ := h5; exact PySem.W.Looks.now
        · have e : ((if c = true then Value.type "int" else Value.type "str") != Value.type "tuple") = true := by cases c <;> decide
          rw [e]
          exact hq
      · obtain ⟨⟨a1, o1, i1, n1, e1, ho1, hc1, hd1, rv1⟩, s1⟩ := hi _ hm
        obtain ⟨⟨a2, o2, i2, n2, e2, ho2, hc2, hd2, rv2⟩, s2⟩ := hi _ hm'
        show wpAny (model X.prog X.w) A (PyProof.Rows.keyLt' (PyProof.Rows.tuples' true) p.1 q.1) (fun r s' => s' = _ ∧ r = ltL (k (bk p.1)) (k (bk q.1))) (fun _ _ => False) _
        have el : (k (bk p.1)).length = (k (bk q.1)).length := by
          have := congrArg List.length (s1.trans s2.symm)
          rwa [List.length_map, List.length_map] at this
        have l1 := rv1.length
        have l2 := rv2.length
        rw [List.length_map] at l1 l2
        generalize k (bk p.1) = l at *
        generalize k (bk q.1) = m at *
        rw [e1, e2]
        refine PySem.W.kat_lt (s := { s with heap := h' }) ho1 hd1 ho2 hd2 ?_
        have ef : decide ((List.toArray i1).size < (List.toArray i2).size) = false := by
          rw [List.size_toArray, List.size_toArray, ← l1, ← l2, el]
          exact decide_eq_false (Nat.lt_irrefl _)
        rw [ef]
        exact katlex 0 rv1 rv2 (s1.trans s2.symm) ⟨rfl, rfl⟩
end
end Pk
end

/-! PlP -/
section
set_option Elab.async false
set_option linter.all false
set_option maxRecDepth 100000
set_option maxHeartbeats 4000000
namespace Pk
open PySem PySem.Spec L2

/-! ### sorted(..), whatever is collected -/
/-- the keys of values, by the heap -/
def unkV : V → Key
  | .int i => .inl i
  | .str x => .inr x
  | _ => .inl 0
def kHp (H : Hp) : V → List Key
  | .int i => [.inl i]
  | .str x => [.inr x]
  | .ref t => match H t with
    | some (.tup vs) => vs.map unkV
    | _ => []
  | _ => []
def unkW : W → Key
  | .int i => .inl i
  | .str x => .inr x
  | _ => .inl 0
def kW : W → List Key
  | .int i => [.inl i]
  | .str x => [.inr x]
  | .tup ws => ws.map unkW
  | _ => []
def ltW (x y : W) : Bool := ltL (kW x) (kW y)
def isInt : W → Bool
  | .int _ => true
  | _ => false
def isStr : W → Bool
  | .str _ => true
  | _ => false
def isAt (w : W) : Bool := isInt w || isStr w
def shOf : W → Option (List Bool)
  | .tup ws => if ws.all isAt && !ws.isEmpty then some (ws.map isInt) else none
  | _ => none
def sameSh : List W → Bool
  | [] => true
  | w :: ws => match shOf w with
    | some sh => ws.all fun v => shOf v == some sh
    | none => false
def okSort (ws : List W) : Bool := ws.all isInt || ws.all isStr || sameSh ws
def mSort (bx : Bool) (ws : List W) (h : HS) : R W := if okSort ws && decide (ws.length ≤ sizeLine) then mkL bx (isort ltW ws) h else .no
section
variable {K : PySem.W.Frag} {g : G} {H : Hp} {Γ : Γ} {h : HS}
inductive Al {α β : Type} (P : α → β → Prop) : List α → List β → Prop
  | nil : Al P [] []
  | cons {a b as bs} : P a b → Al P as bs → Al P (a :: as) (b :: bs)
theorem Al.ins {α β : Type} {P : α → β → Prop} {lt : α → α → Bool} {lt' : β → β → Bool} (e : ∀ a b a' b', P a b → P a' b' → lt a a' = lt' b b') {x : α} {y : β} (hx : P x y) : ∀ {as bs}, Al P as bs → Al P (ins lt x as) (ins lt' y bs)
  | _, _, .nil => .cons hx .nil
  | a :: as, b :: bs, .cons h t => by
    unfold Pk.ins
    rw [e a b x y h hx]
    split
    · exact .cons h (Al.ins e hx t)
    · exact .cons hx (.cons h t)
theorem Al.isort {α β : Type} {P : α → β → Prop} {lt : α → α → Bool} {lt' : β → β → Bool} (e : ∀ a b a' b', P a b → P a' b' → lt a a' = lt' b b') : ∀ {as bs}, Al P as bs → Al P (isort lt as) (isort lt' bs)
  | _, _, .nil => .nil
  | a :: as, b :: bs, .cons h t => Al.ins e h (Al.isort e t)
theorem Al.rws : ∀ {ws : List W} {vs : List V}, Al (fun w v => RW K g w v ∧ kW w = kHp H v) ws vs → RWs K g ws vs
  | _, _, .nil => .nil
  | _, _, .cons h t => .cons h.1 t.rws
theorem at_unk {w : W} {v : V} (h : isAt w = true) (r : RW K g w v) : v = kV (unkW w) ∧ unkV v = unkW w := by
  unfold isAt at h
  cases w <;> simp [isInt, isStr] at h
  · cases rint r; exact ⟨rfl, rfl⟩
  · cases rstr r; exact ⟨rfl, rfl⟩
theorem ats_unk : ∀ {ws : List W} {vs : List V}, ws.all isAt = true → RWs K g ws vs → vs = (ws.map unkW).map kV ∧ vs.map unkV = ws.map unkW
  | [], _, _, r => by unfold RWs at r; subst r; exact ⟨rfl, rfl⟩
  | w :: ws, _, h, r => by
    unfold RWs at r
    obtain ⟨v, vr, rfl, r1, rs⟩ := r
    rw [List.all_cons, Bool.and_eq_true] at h
    obtain ⟨a1, a2⟩ := at_unk h.1 r1
    obtain ⟨b1, b2⟩ := ats_unk h.2 rs
    exact ⟨by rw [List.map_cons, List.map_cons, ← a1, ← b1], by rw [List.map_cons, List.map_cons, a2, b2]⟩
/-- a value told by its key: what its W is, is its key -/
theorem al_int : ∀ {ws : List W} {vs : List V}, ws.all isInt = true → RWs K g ws vs → Al (fun w v => RW K g w v ∧ kW w = kHp H v) ws vs ∧ ∀ x ∈ vs, ∃ i, x = .int i ∧ kHp H x = [.inl i]
  | [], _, _, r => by unfold RWs at r; subst r; exact ⟨.nil, fun _ h => nomatch h⟩
  | w :: ws, _, h, r => by
    unfold RWs at r
    obtain ⟨v, vr, rfl, r1, rs⟩ := r
    rw [List.all_cons, Bool.and_eq_true] at h
    obtain ⟨b1, b2⟩ := al_int h.2 rs
    cases w <;> simp [isInt] at h
    rename_i i
    cases rint r1
    refine ⟨.cons ⟨r1, rfl⟩ b1, fun x hx => ?_⟩
    rcases List.mem_cons.mp hx with rfl | hx
    · exact ⟨i, rfl, rfl⟩
    · exact b2 x hx
theorem al_str : ∀ {ws : List W} {vs : List V}, ws.all isStr = true → RWs K g ws vs → Al (fun w v => RW K g w v ∧ kW w = kHp H v) ws vs ∧ ∀ x ∈ vs, ∃ i, x = .str i ∧ kHp H x = [.inr i]
  | [], _, _, r => by unfold RWs at r; subst r; exact ⟨.nil, fun _ h => nomatch h⟩
  | w :: ws, _, h, r => by
    unfold RWs at r
    obtain ⟨v, vr, rfl, r1, rs⟩ := r
    rw [List.all_cons, Bool.and_eq_true] at h
    obtain ⟨b1, b2⟩ := al_str h.2 rs
    cases w <;> simp [isStr] at h
    rename_i i
    cases rstr r1
    refine ⟨.cons ⟨r1, rfl⟩ b1, fun x hx => ?_⟩
    rcases List.mem_cons.mp hx with rfl | hx
    · exact ⟨i, rfl, rfl⟩
    · exact b2 x hx
theorem left_int : ∀ {ws : List W}, ws.all isAt = true → (ws.map unkW).map Sum.isLeft = ws.map isInt
  | [], _ => rfl
  | w :: ws, h => by
    rw [List.all_cons, Bool.and_eq_true] at h
    rw [List.map_cons, List.map_cons, List.map_cons, left_int h.2]
    have h1 := h.1
    unfold isAt at h1
    cases w <;> simp [isInt, isStr] at h1 <;> rfl
theorem al_tup {sh : List Bool} (hH : RH Γ g h H) : ∀ {ws : List W} {vs : List V}, (ws.all fun v => shOf v == some sh) = true → RWs Γ.K g ws vs → Al (fun w v => RW Γ.K g w v ∧ kW w = kHp H v) ws vs ∧ ∀ x ∈ vs, ∃ t, x = .ref t ∧ H t = some (.tup ((kHp H x).map kV)) ∧ (kHp H x).map Sum.isLeft = sh
  | [], _, _, r => by unfold RWs at r; subst r; exact ⟨.nil, fun _ h => nomatch h⟩
  | w :: ws, _, h, r => by
    unfold RWs at r
    obtain ⟨v, vr, rfl, r1, rs⟩ := r
    rw [List.all_cons, Bool.and_eq_true] at h
    obtain ⟨b1, b2⟩ := al_tup hH h.2 rs
    have h1 := beq_iff_eq.mp h.1
    cases w <;> simp only [shOf, reduceCtorEq] at h1
    rename_i us
    split at h1
    · rename_i hc
      rw [Bool.and_eq_true] at hc
      obtain ⟨t, xs, rfl, e, rx⟩ := tup_at hH r1
      obtain ⟨u1, u2⟩ := ats_unk hc.1 rx
      have ek : kHp H (.ref t) = us.map unkW := by
        show (match H t with
          | some (.tup vs) => vs.map unkV
          | _ => []) = _
        rw [e]
        exact u2
      refine ⟨.cons ⟨r1, ek.symm⟩ b1, fun x hx => ?_⟩
      rcases List.mem_cons.mp hx with rfl | hx
      · exact ⟨t, rfl, by rw [ek, ← u1]; exact e, by rw [ek, left_int hc.1]; exact Option.some.inj h1⟩
      · exact b2 x hx
    · cases h1
theorem okSort_keys (hH : RH Γ g h H) {ws : List W} {vs : List V} (ok : okSort ws = true) (r : RWs Γ.K g ws vs) : Al (fun w v => RW Γ.K g w v ∧ kW w = kHp H v) ws vs ∧ KeysAt H vs (kHp H) := by
  unfold okSort at ok
  rw [Bool.or_eq_true, Bool.or_eq_true] at ok
  rcases ok with (ok | ok) | ok
  · obtain ⟨a, b⟩ := al_int (H := H) ok r
    exact ⟨a, .inl b⟩
  · obtain ⟨a, b⟩ := al_str (H := H) ok r
    exact ⟨a, .inr (.inl b)⟩
  · cases ws with
    | nil =>
      unfold RWs at r
      subst r
      exact ⟨.nil, .inl fun _ h => nomatch h⟩
    | cons w ws =>
      have ok : (match shOf w with
        | some sh => ws.all fun v => shOf v == some sh
        | none => false) = true := ok
      split at ok
      · rename_i sh e
        obtain ⟨a, b⟩ := al_tup hH (ws := w :: ws) (sh := sh) (by rw [List.all_cons, e, ok]; simp) r
        refine ⟨a, .inr (.inr ⟨sh, fun z => ?_, b⟩)⟩
        subst z
        cases w <;> simp only [shOf, reduceCtorEq] at e
        rename_i us
        split at e
        · rename_i hc
          cases us with
          | nil => simp at hc
          | cons _ _ => cases e
        · cases e
      · cases ok
end
section
variable {Γ : Γ} {Wx : WX} {X : Cx} {pins : List (Addr × Obj)} {σ : L2.St} {H : Hp} {s : Shared} {g : G} {h : HS} {Q : VK}
theorem call_sorted_of {u : Value} (hc : wpAny (model X.prog X.w) X.A.in1 (collect u) (fun us s1 => us.length ≤ sizeLine ∧ wpAny (model X.prog X.w) X.A.in1 (call (.builtin "list.sort") [.ref s1.heap.objs.size]) (fun _ s' => EP X pins σ Q (.ref s1.heap.objs.size) s') X.xe { s1 with heap := s1.heap.push (PyProof.Rows.seqObj "list" us.toArray 0) }) X.xe s) :
    wpAny (model X.prog X.w) X.A (call (.builtin "sorted") [u]) (EP X pins σ Q) X.xe s := by
  refine Calls.call_function_entry PyProof.Rows.kind_sorted PyProof.Rows.plain_sorted PyProof.Rows.entry_sorted (PyProof.Rows.args_sorted1 _) ?_
  unfold Builtin.«sorted»
  refine wpAny_bind (m := checkCount "sorted" 1 1 _) (wpAny_pure ?_)
  refine wpAny_bind (wpAny_mono hc (fun us s1 x => ?_) fun _ _ e => e)
  obtain ⟨hz, x⟩ := x
  refine wpAny_bind (wpAny_newList ?_ hz)
  refine wpAny_bind (wpAny_holding (wpAny_mono x (fun _ s' y => ?_) fun _ _ e => e))
  exact wpAny_pure ⟨_, rfl, y⟩
/-- the sort of what was collected -/
theorem sort_fin (bx : Bool) {σ' : L2.St} {ws : List W} {xs : List V} {us : List Value} (I : Inv X pins σ H s) (hH : RH Γ g h H) (r : RWs Γ.K g ws xs) (rv : Vals xs us) (q : Rz Γ Wx (RW Γ.K) g (mSort bx ws h) σ' Q) :
    us.length ≤ sizeLine ∧ wpAny (model X.prog X.w) X.A.in1 (call (.builtin "list.sort") [.ref s.heap.objs.size]) (fun _ s' => EP X pins σ Q (.ref s.heap.objs.size) s') X.xe { s with heap := s.heap.push (PyProof.Rows.seqObj "list" us.toArray 0) } := by
  unfold mSort at q
  split at q
  · rename_i hc
    rw [Bool.and_eq_true, decide_eq_true_eq] at hc
    obtain ⟨al, kk⟩ := okSort_keys hH hc.1 r
    have hz : us.length ≤ sizeLine := by rw [← rv.length, ← r.len]; exact hc.2
    refine ⟨hz, ?_⟩
    have hoL : (s.heap.push (PyProof.Rows.seqObj "list" us.toArray 0)).get? s.heap.objs.size = some (PyProof.Rows.seqObj "list" us.toArray 0) := Heap.get?_push_size _ rfl
    refine wpAny_call_entry PyProof.Rows.slot_list_sort ⟨_, hoL, rfl⟩ PyProof.Rows.entry_list_sort
      (SrtO.list_sort_ord (s := { s with heap := s.heap.push (PyProof.Rows.seqObj "list" us.toArray 0) }) (swo_on ltL_swo fun v => kHp H (bk v)) hoL hz (fun h2 => ?_) fun out h1 h2 => ⟨.none, rfl, ?_⟩) (PyProof.Rows.args_list_sort _)
    · exact sortable I rv kk h2 (h₁ := s.heap.push (PyProof.Rows.seqObj "list" us.toArray 0)) fun b o e => ⟨Nat.ne_of_lt (Heap.lt_size e), Heap.get?_push_of_some _ e⟩
    · obtain ⟨b1, b2⟩ := bk_all rv (keys_form kk)
      obtain ⟨ep, he'⟩ := PyProof.Rows.sortedHeap_at (vs := us) (out := out.toArray) hoL
      have ho : ∀ v ∈ out, RelV (bk v) v := fun v hv => (b2 v (h2.perm.mem_iff.mp hv)).1
      have e1 : out.map bk = isort (fun x y => ltL (kHp H x) (kHp H y)) xs := by
        rw [b1]
        exact isort_uniq (swo_on ltL_swo (kHp H)) (SrtO.srtd_map h1) (SrtO.Stb.map (swo_on ltL_swo (kHp H)) bk h2)
      have al2 := Al.isort (lt := ltW) (lt' := fun x y => ltL (kHp H x) (kHp H y)) (fun a b a' b' p p' => by unfold ltW; rw [p.2, p'.2]) al
      have rs2 : RWs Γ.K g (isort ltW ws) (out.map bk) := by rw [e1]; exact al2.rws
      have hn : H s.heap.objs.size = none := I.hok.fresh (Nat.le_refl _)
      refine ⟨.ref s.heap.objs.size, upd H s.heap.objs.size (.lst (out.map bk)), I.laid (t' := s.toks) (fun b u e => ?_) (Nat.le_refl _) (show ObjOk X.prog X.w _ _ _ (.lst (out.map bk)) from ⟨by rw [List.length_map, h2.len]; exact hz, out, ep, bk_vals ho, he'⟩), rfl, mkL_ok hH hn rs2 q⟩
      have hb : b < s.heap.objs.size := Heap.lt_size e
      rw [PyProof.Rows.sortedHeap_old (Nat.ne_of_lt hb) (by rw [PyProof.Rows.size_push']; exact Nat.lt_succ_of_lt hb)]
      exact Heap.get?_push_of_some _ e
  · exact q.elim
end
end Pk
end

/-! PlQ -/
section
set_option Elab.async false
set_option linter.all false
set_option maxRecDepth 100000
set_option maxHeartbeats 4000000
namespace Pk
open PySem PySem.Spec L2 PyProof.Rows
section
variable {prog : Program} {w : World} {A : Around} {E : Value → Shared → Prop} {s : Shared}
/-- a list or a tuple collected -/
theorem collect_seq {l : Addr} {vs : List Value} {Q : List Value → Shared → Prop} {T : String} (hT : T = "list" ∨ T = "tuple") (hl : ∃ o, s.heap.get? l = some o ∧ o.cls = .type T ∧ ∃ n, o.data = .seq vs.toArray n)
    (h : ∀ h', (∀ b o, s.heap.get? b = some o → h'.get? b = some o) → Q vs { s with heap := h' }) (hsz : vs.length ≤ sizeLine) :
    wpAny (model prog w) A (collect (.ref l)) Q E s := by
  obtain ⟨o, ho, hc, n, hd⟩ := hl
  unfold collect
  refine wpAny_bind (wpAny_runValue (codeAny_builtin entry_proto_collect' ?_))
  show wpAny _ _ (do again (.builtin "list.__iadd__" ⟨[← newList [], .ref l], []⟩)) _ _ s
  refine wpAny_bind (wpAny_newList (wpAny_pure ⟨Code.quiet_builtin _ (by decide +kernel), codeAny_builtin entry_list_iadd' ?_⟩))
  show wpAny _ _ (Builtin.List.listExtendWith (.ref s.heap.objs.size) (.ref l) (.ref s.heap.objs.size)) _ _ { s with heap := s.heap.push (seqObj "list" #[] 0) }
  unfold Builtin.List.listExtendWith
  have ho' : (s.heap.push (seqObj "list" #[] 0)).get? l = some o := Heap.get?_push_of_some _ ho
  refine wpAny_bind (wpAny_typeOf (T := T) ⟨o, ho', hc⟩ ?_)
  have ht : ((Value.type T == Value.type "list") || (Value.type T == Value.type "tuple")) = true := by rcases hT with rfl | rfl <;> rfl
  have ht' : (Builtin.List.listSameRef (.ref s.heap.objs.size) (.ref l) || (Value.type T == Value.type "list") || (Value.type T == Value.type "tuple")) = true := by
    rw [Bool.or_assoc, ht, Bool.or_true]
  rw [if_pos ht']
  refine wpAny_bind (listItems_at ho' hd ?_)
  refine wpAny_bind (listItems_at (xs := #[]) (n := 0) (Heap.get?_push_size _ rfl) rfl ?_)
  rw [if_neg (by simp)]
  refine wpAny_bind (listUpdate_at (xs := #[]) (n := 0) (Heap.get?_push_size _ rfl) rfl ?_ (Nat.zero_le _) (by show (#[] ++ vs.toArray).size ≤ sizeLine + 1; simp only [Array.size_append, List.size_toArray, List.length_nil]; omega))
  refine wpAny_pure ?_
  show wpAny (model prog w) A (do
      let o ← load s.heap.objs.size
      match o.data with
      | .seq xs _ => pure xs.toList
      | _ => unsupported "internal:collect") Q E { s with heap := (s.heap.push (seqObj "list" #[] 0)).update s.heap.objs.size (Obj.mapSeq (· ++ vs.toArray)) }
  refine wpAny_bind (wpAny_load (get?_update_seq (Heap.get?_push_size _ rfl) _) ?_)
  show wpAny _ _ (pure ((#[] : Array Value) ++ vs.toArray).toList) Q E _
  rw [show ((#[] : Array Value) ++ vs.toArray).toList = vs by simp]
  refine wpAny_pure (h _ fun b o e => ?_)
  rw [Heap.get?_update_ne _ _ _ _ (Nat.ne_of_lt (Heap.lt_size e))]
  exact Heap.get?_push_of_some _ e
end
def m_sorted (bx : Bool) (xs : List W) (h : HS) : R W := match xs with
  | [x] => match sview h x with
    | some ws => mSort bx ws h
    | none => match dview h x with
      | some (ks, _) => match unKs ks with
        | some ws => mSort bx ws h
        | none => .no
      | none => .no
  | _ => .no
section
variable {Γ : Γ} {Wx : WX} {X : Cx} {g : G} {h : HS} {H : Hp}
theorem unKs_flat : ∀ {ks : List DK} {ws : List W}, unKs ks = some ws → flatK ks = true
  | [], _, _ => rfl
  | k :: ks, _, e => by
    unfold unKs at e
    split at e
    · rename_i w ws a1 a2
      cases k with
      | k _ => unfold flatK; rw [List.all_cons]; exact unKs_flat a2
      | t _ => cases a1
    · cases e
theorem c_sorted (bx : Bool) (hK : X.K = Γ.K) (hc : X.calm = true) : CallS Γ Wx X (.builtin "sorted") (m_sorted bx) := by
  refine ⟨fun xs H Q => ∃ g h w v σ', xs = [v] ∧ RH Γ g h H ∧ RW Γ.K g w v ∧ Rz Γ Wx (RW Γ.K) g (m_sorted bx [w] h) σ' Q, ?_, fun {g h H σ xs vs Q} hH r q => ?_⟩
  · intro pins s σ H xs us Q I rv ⟨g, h, w, v, σ', e, hH, r, q⟩
    subst e
    obtain ⟨u, rfl, ru⟩ := vals1 rv
    have q : Rz Γ Wx (RW Γ.K) g (match sview h w with
      | some ws => mSort bx ws h
      | none => match dview h w with
        | some (ks, _) => match unKs ks with
          | some ws => mSort bx ws h
          | none => .no
        | none => .no) σ' Q := q
    split at q
    · rename_i ws e
      obtain ⟨p, ys, rfl, sq, rs⟩ := sview_ok hH r e
      obtain rfl : u = Value.ref p := ru
      rw [← hK] at sq
      refine call_sorted_of ?_
      rcases sq with sq | sq
      · obtain ⟨its, rl, ⟨o, n, ho, hc1, _, hd⟩, hz⟩ := I.list sq
        refine collect_seq (T := "list") (.inl rfl) ⟨o, ho, hc1, n, hd⟩ (fun h' kp => ?_) (by rw [← rl.length]; exact hz)
        exact sort_fin bx (I.kept (t' := s.toks) kp) hH rs rl q
      · obtain ⟨its, rl, ⟨o, ho, hc1, n, hd⟩, hz⟩ := I.tuple sq
        refine collect_seq (T := "tuple") (.inr rfl) ⟨o, ho, hc1, n, hd⟩ (fun h' kp => ?_) (by rw [← rl.length]; exact hz)
        exact sort_fin bx (I.kept (t' := s.toks) kp) hH rs rl q
    · split at q
      · rename_i ks ws e
        split at q
        · rename_i ws e2
          obtain ⟨d, kvs, rfl, hd, ek, _⟩ := dview_flat hH (unKs_flat e2) r e
          subst ek
          obtain rfl : u = Value.ref d := ru
          obtain ⟨z, lo, vs, rel, dd⟩ := dk_rd I.hok hd
          obtain ⟨ep, hat⟩ := dd.dictAt
          have ek : (kvs.map fun kv => kV kv.1) = vs.map fun p => kV p.1 := by
            have e := congrArg (List.map kV) rel.keys
            rw [List.map_map, List.map_map] at e
            exact e
          refine call_sorted_of ?_
          refine PySem.W.kdu_collect (A := X.A.in1) (PySem.W.kdl_dict (knd := mixKind X.prog X.w) (kvs := vs) (ep := ep) lo) (I.ok.hd hc) hat (by rw [← rel.length]; exact z) fun h' tk acc hk hacc => ?_
          have hv : Vals (vs.map fun p => kV p.1) acc.toList := keys_at (by rw [Array.length_toList]; exact hacc.1) fun j v e => hacc.2 j v (by rw [← Array.getElem?_toList]; exact e)
          rw [← ek] at hv
          exact sort_fin bx (I.kept (t' := tk) hk) hH (unKs_ok e2) hv q
        · exact q.elim
      · exact q.elim
  · unfold m_sorted at q
    split at q
    · obtain ⟨v, rfl, r1⟩ := rws1 r
      exact ⟨g, h, _, v, σ, rfl, hH, r1, q⟩
    · exact q.elim

/-! ### sorted(e.items()) -/
theorem items_take {pins : List (Addr × Obj)} {σ : L2.St} {s : Shared} {h' : Heap} {tk : Nat} {kvs : List (Key × V)} {vs : List (Key × Value)} {as : List Addr} {lo : Addr} (I : Inv X pins σ H s) (kv : KV kvs vs) (hlo : s.heap.objs.size ≤ lo)
    (hk : ∀ b o, s.heap.get? b = some o → h'.get? b = some o) (hl : as.length = vs.length) (hG : PySem.W.KdxG (mixKind X.prog X.w) vs lo h' as) :
    ∃ H' : Hp, (∀ b o, H b = some o → H' b = some o) ∧ Paired (fun (t : Addr) (q : Key × V) => H' t = some (.tup [kV q.1, q.2])) as kvs ∧ Inv X pins σ H' { s with heap := h', toks := tk } := by
  have lk : kvs.length = vs.length := Paired.length kv
  have nd : as.Nodup := List.Pairwise.imp (fun {a b} (h : a < b) => Nat.ne_of_lt h) hG.rise
  have new : ∀ t ∈ as, H t = none := fun t ht => I.hok.fresh (Nat.le_trans hlo (Nat.le_of_lt (hG.above t ht)))
  have atP := LiI.putT_at as kvs H (by omega) nd
  have off : ∀ b, b ∉ as → LiI.putT H as kvs b = H b := fun b h1 => LiI.putT_off as kvs _ h1
  have low : ∀ b o, s.heap.get? b = some o → b ∉ as := fun b o e z => absurd (Heap.lt_size e) (Nat.not_lt.mpr (Nat.le_trans hlo (Nat.le_of_lt (hG.above b z))))
  have kp : ∀ b u, H b = some u → (LiI.putT H as kvs) b = some u := fun b u e => by
    rw [off b (fun z => by rw [new b z] at e; cases e)]
    exact e
  refine ⟨LiI.putT H as kvs, kp, atP, ?_⟩
  refine I.call' (ch := []) rfl ⟨fun b o q _ _ _ => hk b o q, fun b o q _ _ _ => ⟨o.slots, hk b o q⟩, fun b o q n _ => ?_, fun b o q _ => ⟨o, hk b o q⟩, fun b xs q => kp b _ q, fun b o u q => kp b _ q, fun b ps q => ⟨#[], by rw [kp b _ q]; simp⟩⟩ (fun b u q => ?_) I.bare fun b z => by simp at z
  · rw [off b (low b o q)]
    exact n
  · by_cases hb : b ∈ as
    · obtain ⟨j, pk, e1, e2, e3⟩ := LiI.paired_ix atP hb
      rw [e3] at q
      cases q
      obtain ⟨key, k, x, f1, f2, f3⟩ := hG.pairs j b e1
      obtain ⟨qv, g1, g2, g3⟩ := LiI.paired_get kv e2
      rw [f1] at g1
      cases g1
      have rk : RelV (kV pk.1) key := by
        rw [g2]
        exact relV_key (show keyIs k key = true from f2)
      exact ⟨by show 2 ≤ sizeLine; decide, [key, x], .cons rk (.cons g3 .nil), ⟨_, f3, rfl, _, rfl⟩⟩
    · rw [off b hb] at q
      exact (I.hok b u q).stay (fun d v _ y => hk d v y) (fun d y => kp d _ y) fun d xs y => kp d _ y
def eSortItems (bx : Bool) (f : Ex) : Ex := fun sl h => (f sl h).bind fun w h1 => match dview h1 w with
  | some (ks, ws) => if flatK ks then mSort bx ((ks.zip ws).map fun p => .tup [dkW p.1, p.2]) h1 else .no
  | none => .no
variable {e : Expr} {fe : Ex} {p apos cpos pos : Pos}
theorem e_sortItems (bx : Bool) (hc : X.calm = true) (he : PE X e (RDE Γ Wx fe)) (hg : Gl X "sorted") (hm : X.mg "sorted" = none) (hv : bootBuiltins "sorted" = some (.builtin "sorted") := by decide +kernel) (hbase : attributeBase e "items" X.env (eval e X.env) = eval e X.env := by rfl) (hline : (apos.endLine == cpos.line) = true := by rfl)
    (hs : starEach [.Call (.Attribute e "items" apos) [] [] cpos] X.env = (false, eval (.Call (.Attribute e "items" apos) [] [] cpos) X.env) :: starEach [] X.env := by rfl) :
    PE X (.Call (.Name "sorted" p) [.Call (.Attribute e "items" apos) [] [] cpos] [] pos) (RDE Γ Wx (eSortItems bx fe)) := by
  refine ⟨fun pins s σ H Q I ⟨g, sl, h, hH, hS, q⟩ => ?_⟩
  refine wpAny_Call_Name_kw (ld_blt I hg hm hv ?_)
  refine PyProof.Rows.callWith_builtin1 ?_ hs rfl
  rw [hs]
  show wpAny _ _ (spliced ((false, eval (.Call (.Attribute e "items" apos) [] [] cpos) X.env) :: backTo pos (starEach [] X.env))) _ _ s
  refine Calls.spliced_cons ?_
  refine wpAny_Call_method (T := "dict") (id := "dict.items") hbase rfl hline F.plainAttrs_dict F.slot_dict_items F.type_dict_items (thn (he.run pins s σ H _ I (RDE.step hH hS q)) fun u s1 ⟨x, H1, I1, rx, g1, h1, w1, l1, hH1, rw1, q1⟩ => ?_)
  cases ed : dview h1 w1 with
  | none => rw [ed] at q1; exact q1.elim
  | some kw =>
    obtain ⟨ks, ws⟩ := kw
    rw [ed] at q1
    have q1 : Rz Γ Wx (RW Γ.K) g1 (if flatK ks then mSort bx ((ks.zip ws).map fun p => .tup [dkW p.1, p.2]) h1 else .no) σ Q := q1
    by_cases hf : flatK ks = true
    · rw [if_pos hf] at q1
      obtain ⟨d, kvs, ex, hd, ek, rs⟩ := dview_flat hH1 hf rw1 ed
      subst ex
      subst ek
      obtain rfl : u = Value.ref d := rx
      obtain ⟨hz, hs0, vs, kv, hdo⟩ := dk_rd I1.hok hd
      obtain ⟨ep, hat⟩ := hdo.dictAt
      have lk : kvs.length = vs.length := Paired.length kv
      have I2 : Inv X pins σ H1 { s1 with heap := s1.heap.push { cls := .type "dict_items", data := .fields #[.ref d] } } := I1.kept (t' := s1.toks) fun b ob q => Heap.get?_push_of_some _ q
      refine ⟨hdo.typeIs, hdo.mapOf.noDict, ?_⟩
      show wpAny _ _ (callWith cpos (.builtin "dict.items") [.ref d] [] []) _ X.xe s1
      refine method_meetsIn F.slot_dict_items F.entry_dict_items rfl (PySem.evalArgs_none ⟨rfl, hdo.typeIs, F.args_dict_items_1 _, _, meets_dict_items (mixKind X.prog X.w) d hs0, ⟨vs, hdo⟩, ?_⟩)
      refine Calls.spliced_nil ?_
      refine call_sorted_of ?_
      refine PySem.W.kdx_collect (knd := mixKind X.prog X.w) (kvs := vs) (ep := ep) (A := X.A.in1) (I1.ok.hd hc) ⟨_, Heap.get?_push_size _ rfl, rfl, rfl⟩ (hat.push _) (by omega) fun h' tk as hk hl hG => ?_
      obtain ⟨H', k1, k6, J⟩ := items_take (tk := tk) I2 kv (Nat.le_refl _) hk hl hG
      obtain ⟨g2, l2, y2, r2⟩ := tups_frz rfl (hH1.more k1) k6 rs
      exact sort_fin bx J y2 r2 (LiI.vals_refs as) (Rz.le l2 q1)
    · rw [if_neg hf] at q1
      exact q1.elim

/-! ### sorted(.. for ..) -/
def eSortG (bx : Bool) (own : List Nat) (src : Ix) (tg : Gx) (tt : Tx) (te : Ex) : Ex := eGen own src tg tt te [] (fun ws h => mSort bx ws h) stTup
end
section
variable {Γ : Γ} {Wx : WX} {X : Cx} {c P : Addr} {elt tg iter : Expr} {ifs : List Expr} {gpos p pos : Pos} {scope : Scope} {own : List (Str × Nat)} {is : List Nat} {k : Nat} {src : Ix} {tgx : Gx} {tt : Tx} {te : Ex}
theorem e_sortG (bx : Bool) (T : HasTab Γ X "<genexpr>" k c P) (hN : X.N.Nodup) (hm : X.mg "sorted" = none) (ok : GenB X.N X.env.scope scope own) (hi : PI X tg iter (RDI Γ Wx src))
    (hg : ∀ (Ag : Around) (s : Shared) (H : Hp) (C : Addr) (code : Value) (fp : List Addr), Room k Ag → PG (gnCx X Ag s H (gnEnv X scope C code) fp) tg (RDG Γ is tgx))
    (ht : ∀ (Ag : Around) (s : Shared) (H : Hp) (C : Addr) (code : Value) (fp : List Addr), Room k Ag → PTs (gnCx X Ag s H (gnEnv X scope C code) fp) ifs (RDT Γ W0 tt))
    (he : ∀ (Ag : Around) (s : Shared) (H : Hp) (C : Addr) (code : Value) (fp : List Addr), Room k Ag → PE (gnCx X Ag s H (gnEnv X scope C code) fp) elt (RDE Γ W0 te))
    (hs : ∀ j ∈ is, j ∈ own.map (·.2) := by decide) (hl : Gl X "sorted" := by rfl) (hv : bootBuiltins "sorted" = some (.builtin "sorted") := by decide +kernel) (hf : ∀ v, genFold iter X.env v = pure v := by intro _; rfl)
    (hse : starEach [.GeneratorExp elt [⟨tg, iter, ifs, 0⟩] scope gpos] X.env = (false, eval (.GeneratorExp elt [⟨tg, iter, ifs, 0⟩] scope gpos) X.env) :: starEach [] X.env := by rfl) :
    PE X (.Call (.Name "sorted" p) [.GeneratorExp elt [⟨tg, iter, ifs, 0⟩] scope gpos] [] pos) (RDE Γ Wx (eSortG bx (own.map (·.2)) src tgx tt te)) := by
  refine ⟨fun pins s σ H Q I h => ?_⟩
  refine wpAny_Call_Name_kw (ld_blt I hl hm hv ?_)
  refine PyProof.Rows.callWith_builtin1 ?_ hse (by rfl)
  rw [hse]
  show wpAny _ _ (spliced ((false, eval (.GeneratorExp elt [⟨tg, iter, ifs, 0⟩] scope gpos) X.env) :: backTo pos (starEach [] X.env))) _ _ s
  refine Calls.spliced_cons (gen_rd (Rb := fun g a b => RWs Γ.K g a b) ([] : List V) T hN ok hi hg ht he hs (fun _ _ _ _ l z => RWs.mono l _ _ z) (fun _ => .nil) hf I h fun d m H2 s5 ws kp sl g O e1 e2 e3 e4 hW hY hF G w => ?_)
  refine Calls.spliced_nil ?_
  subst e1; subst e2; subst e3
  refine call_sorted_of ?_
  refine collectG O (fun t Q E s h => of_in42 (A := d.X.A) (by rw [← e4]; exact h)) G w (fun acc y i m H yl => ?_) fun vs its H s' hz I rv f => ?_
  · obtain ⟨em, hi', g', h', b, w', l, yH, rb, rw', q⟩ := hY _ _ _ _ _ yl
    unfold gNext at q
    by_cases hc : b.length < sizeLine
    · rw [stTup_yes hc] at q
      exact ⟨by rw [← rb.len]; exact hc, m, Nat.le_refl _, (hW _ _ _ _).mpr ⟨em, hi', g', h', _, l, yH, rb.app (.cons rw' .nil), q⟩⟩
    · rw [stTup_no hc] at q
      exact q.elim
  · obtain ⟨g', h', b, l, yH, rb, q⟩ := hF _ _ f
    exact sort_fin bx I yH rb rv (Rz.le l q)
end
end Pk
end

/-! PlR -/
section
set_option Elab.async false
set_option linter.all false
set_option maxRecDepth 100000
set_option maxHeartbeats 4000000
namespace Pk
open PySem PySem.Spec L2
/-! ### {k: v for ..} -/
def dcPut (acc : List DK × List W) (k y : W) : Option (List DK × List W) := match kOf k with
  | some (.k j) => if acc.1.length < sizeLine then some (putP acc (.k j) y) else none
  | _ => none
def dcLoop (own : List Nat) (kp : HS → Bool) (tg : Gx) (tt : Tx) (tk tv : Ex) (sl : Sl) : List W → List DK × List W → HS → R (List DK × List W)
  | [], acc, h => if kp h = true then .ok acc h else .no
  | w :: ws, acc, h => if kp h = true then (match tg w (wipeS sl own) h with
    | some (s, h1) => (noX (tt s h1)).bind fun b h2 => if b = true then (noX (tk s h2)).bind fun k h3 => (noX (tv s h3)).bind fun y h4 => (match dcPut acc k y with
        | some acc' => dcLoop own kp tg tt tk tv sl ws acc' h4
        | none => .no) else dcLoop own kp tg tt tk tv sl ws acc h2
    | none => .no) else .no
def eDc (bx : Bool) (own : List Nat) (src : Ix) (tg : Gx) (tt : Tx) (tk tv : Ex) : Ex := fun sl h => (src sl h).bind fun p h1 => (dcLoop own p.2 tg tt tk tv sl p.1 ([], []) h1).bind fun acc h2 => mkD bx acc.1 acc.2 h2
section
variable {Γ : Γ} {Wx : WX} {X : Cx} {g : G} {h : HS} {H : Hp} {sl : Sl} {σ : L2.St}
theorem dc_rd {bx : Bool} {own is : List Nat} {gt : TG} {tt : TT} {tk tv : TE} {tg : Gx} {ttx : Tx} {tkx tvx : Ex} {p : List W × (HS → Bool)} {J : It} {D : Addr} {Q : VK} (hs : ∀ j ∈ is, j ∈ own)
    (hg : gt = RDG Γ is tg) (ht : tt = RDT Γ W0 ttx) (hk0 : tk = RDE Γ W0 tkx) (hv0 : tv = RDE Γ W0 tvx)
    (hH : RH Γ g h H) (hS : SLk Γ g sl σ) (it : ItG Γ J p.1 p.2 g) (hD : H D = none) (q : Rz Γ Wx (RW Γ.K) g ((dcLoop own p.2 tg ttx tkx tvx sl p.1 ([], []) h).bind fun acc h2 => mkD bx acc.1 acc.2 h2) σ Q) :
    ∃ W : Nat → Nat → Hp → Prop, (∃ m, W 0 m (upd H D (.dK []))) ∧ ∀ i m H, W i m H →
      (J.stop i H ∧ Q (.ref D) H) ∨ (J.go i H ∧ ∃ Nx : Hp → Prop, (∀ H', Nx H' → ∃ m', m' < m ∧ W (i + 1) m' H') ∧ ∀ x H', J.yld i H x H' → gt x (L2.wipe σ own) H' fun σ2 H2 => L2.wipe σ2 own = L2.wipe σ own ∧ tt σ2 H2 fun b H3 =>
        if b = true then tk σ2 H3 fun y H4 => tv σ2 H4 fun z H5 => ∃ kvs k, y = kV k ∧ H5 D = some (.dK kvs) ∧ kvs.length < sizeLine ∧ Nx (upd H5 D (.dK (putK kvs k z))) else Nx H3) := by
  subst hg; subst ht; subst hk0; subst hv0
  have nD := hH.noHid hD
  refine ⟨fun i m H' => m = p.1.length - i ∧ i ≤ p.1.length ∧ ∃ g' h' acc kvs, g.le g' ∧ RH Γ g' h' H' ∧ g'.hid D = some (.dK kvs) ∧ acc.1 = kvs.map (fun p => DK.k p.1) ∧ RWs Γ.K g' acc.2 (kvs.map (·.2)) ∧ Rz Γ Wx (RW Γ.K) g ((dcLoop own p.2 tg ttx tkx tvx sl (p.1.drop i) acc h').bind fun acc h2 => mkD bx acc.1 acc.2 h2) σ Q, ?_, ?_⟩
  · obtain ⟨l, y, z⟩ := hH.hide hD (o := .dK []) trivial
    exact ⟨_, rfl, Nat.zero_le _, _, h, ([], []), [], l, y, z, rfl, .nil, q⟩
  · rintro i m H' ⟨rfl, hi, g', h', acc, kvs, l, y, z, ea, rs, q⟩
    by_cases hlt : i < p.1.length
    · obtain ⟨w, hw⟩ : ∃ w, p.1[i]? = some w := ⟨_, List.getElem?_eq_getElem hlt⟩
      have hd : p.1.drop i = w :: p.1.drop (i + 1) := by
        rw [List.drop_eq_getElem_cons hlt]
        rw [List.getElem?_eq_getElem hlt] at hw
        cases hw
        rfl
      rw [hd] at q
      unfold dcLoop at q
      by_cases hk : p.2 h' = true
      · rw [if_pos hk] at q
        obtain ⟨go, yl⟩ := it.go g' h' H' i l y hk hlt
        refine .inr ⟨go, fun H2 => ∃ m', m' < p.1.length - i ∧ (m' = p.1.length - (i + 1) ∧ i + 1 ≤ p.1.length ∧ ∃ g' h' acc kvs, g.le g' ∧ RH Γ g' h' H2 ∧ g'.hid D = some (.dK kvs) ∧ acc.1 = kvs.map (fun p => DK.k p.1) ∧ RWs Γ.K g' acc.2 (kvs.map (·.2)) ∧ Rz Γ Wx (RW Γ.K) g ((dcLoop own p.2 tg ttx tkx tvx sl (p.1.drop (i + 1)) acc h').bind fun acc h2 => mkD bx acc.1 acc.2 h2) σ Q), fun H2 nx => nx, fun x H2 hy => ?_⟩
        obtain ⟨g2, l2, y2, rw2⟩ := yl x H2 hy
        refine ⟨g2, w, wipeS sl own, h', y2, SLk.wipe (SLk.mono (l.trans l2) hS), rw2 w hw, ?_⟩
        cases et : tg w (wipeS sl own) h' with
        | none => rw [et] at q; exact q.elim
        | some sp =>
          obtain ⟨s1, h1⟩ := sp
          rw [et] at q
          intro g3 σ2 H3 l3 y3 s3 o3
          refine ⟨wipe_eq hs o3, g3, s1, h1, y3, s3, ?_⟩
          have l03 : g.le g3 := l.trans (l2.trans l3)
          have q : Rz Γ Wx (RW Γ.K) g (((noX (ttx s1 h1)).bind fun b h2 => if b = true then (noX (tkx s1 h2)).bind fun k h3 => (noX (tvx s1 h3)).bind fun y h4 => (match dcPut acc k y with
            | some acc' => dcLoop own p.2 tg ttx tkx tvx sl (p.1.drop (i + 1)) acc' h4
            | none => .no) else dcLoop own p.2 tg ttx tkx tvx sl (p.1.drop (i + 1)) acc h2).bind fun acc h2 => mkD bx acc.1 acc.2 h2) σ Q := q
          have bb : ∀ {α β γ : Type} (r : R α) (k : α → HS → R β) (k2 : β → HS → R γ), (r.bind k).bind k2 = r.bind fun a h => (k a h).bind k2 := fun r k k2 => by cases r <;> rfl
          rw [bb] at q
          refine Rz.mono (fun b H4 ⟨g4, h4, b', l4, y4, eb, q4⟩ => ?_) (rz_noX σ2 g3 q)
          subst eb
          by_cases hb : b' = true
          · rw [if_pos hb] at q4 ⊢
            rw [bb] at q4
            refine ⟨g4, s1, h4, y4, SLk.mono l4 s3, Rz.mono (fun kv H5 ⟨g5, h5, kw, l5, y5, rk, q5⟩ => ?_) (rz_noX σ2 g4 q4)⟩
            rw [bb] at q5
            refine ⟨g5, s1, h5, y5, SLk.mono (l4.trans l5) s3, Rz.mono (fun yv H6 ⟨g6, h6, yw, l6, y6, ry, q6⟩ => ?_) (rz_noX σ2 g5 q5)⟩
            have l06 : g'.le g6 := l2.trans (l3.trans (l4.trans (l5.trans l6)))
            have z6 : g6.hid D = some (.dK kvs) := l06.hid _ _ z
            cases ed : dcPut acc kw yw with
            | none => rw [ed] at q6; exact q6.elim
            | some acc' =>
              rw [ed] at q6
              unfold dcPut at ed
              split at ed
              · rename_i j ej
                split at ed
                · rename_i hsz
                  cases ed
                  obtain ⟨a1, a2⟩ := acc
                  have ea : a1 = kvs.map (fun p => DK.k p.1) := ea
                  subst ea
                  obtain ⟨p1, p2⟩ := putK_put (v := yv) kinj ry (j := j) (ws := a2) (RWs.mono l06 _ _ rs)
                  refine ⟨kvs, j, kOf_flat ej rk, (y6.hd D _ z6).1, by simpa using hsz, ?_⟩
                  obtain ⟨y7, z7⟩ := y6.rehide z6 (o' := .dK (putK kvs j yv)) trivial
                  refine ⟨p.1.length - (i + 1), by omega, rfl, hlt, g6.hide D (.dK (putK kvs j yv)), h6, _, putK kvs j yv, hide_le (l.trans l06) nD, y7, z7, p1, ?_, q6⟩
                  exact rws_hid (g := g6) (by rfl) (by rfl) (by rfl) p2
                · cases ed
              · cases ed
          · rw [if_neg hb] at q4 ⊢
            have l05 : g'.le g4 := l2.trans (l3.trans l4)
            refine ⟨p.1.length - (i + 1), by omega, rfl, hlt, g4, h4, acc, kvs, l.trans l05, y4, l05.hid _ _ z, ea, RWs.mono l05 _ _ rs, q4⟩
      · rw [if_neg hk] at q
        exact q.elim
    · have e : i = p.1.length := by omega
      subst e
      rw [List.drop_length] at q
      unfold dcLoop at q
      by_cases hk : p.2 h' = true
      · rw [if_pos hk] at q
        refine .inl ⟨it.stop g' h' H' l y hk, ?_⟩
        have q : Rz Γ Wx (RW Γ.K) g (mkD bx acc.1 acc.2 h') σ Q := q
        have dd : DctH H' D acc.1 (kvs.map (·.2)) := .inl ⟨kvs, (y.hd D _ z).1, ea, rfl⟩
        cases bx with
        | true =>
          obtain ⟨g2, l2, y2, r2⟩ := y.showB (c := .dic acc.1 acc.2) z ⟨_, dd, rs⟩ l nD
          exact q g2 _ _ l2 y2 r2
        | false =>
          obtain ⟨g2, l2, y2, f2, _, m2⟩ := y.show_ z l nD
          refine q g2 _ _ l2 y2 ?_
          unfold RW
          exact ⟨D, _, rfl, .inl ⟨kvs, f2, ea, rfl⟩, m2 _ _ rs⟩
      · rw [if_neg hk] at q
        exact q.elim
theorem dc_in {bx : Bool} {own : List (Str × Nat)} {is : List Nat} {src : Ix} {tg : Gx} {tt : Tx} {tk tv : Ex} (hs : ∀ j ∈ is, j ∈ own.map (·.2)) {σ : L2.St} {H : Hp} {Q : VK} (x : RDE Γ Wx (eDc bx (own.map (·.2)) src tg tt tk tv) σ H Q) :
    tDc (RDI Γ Wx src) (RDG Γ is tg) (RDT Γ W0 tt) (RDE Γ W0 tk) (RDE Γ W0 tv) (own.map (·.2)) σ H Q := by
  obtain ⟨g, sl, h, hH, hS, q⟩ := x
  refine ⟨g, sl, h, hH, hS, ?_⟩
  unfold eDc at q
  cases e : src sl h with
  | no => rw [e] at q; exact q.elim
  | exc c h1 => rw [e] at q; exact q
  | ok p h1 =>
    rw [e] at q
    intro g' H' J l y it D hD
    exact dc_rd hs rfl rfl rfl rfl y (SLk.mono l hS) it hD (Rz.le l q)
theorem e_dc {kx vx tgt iter : Expr} {ifs : List Expr} {scope : Scope} {own : List (Str × Nat)} {pos : Pos} {is : List Nat} {src : Ix} {tg : Gx} {tt : Tx} {tk tv : Ex} (bx : Bool) (hc : X.calm = true) (hN : X.N.Nodup) (hi : PI X tgt iter (RDI Γ Wx src)) (ok : BlkOk X.N X.env.scope scope own)
    (hg : ∀ (s : Shared) (H : Hp) (C : Addr) (cl : List (Str × Addr)) (fp : List Addr), PG (X.blk s H scope (compEnvC scope cl C X.env) fp) tgt (RDG Γ is tg))
    (ht : ∀ (s : Shared) (H : Hp) (C : Addr) (cl : List (Str × Addr)) (fp : List Addr), PTs (X.blk s H scope (compEnvC scope cl C X.env) fp) ifs (RDT Γ W0 tt))
    (hk : ∀ (s : Shared) (H : Hp) (C : Addr) (cl : List (Str × Addr)) (fp : List Addr), PE (X.blk s H scope (compEnvC scope cl C X.env) fp) kx (RDE Γ W0 tk))
    (he : ∀ (s : Shared) (H : Hp) (C : Addr) (cl : List (Str × Addr)) (fp : List Addr), PE (X.blk s H scope (compEnvC scope cl C X.env) fp) vx (RDE Γ W0 tv))
    (hs : ∀ j ∈ is, j ∈ own.map (·.2) := by decide) (hf : ∀ x, foldedSetIterable iter X.env x = pure x := by intro _; rfl) :
    PE X (.DictComp kx vx [⟨tgt, iter, ifs, 0⟩] scope pos) (RDE Γ Wx (eDc bx (own.map (·.2)) src tg tt tk tv)) :=
  PE.imp (pe_dc hc hN hi ok hg ht hk he hf) fun σ H Q x => dc_in hs x
end
end Pk
end

/-! PlS -/
section
set_option Elab.async false
set_option linter.all false
set_option maxRecDepth 100000
set_option maxHeartbeats 4000000
namespace Pk
open PySem PySem.Spec L2
/-! ### a <= b <= c <= d -/
def eChain3 (m m' m'' : W → W → HS → R W) (fa fb fc fd : Ex) : Ex := fun sl h => (fa sl h).bind fun x h1 => (fb sl h1).bind fun y h2 => (m x y h2).bind fun z h3 => (asB z h3).bind fun k h3 =>
  if k then (fc sl h3).bind fun w h4 => (m' y w h4).bind fun z h5 => (asB z h5).bind fun k h5 => if k then (fd sl h5).bind fun u h6 => m'' w u h6 else .ok (.bl false) h5 else .ok (.bl false) h3
section
variable {X : Cx} {a b c d : Expr} {ta tb tc td : TE} {pos : Pos}
def tChain3 (r r' r'' : R2) (ta tb tc td : TE) : TE := fun σ H Q => ta σ H fun x H1 => tb σ H1 fun y H2 => r x y H2 fun z H3 => ∃ k, z = .bl k ∧
  (if k = true then tc σ H3 fun w' H4 => r' y w' H4 fun z' H5 => ∃ k', z' = .bl k' ∧ (if k' = true then td σ H5 fun u' H6 => r'' w' u' H6 Q else Q (.bl false) H5) else Q (.bl false) H3)
theorem pe_chain3 {op op' op'' : CmpOp} {r r' r'' : R2} (ho : OpR X (compareOp op) r) (ho' : OpR X (compareOp op') r') (ho'' : OpR X (compareOp op'') r'') (ha : PE X a ta) (hb : PE X b tb) (hc : PE X c tc) (hd : PE X d td)
    (hm : lastMarks [op, op', op''] [b, c, d] = false := by with_unfolding_all rfl) : PE X (.Compare a [op, op', op''] [b, c, d] pos) (tChain3 r r' r'' ta tb tc td) := by
  refine ⟨fun pins s σ H Q I h => ?_⟩
  refine PyProof.Rows.Compare_chain (thn (ha.run pins s σ H _ I h) fun v s1 ⟨x, H1, I1, r1, q1⟩ => PyProof.Rows.chain_link (thn (hb.run pins s1 σ H1 _ I1 q1) fun u s2 ⟨y, H2, I2, r2, q2⟩ =>
    thn (ho pins s2 σ H2 x y v u _ I2 r1 r2 q2) fun d s3 ⟨z, H3, I3, r3, k, e, q3⟩ => ?_)) hm
  subst e
  cases r3
  refine wpAny_truthy_bool ?_
  cases k with
  | false => exact PyProof.Rows.ite_ff ⟨.bl false, H3, I3, rfl, q3⟩
  | true =>
    refine PyProof.Rows.ite_tt (PyProof.Rows.chain_link (thn (hc.run pins s3 σ H3 _ I3 q3) fun w' s4 ⟨z', H4, I4, r4, q4⟩ => thn (ho' pins s4 σ H4 y z' u w' _ I4 r2 r4 q4) fun d' s5 ⟨z2, H5, I5, r5, k2, e2, q5⟩ => ?_))
    subst e2
    cases r5
    refine wpAny_truthy_bool ?_
    cases k2 with
    | false => exact PyProof.Rows.ite_ff ⟨.bl false, H5, I5, rfl, q5⟩
    | true => exact PyProof.Rows.ite_tt (PyProof.Rows.chain_last (thn (hd.run pins s5 σ H5 _ I5 q5) fun w3 s6 ⟨z3, H6, I6, r6, q6⟩ => ho'' pins s6 σ H6 z' z3 w' w3 Q I6 r4 r6 q6))
theorem pt_chain3 {op op' op'' : CmpOp} {r r' r'' : R2} (ho : OpR X (compareOp op) r) (ho' : OpR X (compareOp op') r') (ho'' : OpR X (compareOp op'') r'') (ha : PE X a ta) (hb : PE X b tb) (hc : PE X c tc) (hd : PE X d td)
    (hm : lastMarks [op, op', op''] [b, c, d] = false := by with_unfolding_all rfl) : PT X (.Compare a [op, op', op''] [b, c, d] pos) (tTest (tChain3 r r' r'' ta tb tc td)) := by
  refine ⟨fun pins s σ H Q I h => ?_⟩
  refine PyProof.Rows.isTrue_chain (thn (ha.run pins s σ H _ I h) fun v s1 ⟨x, H1, I1, r1, q1⟩ => PyProof.Rows.test_link (thn (hb.run pins s1 σ H1 _ I1 q1) fun u s2 ⟨y, H2, I2, r2, q2⟩ =>
    thn (ho pins s2 σ H2 x y v u _ I2 r1 r2 q2) fun d s3 ⟨z, H3, I3, r3, k, e, q3⟩ => ?_)) hm
  subst e
  cases r3
  refine wpAny_truthy_bool ?_
  cases k with
  | false =>
    obtain ⟨k', e', q'⟩ := q3
    cases e'
    exact PyProof.Rows.ite_ff ⟨H3, I3, q'⟩
  | true =>
    refine PyProof.Rows.ite_tt (PyProof.Rows.test_link (thn (hc.run pins s3 σ H3 _ I3 q3) fun w' s4 ⟨z', H4, I4, r4, q4⟩ => thn (ho' pins s4 σ H4 y z' u w' _ I4 r2 r4 q4) fun d' s5 ⟨z2, H5, I5, r5, k2, e2, q5⟩ => ?_))
    subst e2
    cases r5
    refine wpAny_truthy_bool ?_
    cases k2 with
    | false =>
      obtain ⟨k', e', q'⟩ := q5
      cases e'
      exact PyProof.Rows.ite_ff ⟨H5, I5, q'⟩
    | true =>
      refine PyProof.Rows.ite_tt (PyProof.Rows.test_last (thn (hd.run pins s5 σ H5 _ I5 q5) fun w3 s6 ⟨z3, H6, I6, r6, q6⟩ => thn (ho'' pins s6 σ H6 z' z3 w' w3 _ I6 r4 r6 q6) fun d' s7 ⟨z4, H7, I7, r7, k3, e3, q7⟩ => ?_))
      subst e3
      cases r7
      exact wpAny_truthy_bool ⟨H7, I7, q7⟩
end
section
variable {Γ : Γ} {Wx : WX} {X : Cx} {a b c d : Expr} {fa fb fc fd : Ex} {m m' m'' : W → W → HS → R W} {pos : Pos}
theorem chain3_rd {r r' r'' : R2} (hm : ∀ {g : G} {h : HS} {H : Hp} {σ : L2.St} {x y : W} {vx vy : V} {Q : VK}, RH Γ g h H → RW Γ.K g x vx → RW Γ.K g y vy → Rz Γ Wx (RW Γ.K) g (m x y h) σ Q → r vx vy H Q)
    (hm' : ∀ {g : G} {h : HS} {H : Hp} {σ : L2.St} {x y : W} {vx vy : V} {Q : VK}, RH Γ g h H → RW Γ.K g x vx → RW Γ.K g y vy → Rz Γ Wx (RW Γ.K) g (m' x y h) σ Q → r' vx vy H Q)
    (hm'' : ∀ {g : G} {h : HS} {H : Hp} {σ : L2.St} {x y : W} {vx vy : V} {Q : VK}, RH Γ g h H → RW Γ.K g x vx → RW Γ.K g y vy → Rz Γ Wx (RW Γ.K) g (m'' x y h) σ Q → r'' vx vy H Q) {σ : L2.St} {H : Hp} {Q : VK}
    (x : RDE Γ Wx (eChain3 m m' m'' fa fb fc fd) σ H Q) : tChain3 r r' r'' (RDE Γ Wx fa) (RDE Γ Wx fb) (RDE Γ Wx fc) (RDE Γ Wx fd) σ H Q := by
  obtain ⟨g, sl, h, hH, hS, q⟩ := x
  refine RDE.mono (fun v H1 ⟨g1, h1, w1, l1, hH1, r1, q1⟩ => ?_) (RDE.step hH hS q)
  refine RDE.mono (fun v2 H2 ⟨g2, h2, w2, l2, hH2, r2, q2⟩ => ?_) (RDE.step hH1 (SLk.mono l1 hS) q1)
  refine hm hH2 (RW.mono l2 _ _ r1) r2 (Rz.mono (fun v3 H3 ⟨g3, h3, w3, l3, hH3, r3, q3⟩ => ?_) (rz_step q2))
  cases w3 with
  | bl k =>
    unfold RW at r3
    refine ⟨k, r3, ?_⟩
    have q3' : Rz Γ Wx (RW Γ.K) g3 (if k = true then (fc sl h3).bind fun w h4 => (m' w2 w h4).bind fun z h5 => (asB z h5).bind fun k h5 => if k then (fd sl h5).bind fun u h6 => m'' w u h6 else .ok (.bl false) h5 else .ok (.bl false) h3) σ Q := q3
    by_cases hk : k = true
    · rw [if_pos hk] at q3' ⊢
      refine RDE.mono (fun v4 H4 ⟨g4, h4, w4, l4, hH4, r4, q4⟩ => ?_) (RDE.step hH3 (SLk.mono (l1.trans (l2.trans l3)) hS) q3')
      refine hm' hH4 (RW.mono (l3.trans l4) _ _ r2) r4 (Rz.mono (fun v5 H5 ⟨g5, h5, w5, l5, hH5, r5, q5⟩ => ?_) (rz_step q4))
      cases w5 with
      | bl k' =>
        unfold RW at r5
        refine ⟨k', r5, ?_⟩
        have q5' : Rz Γ Wx (RW Γ.K) g5 (if k' = true then (fd sl h5).bind fun u h6 => m'' w4 u h6 else .ok (.bl false) h5) σ Q := q5
        by_cases hk' : k' = true
        · rw [if_pos hk'] at q5' ⊢
          refine RDE.mono (fun v6 H6 ⟨g6, h6, w6, l6, hH6, r6, q6⟩ => ?_) (RDE.step hH5 (SLk.mono (l1.trans (l2.trans (l3.trans (l4.trans l5)))) hS) q5')
          exact hm'' hH6 (RW.mono (l5.trans l6) _ _ r4) r6 q6
        · rw [if_neg hk'] at q5' ⊢
          exact q5' g5 _ _ (.refl _) hH5 (by unfold RW; rfl)
      | _ => exact q5.elim
    · rw [if_neg hk] at q3' ⊢
      exact q3' g3 _ _ (.refl _) hH3 (by unfold RW; rfl)
  | _ => exact q3.elim
theorem e_chain3 {op op' op'' : CmpOp} (o : OpS Γ Wx X (compareOp op) m) (o' : OpS Γ Wx X (compareOp op') m') (o'' : OpS Γ Wx X (compareOp op'') m'') (ha : PE X a (RDE Γ Wx fa)) (hb : PE X b (RDE Γ Wx fb)) (hc : PE X c (RDE Γ Wx fc)) (hd : PE X d (RDE Γ Wx fd))
    (hm : lastMarks [op, op', op''] [b, c, d] = false := by with_unfolding_all rfl) : PE X (.Compare a [op, op', op''] [b, c, d] pos) (RDE Γ Wx (eChain3 m m' m'' fa fb fc fd)) := by
  obtain ⟨r, o1, o2⟩ := o
  obtain ⟨r', o1', o2'⟩ := o'
  obtain ⟨r'', o1'', o2''⟩ := o''
  exact PE.imp (pe_chain3 o1 o1' o1'' ha hb hc hd hm) fun σ H Q x => chain3_rd o2 o2' o2'' x
theorem t_chain3 {op op' op'' : CmpOp} (o : OpS Γ Wx X (compareOp op) m) (o' : OpS Γ Wx X (compareOp op') m') (o'' : OpS Γ Wx X (compareOp op'') m'') (ha : PE X a (RDE Γ Wx fa)) (hb : PE X b (RDE Γ Wx fb)) (hc : PE X c (RDE Γ Wx fc)) (hd : PE X d (RDE Γ Wx fd))
    (hm : lastMarks [op, op', op''] [b, c, d] = false := by with_unfolding_all rfl) : PT X (.Compare a [op, op', op''] [b, c, d] pos) (RDT Γ Wx (tVal (eChain3 m m' m'' fa fb fc fd))) := by
  obtain ⟨r, o1, o2⟩ := o
  obtain ⟨r', o1', o2'⟩ := o'
  obtain ⟨r'', o1'', o2''⟩ := o''
  refine PT.imp (pt_chain3 o1 o1' o1'' ha hb hc hd hm) fun σ H Q ⟨g, sl, h, hH, hS, q⟩ => ?_
  refine chain3_rd o2 o2' o2'' ⟨g, sl, h, hH, hS, ?_⟩
  refine Rz.mono (fun v H1 ⟨g1, h1, w1, l1, hH1, r1, q1⟩ => ?_) (rz_step q)
  exact rz_asB hH1 r1 q1
end

/-! ### sum, min, max of ints -/
def minI : List Int → Option Int
  | [] => none
  | x :: xs => some (xs.foldl (fun a b => if b < a then b else a) x)
def maxI : List Int → Option Int
  | [] => none
  | x :: xs => some (xs.foldl (fun a b => if a < b then b else a) x)
theorem foldl_min : ∀ (xs : List Int) (x : Int), let m := xs.foldl (fun a b => if b < a then b else a) x
    (m ∈ x :: xs) ∧ ∀ y ∈ x :: xs, m ≤ y
  | [], x => ⟨List.mem_singleton.mpr rfl, fun y hy => by rw [List.mem_singleton.mp hy]; exact Int.le_refl _⟩
  | z :: xs, x => by
    obtain ⟨h1, h2⟩ := foldl_min xs (if z < x then z else x)
    refine ⟨?_, fun y hy => ?_⟩
    · rw [List.foldl_cons]
      rcases List.mem_cons.mp h1 with e | e
      · rw [e]; split
        · exact List.mem_cons_of_mem _ List.mem_cons_self
        · exact List.mem_cons_self
      · exact List.mem_cons_of_mem _ (List.mem_cons_of_mem _ e)
    · rw [List.foldl_cons]
      have h0 := h2 _ List.mem_cons_self
      rcases List.mem_cons.mp hy with rfl | hy
      · refine Int.le_trans h0 ?_
        split <;> omega
      · rcases List.mem_cons.mp hy with rfl | hy
        · refine Int.le_trans h0 ?_
          split <;> omega
        · exact h2 y (List.mem_cons_of_mem _ hy)
theorem foldl_max : ∀ (xs : List Int) (x : Int), let m := xs.foldl (fun a b => if a < b then b else a) x
    (m ∈ x :: xs) ∧ ∀ y ∈ x :: xs, y ≤ m
  | [], x => ⟨List.mem_singleton.mpr rfl, fun y hy => by rw [List.mem_singleton.mp hy]; exact Int.le_refl _⟩
  | z :: xs, x => by
    obtain ⟨h1, h2⟩ := foldl_max xs (if x < z then z else x)
    refine ⟨?_, fun y hy => ?_⟩
    · rw [List.foldl_cons]
      rcases List.mem_cons.mp h1 with e | e
      · rw [e]; split
        · exact List.mem_cons_of_mem _ List.mem_cons_self
        · exact List.mem_cons_self
      · exact List.mem_cons_of_mem _ (List.mem_cons_of_mem _ e)
    · rw [List.foldl_cons]
      have h0 := h2 _ List.mem_cons_self
      rcases List.mem_cons.mp hy with rfl | hy
      · refine Int.le_trans ?_ h0
        split <;> omega
      · rcases List.mem_cons.mp hy with rfl | hy
        · refine Int.le_trans ?_ h0
          split <;> omega
        · exact h2 y (List.mem_cons_of_mem _ hy)
theorem minI_of {is : List Int} {m : Int} (h1 : m ∈ is) (h2 : ∀ y ∈ is, m ≤ y) : minI is = some m := by
  cases is with
  | nil => cases h1
  | cons x xs =>
    obtain ⟨a, b⟩ := foldl_min xs x
    exact congrArg some (Int.le_antisymm (b _ h1) (h2 _ a))
theorem maxI_of {is : List Int} {m : Int} (h1 : m ∈ is) (h2 : ∀ y ∈ is, y ≤ m) : maxI is = some m := by
  cases is with
  | nil => cases h1
  | cons x xs =>
    obtain ⟨a, b⟩ := foldl_max xs x
    exact congrArg some (Int.le_antisymm (h2 _ a) (b _ h1))
theorem intsOf_inv : ∀ {ws : List W} {is : List Int}, intsOf ws = some is → ws = is.map W.int
  | [], _, e => by cases e; rfl
  | w :: ws, is, e => by
    cases w <;> try (cases e; done)
    rename_i i
    have e' : (intsOf ws).map (i :: ·) = some is := e
    cases q : intsOf ws with
    | none => rw [q] at e'; cases e'
    | some js => rw [q] at e'; cases e'; rw [intsOf_inv q]; rfl
theorem rws_ints {K : PySem.W.Frag} {g : G} : ∀ {is : List Int} {vs : List V}, RWs K g (is.map W.int) vs → vs = is.map V.int
  | [], _, r => by unfold RWs at r; exact r
  | i :: is, _, r => by
    unfold RWs at r
    obtain ⟨v, vr, rfl, r1, rs⟩ := r
    cases rint r1
    rw [rws_ints rs]
    rfl
def m_min1 (xs : List W) (h : HS) : R W := match xs with
  | [x] => match lview h x with
    | some ws => match intsOf ws with
      | some is => match minI is with
        | some m => .ok (.int m) h
        | none => .no
      | none => .no
    | none => .no
  | [.int i, .int j] => .ok (.int (if j < i then j else i)) h
  | _ => .no
def m_max1 (xs : List W) (h : HS) : R W := match xs with
  | [x] => match lview h x with
    | some ws => match intsOf ws with
      | some is => match maxI is with
        | some m => .ok (.int m) h
        | none => .no
      | none => .no
    | none => .no
  | [.int i, .int j] => .ok (.int (if j > i then j else i)) h
  | _ => .no
section
variable {Γ : Γ} {Wx : WX} {X : Cx}
theorem c_min1 (hK : X.K = Γ.K) (hc : X.calm = true) : CallS Γ Wx X (.builtin "min") m_min1 := by
  refine ⟨_, (cr_min hc).or (call_min2 hc), fun {g h H σ xs vs Q} hH r q => ?_⟩
  unfold m_min1 at q
  split at q
  · obtain ⟨v, rfl, r1⟩ := rws1 r
    split at q
    · rename_i ws e
      obtain ⟨p, us, rfl, s, rs⟩ := lview_ok hH r1 e
      split at q
      · rename_i is ei
        split at q
        · rename_i m em
          have := intsOf_inv ei
          subst this
          have := rws_ints rs
          subst this
          refine .inl ⟨p, is, rfl, SqL.of s, ?_, fun m' h1 h2 => ?_⟩
          · cases is with
            | nil => cases em
            | cons _ _ => exact Nat.zero_lt_succ _
          · rw [minI_of h1 h2] at em
            cases em
            exact rz_now q hH (mint _)
        · exact q.elim
      · exact q.elim
    · exact q.elim
  · obtain ⟨v, u, rfl, r1, r2⟩ := rws2 r
    cases rint r1; cases rint r2
    exact .inr ⟨_, _, rfl, rz_now q hH (mint _)⟩
  · exact q.elim
theorem c_max1 (hK : X.K = Γ.K) (hc : X.calm = true) : CallS Γ Wx X (.builtin "max") m_max1 := by
  refine ⟨_, (cr_max hc).or (call_max2 hc), fun {g h H σ xs vs Q} hH r q => ?_⟩
  unfold m_max1 at q
  split at q
  · obtain ⟨v, rfl, r1⟩ := rws1 r
    split at q
    · rename_i ws e
      obtain ⟨p, us, rfl, s, rs⟩ := lview_ok hH r1 e
      split at q
      · rename_i is ei
        split at q
        · rename_i m em
          have := intsOf_inv ei
          subst this
          have := rws_ints rs
          subst this
          refine .inl ⟨p, is, rfl, SqL.of s, ?_, fun m' h1 h2 => ?_⟩
          · cases is with
            | nil => cases em
            | cons _ _ => exact Nat.zero_lt_succ _
          · rw [maxI_of h1 h2] at em
            cases em
            exact rz_now q hH (mint _)
        · exact q.elim
      · exact q.elim
    · exact q.elim
  · obtain ⟨v, u, rfl, r1, r2⟩ := rws2 r
    cases rint r1; cases rint r2
    exact .inr ⟨_, _, rfl, rz_now q hH (mint _)⟩
  · exact q.elim

/-- f(o.values()): f of ints -/
def ISpec (X : Cx) (fn : String) (m : List Int → Option Int) : Prop := ∀ {s : Shared} {E : Value → Shared → Prop} {T : String} {r d : Addr} {n : Nat} {P : Nat → Value → Prop} {OK : Heap → Prop} (K : PySem.W.KdlSrc X.prog X.w T r d n P OK) {Q : Value → Shared → Prop} {is : List Int} {i : Int},
  X.A.handled = none → OK s.heap → is.length = n → (∀ j v, P j v → ∃ t, v = Value.int (is.getD j 0) t) → m is = some i →
  (∀ h' tk t, (∀ b o, s.heap.get? b = some o → h'.get? b = some o) → Q (.int i t) { s with heap := h', toks := tk }) → wpAny (model X.prog X.w) X.A (call (.builtin fn) [.ref r]) Q E s
theorem preSum_sumL : ∀ is : List Int, preSum (fun j => is.getD j 0) is.length = is.sum
  | [] => rfl
  | i :: is => by
    show preSum _ (is.length + 1) = _
    rw [PySem.W.kdu_shift, List.sum_cons, ← preSum_sumL is]
    rfl
theorem i_sum : ISpec X "sum" fun is => some is.sum := by
  intro s E T r d n P OK K Q is i hh hok hl hval e q
  cases e
  refine call_sum_walkAnyS ?_
  obtain ⟨oI, St, hit, W, st⟩ := K.iter X.A.in1 s hh hok
  refine hit _ _ ⟨s.heap.objs.size, _, _, _, n, P, _, fun j => is.getD j 0, rfl, W.toS, st, fun b hb => ?_, hval, fun s' t' hm => ?_⟩
  · show b < (s.heap.push oI).objs.size
    rw [PyProof.Rows.size_push']
    rcases List.mem_cons.mp hb with e | hb
    · rw [e]; exact Nat.lt_succ_self _
    · rw [List.mem_singleton.mp hb]; exact Nat.lt_succ_of_lt (K.there _ hok).2
  · have hk : ∀ b o, s.heap.get? b = some o → s'.heap.get? b = some o := fun b o e =>
      hm.heap b o (fun hI => absurd (Heap.lt_size e) (by rw [List.mem_singleton.mp hI]; exact Nat.lt_irrefl _)) (Heap.get?_push_of_some _ e)
    rw [Moved.eq_with hm, ← hl, preSum_sumL]
    exact q s'.heap s'.toks t' hk
theorem i_min : ISpec X "min" minI := by
  intro s E T r d n P OK K Q is i hh hok hl hval e q
  refine call_min_walk ?_
  obtain ⟨oI, St, hit, W, st⟩ := K.iter X.A.in1 s hh hok
  have hn : 0 < n := by
    rw [← hl]
    cases is with
    | nil => cases e
    | cons _ _ => exact Nat.zero_lt_succ _
  refine hit _ _ ⟨s.heap.objs.size, _, _, n, P, _, _, rfl, W, st, fun b hb => ?_, hn, CmpOf.ints_lt (fun j => is.getD j 0) hval, fun v h' tk hP hk => ?_⟩
  · show b < (s.heap.push oI).objs.size
    rw [PyProof.Rows.size_push']
    rcases List.mem_cons.mp hb with e | hb
    · rw [e]; exact Nat.lt_succ_self _
    · rw [List.mem_singleton.mp hb]; exact Nat.lt_succ_of_lt (K.there _ hok).2
  · have hk : ∀ b o, s.heap.get? b = some o → h'.get? b = some o := fun b o e =>
      hk b o (fun hI => absurd (Heap.lt_size e) (by rw [List.mem_singleton.mp hI]; exact Nat.lt_irrefl _)) (Heap.get?_push_of_some _ e)
    obtain ⟨t, rfl⟩ := hval _ v hP
    obtain ⟨b1, b2⟩ := argBest_lt (fun i => is.getD i 0) (n - 1)
    have hb : argBest (fun i j => decide (is.getD i 0 < is.getD j 0)) (n - 1) < is.length := by omega
    have em : minI is = some (is.getD (argBest (fun i j => decide (is.getD i 0 < is.getD j 0)) (n - 1)) 0) := by
      refine minI_of ?_ fun y hy => ?_
      · rw [List.getD_eq_getElem?_getD, List.getElem?_eq_getElem hb]
        exact List.getElem_mem hb
      · obtain ⟨j, hj, e⟩ := List.mem_iff_getElem.mp hy
        have e2 : is.getD j 0 = y := by rw [List.getD_eq_getElem?_getD, List.getElem?_eq_getElem hj, ← e] <;> rfl
        rw [← e2]
        exact b2 j (by omega)
    rw [em] at e
    cases e
    exact q h' tk t hk
theorem i_max : ISpec X "max" maxI := by
  intro s E T r d n P OK K Q is i hh hok hl hval e q
  refine call_max_walk ?_
  obtain ⟨oI, St, hit, W, st⟩ := K.iter X.A.in1 s hh hok
  have hn : 0 < n := by
    rw [← hl]
    cases is with
    | nil => cases e
    | cons _ _ => exact Nat.zero_lt_succ _
  refine hit _ _ ⟨s.heap.objs.size, _, _, n, P, _, _, rfl, W, st, fun b hb => ?_, hn, CmpOf.ints_gt (fun j => is.getD j 0) hval, fun v h' tk hP hk => ?_⟩
  · show b < (s.heap.push oI).objs.size
    rw [PyProof.Rows.size_push']
    rcases List.mem_cons.mp hb with e | hb
    · rw [e]; exact Nat.lt_succ_self _
    · rw [List.mem_singleton.mp hb]; exact Nat.lt_succ_of_lt (K.there _ hok).2
  · have hk : ∀ b o, s.heap.get? b = some o → h'.get? b = some o := fun b o e =>
      hk b o (fun hI => absurd (Heap.lt_size e) (by rw [List.mem_singleton.mp hI]; exact Nat.lt_irrefl _)) (Heap.get?_push_of_some _ e)
    obtain ⟨t, rfl⟩ := hval _ v hP
    obtain ⟨b1, b2⟩ := argBest_gt (fun i => is.getD i 0) (n - 1)
    have hb : argBest (fun i j => decide (is.getD i 0 > is.getD j 0)) (n - 1) < is.length := by omega
    have em : maxI is = some (is.getD (argBest (fun i j => decide (is.getD i 0 > is.getD j 0)) (n - 1)) 0) := by
      refine maxI_of ?_ fun y hy => ?_
      · rw [List.getD_eq_getElem?_getD, List.getElem?_eq_getElem hb]
        exact List.getElem_mem hb
      · obtain ⟨j, hj, e⟩ := List.mem_iff_getElem.mp hy
        have e2 : is.getD j 0 = y := by rw [List.getD_eq_getElem?_getD, List.getElem?_eq_getElem hj, ← e] <;> rfl
        rw [← e2]
        exact b2 j (by omega)
    rw [em] at e
    cases e
    exact q h' tk t hk
end
end Pk
end

/-! PlT -/
section
set_option Elab.async false
set_option linter.all false
set_option maxRecDepth 100000
set_option maxHeartbeats 4000000
namespace Pk
open PySem PySem.Spec L2
/-! ### sum(o.values()), min(..), max(..) -/
def eVals (m : List Int → Option Int) (f : Ex) : Ex := fun sl h => (f sl h).bind fun w h1 => match dview h1 w with
  | some (ks, ws) => if flatK ks then (match intsOf ws with
    | some is => match m is with
      | some i => .ok (.int i) h1
      | none => .no
    | none => .no) else .no
  | none => .no
section
variable {Γ : Γ} {Wx : WX} {X : Cx} {o : Expr} {fo : Ex} {p pos apos mpos : Pos} {x : Str} {fn : String} {m : List Int → Option Int}
theorem e_vals (S : ISpec X fn m) (hc : X.calm = true) (hv : bootBuiltins x = some (.builtin fn)) (hm : X.mg x = none) (hd : PE X o (RDE Γ Wx fo)) (hg : Gl X x := by rfl) (hn : x ≠ "__name__" := by decide) (hdb : (x == ("__debug__" : Str)) = false := by decide)
    (hbase : attributeBase o "values" X.env (eval o X.env) = eval o X.env := by rfl) (hline : (apos.endLine == mpos.line) = true := by rfl)
    (hse : starEach [Expr.Call (.Attribute o "values" apos) [] [] mpos] X.env = [(false, eval (Expr.Call (.Attribute o "values" apos) [] [] mpos) X.env)] := by rfl) :
    PE X (.Call (.Name x p) [.Call (.Attribute o "values" apos) [] [] mpos] [] pos) (RDE Γ Wx (eVals m fo)) := by
  refine ⟨fun pins s σ H Q I ⟨g, sl, h, hH, hS, q⟩ => ?_⟩
  refine wpAny_Call_Name_kw (ld_blt I hg hm hv ?_ hn hdb)
  rw [hse]
  refine PySem.callWith_builtin1 (wpAny_Call_method0_late hbase hline (thn (hd.run pins s σ H _ I (RDE.step hH hS q)) fun v s1 ⟨x1, H1, I1, rx, g1, h1, w1, l1, hH1, rw1, q1⟩ => ?_))
  cases ed : dview h1 w1 with
  | none => rw [ed] at q1; exact q1.elim
  | some kw =>
    obtain ⟨ks, ws⟩ := kw
    rw [ed] at q1
    have q2 : Rz Γ Wx (RW Γ.K) g1 (if flatK ks then (match intsOf ws with
      | some is => match m is with
        | some i => .ok (.int i) h1
        | none => .no
      | none => .no) else .no) σ Q := q1
    by_cases hf : flatK ks = true
    · rw [if_pos hf] at q2
      split at q2
      · rename_i is ei
        split at q2
        · rename_i i em
          obtain ⟨a, kvs, ex, hd, ek, rs⟩ := dview_flat hH1 hf rw1 ed
          subst ex
          subst ek
          have := intsOf_inv ei
          subst this
          have hv := rws_ints rs
          obtain rfl : v = Value.ref a := rx
          obtain ⟨_, hsys, vs, rel, dof⟩ := dk_rd I1.hok hd
          obtain ⟨ep, dat⟩ := dof.dictAt
          have dat' := dat
          obtain ⟨ob, es, ho, ex, hdat, hko, hpr, hnd⟩ := dat'
          refine ⟨"dict", "dict.values", F.plainAttrs_dict, F.slot_dict_values, F.type_dict_values, ⟨ob, ho, ex.1⟩, fun b e => ?_, Calls.callWith_builtin rfl (PySem.evalArgs_none ?_)⟩
          · cases e
            exact ⟨ob, ho, ex.2.1⟩
          refine call_meetsIn F.slot_dict_values ⟨ob, ho, ex.1⟩ F.entry_dict_values (F.args_dict_values_1 _) (meets_dict_values (mixKind X.prog X.w) a hsys) ⟨⟨vs, dof⟩, ?_⟩
          have k1 : ∀ b u, s1.heap.get? b = some u → (s1.heap.push { cls := .type "dict_values", data := .fields #[.ref a] }).get? b = some u := fun b u e => Heap.get?_push_of_some _ e
          have dat1 : (s1.heap.push { cls := .type "dict_values", data := .fields #[.ref a] }).DictAt (mixKind X.prog X.w) a vs ep := dat.keep k1
          have hlv : is.length = vs.length := by
            have e1 := congrArg List.length hv
            rw [List.length_map, List.length_map] at e1
            rw [← e1]
            exact KV.length rel
          have hval : ∀ (i : Nat) (v : Value), (∃ k, vs[i]? = some (k, v)) → ∃ t, v = Value.int (is.getD i 0) t := fun i v ⟨k, hk⟩ => by
            obtain ⟨x, h1, h2⟩ := KV.at' rel hk
            have e1 : (kvs.map (·.2))[i]? = some x := by rw [List.getElem?_map, h1] <;> rfl
            rw [hv, List.getElem?_map] at e1
            obtain ⟨j, hj, e2⟩ := Option.map_eq_some_iff.mp e1
            subst e2
            obtain ⟨t, e3⟩ := h2
            refine ⟨t, ?_⟩
            rw [e3, List.getD_eq_getElem?_getD, hj] <;> rfl
          refine S (PySem.W.kdl_values (knd := mixKind X.prog X.w) (kvs := vs) (ep := ep)) (I1.ok.hd hc) ⟨⟨_, Heap.get?_push_size _ rfl, rfl, rfl⟩, dat1⟩ hlv hval em fun h' tk t hk => ?_
          exact ⟨.int i, H1, I1.kept (t' := tk) fun b u e => hk b u (k1 b u e), ⟨t, rfl⟩, rz_now q2 hH1 (mint _)⟩
        · exact q2.elim
      · exact q2.elim
    · rw [if_neg hf] at q2
      exact q2.elim
end

/-! ### == of dicts of different lengths -/
def difLen (h : HS) (x y : W) : Bool := match dview h x, dview h y with
  | some (ks, _), some (ks', _) => flatK ks && flatK ks' && !(ks.length == ks'.length)
  | _, _ => false
def wEq2 (x y : W) (h : HS) : R W := if difLen h x y then .ok (.bl false) h else wEq x y h
def wNe2 (x y : W) (h : HS) : R W := if difLen h x y then .ok (.bl true) h else wNe x y h
def rEqN (b : Bool) : R2 := fun x y H Q => ∃ a a' ks ls, x = .ref a ∧ y = .ref a' ∧ Rd H a (.dK ks) ∧ Rd H a' (.dK ls) ∧ ks.length ≠ ls.length ∧ Q (.bl b) H
section
variable {Γ : Γ} {Wx : WX} {X : Cx} {g : G} {h : HS} {H : Hp}
theorem op_eq_N (hu : X.A.units < cLine) : OpR X (compareOp .Eq) (rEqN false) := by
  intro pins s σ H x y v u Q I rx ry h
  obtain ⟨a, b, ks, ls, rfl, rfl, ea, eb, hlen, q⟩ := h
  obtain rfl : v = Value.ref a := rx
  obtain rfl : u = Value.ref b := ry
  obtain ⟨_, ya, va, ra, da⟩ := dk_rd I.hok ea
  obtain ⟨_, yb, vb, rb, db⟩ := dk_rd I.hok eb
  have hl : ¬ va.length = vb.length := by rw [← ra.length, ← rb.length]; exact hlen
  exact PySem.W.keq_eq (knd := mixKind X.prog X.w) (r := true) ya yb da db hu (fun z => absurd z hl) (fin_bl I q (by simp [hl]))
theorem op_ne_N (hu : X.A.units < cLine) : OpR X (compareOp .NotEq) (rEqN true) := by
  intro pins s σ H x y v u Q I rx ry h
  obtain ⟨a, b, ks, ls, rfl, rfl, ea, eb, hlen, q⟩ := h
  obtain rfl : v = Value.ref a := rx
  obtain rfl : u = Value.ref b := ry
  obtain ⟨_, ya, va, ra, da⟩ := dk_rd I.hok ea
  obtain ⟨_, yb, vb, rb, db⟩ := dk_rd I.hok eb
  have hl : ¬ va.length = vb.length := by rw [← ra.length, ← rb.length]; exact hlen
  exact PySem.W.keq_ne (knd := mixKind X.prog X.w) (r := true) ya yb da db hu (fun z => absurd z hl) (fin_bl I q (by simp [hl]))
theorem difLen_ok {b : Bool} {x y : W} {vx vy : V} {Q : VK} (hH : RH Γ g h H) (rx : RW Γ.K g x vx) (ry : RW Γ.K g y vy) (e : difLen h x y = true) (q : Q (.bl b) H) : rEqN b vx vy H Q := by
  unfold difLen at e
  split at e
  · rename_i ks ws ks' ws' e1 e2
    rw [Bool.and_eq_true, Bool.and_eq_true] at e
    obtain ⟨⟨f1, f2⟩, f3⟩ := e
    obtain ⟨a, kvs, rfl, d1, k1, _⟩ := dview_flat hH f1 rx e1
    obtain ⟨a', kvs', rfl, d2, k2, _⟩ := dview_flat hH f2 ry e2
    refine ⟨a, a', kvs, kvs', rfl, rfl, d1, d2, fun z => ?_, q⟩
    subst k1; subst k2
    simp [z] at f3
  · cases e
theorem o_eq2 (o : OpS Γ Wx X (compareOp .Eq) wEq) (hu : X.A.units < cLine) : OpS Γ Wx X (compareOp .Eq) wEq2 := by
  obtain ⟨r, o1, o2⟩ := o
  refine ⟨_, OpR.or o1 (op_eq_N hu), fun {g h H σ x y vx vy Q} hH rx ry q => ?_⟩
  unfold wEq2 at q
  split at q
  · rename_i e
    exact .inr (difLen_ok hH rx ry e (rz_now q hH (mbl _)))
  · exact .inl (o2 hH rx ry q)
theorem o_ne2 (o : OpS Γ Wx X (compareOp .NotEq) wNe) (hu : X.A.units < cLine) : OpS Γ Wx X (compareOp .NotEq) wNe2 := by
  obtain ⟨r, o1, o2⟩ := o
  refine ⟨_, OpR.or o1 (op_ne_N hu), fun {g h H σ x y vx vy Q} hH rx ry q => ?_⟩
  unfold wNe2 at q
  split at q
  · rename_i e
    exact .inr (difLen_ok hH rx ry e (rz_now q hH (mbl _)))
  · exact .inl (o2 hH rx ry q)
end

/-! ### len(d), list(d), an empty one too -/
def m_len2 (xs : List W) (h : HS) : R W := match xs with
  | [x] => match dview h x with
    | some (ks, _) => if flatK ks then .ok (.int ks.length) h else m_len xs h
    | none => m_len xs h
  | _ => m_len xs h
def m_list2 (bx : Bool) (xs : List W) (h : HS) : R W := match xs with
  | [x] => match dview h x with
    | some (ks, _) => match unKs ks with
      | some ws => mkL bx ws h
      | none => .no
    | none => m_list bx xs h
  | _ => m_list bx xs h
theorem CallR.or' {X : Cx} {f : Value} {r r' : List V → Hp → VK → Prop} (h : CallR X f r) (h' : CallR X f r') : CallR X f (fun xs H Q => r xs H Q ∨ r' xs H Q) := h.or h'
section
variable {Γ : Γ} {Wx : WX} {X : Cx}
theorem c_len2 (hK : X.K = Γ.K) : CallS Γ Wx X (.builtin "len") m_len2 := by
  obtain ⟨r, o1, o2⟩ := c_len (Γ := Γ) (Wx := Wx) hK
  refine ⟨_, CallR.or' o1 call_len_R, fun {g h H σ xs vs Q} hH rv q => ?_⟩
  unfold m_len2 at q
  split at q
  · split at q
    · rename_i ks ws e
      split at q
      · rename_i hf
        obtain ⟨v, rfl, r1⟩ := rws1 rv
        obtain ⟨a, kvs, rfl, d1, k1, _⟩ := dview_flat hH hf r1 e
        refine .inr ⟨a, kvs, rfl, d1, ?_⟩
        subst k1
        rw [List.length_map] at q
        exact rz_now q hH (mint _)
      · exact .inl (o2 hH rv q)
    · exact .inl (o2 hH rv q)
  · exact .inl (o2 hH rv q)
theorem c_list2 (bx : Bool) (hK : X.K = Γ.K) (hc : X.calm = true) : CallS Γ Wx X (.type "list") (m_list2 bx) := by
  obtain ⟨r, o1, o2⟩ := c_list (Γ := Γ) (Wx := Wx) bx hK hc
  refine ⟨_, CallR.or' o1 (call_listD hc), fun {g h H σ xs vs Q} hH rv q => ?_⟩
  unfold m_list2 at q
  split at q
  · split at q
    · rename_i ks ws e
      split at q
      · rename_i us eu
        obtain ⟨v, rfl, r1⟩ := rws1 rv
        obtain ⟨a, kvs, rfl, d1, k1, _⟩ := dview_flat hH (unKs_flat eu) r1 e
        subst k1
        exact .inr ⟨a, kvs, rfl, d1, fun l hl => mkL_ok hH hl (unKs_ok eu) q⟩
      · exact q.elim
    · exact .inl (o2 hH rv q)
  · exact .inl (o2 hH rv q)
end

/-! ### methods of lists -/
def MLS (Γ : Γ) (Wx : WX) (X : Cx) (id : String) (m : W → List W → HS → R W) : Prop :=
  ∃ r : V → List V → Hp → VK → Prop, MtR X id r ∧ ∀ {g : G} {h : HS} {H : Hp} {σ : L2.St} {x : W} {xs : List W} {v : V} {vs : List V} {Q : VK}, RH Γ g h H → RW Γ.K g x v → RWs Γ.K g xs vs → Rz Γ Wx (RW Γ.K) g (m x xs h) σ Q → r v vs H Q
def eLM (m : W → List W → HS → R W) (fo : Ex) (fr : Ax) : Ex := fun sl h => (fo sl h).bind fun x h1 => if (lview h1 x).isSome then (fr sl h1).bind fun xs h2 => m x xs h2 else .no
def eLM0 (m : W → List W → HS → R W) (fo : Ex) : Ex := fun sl h => (fo sl h).bind fun x h1 => if (lview h1 x).isSome then m x [] h1 else .no
section
variable {Γ : Γ} {Wx : WX} {X : Cx} {id : String} {m : W → List W → HS → R W} {name : Str} {o e : Expr} {es : List Expr} {fo : Ex} {fr : Ax} {apos pos : Pos}
theorem e_lm (M : MLS Γ Wx X id m) (hK : X.K = Γ.K) (slot : Slot "list" name id) (ty : typeOf (.builtin id) = pure (.type "method_descriptor")) (ho : PE X o (RDE Γ Wx fo)) (ha : PA X (e :: es) (RDA Γ Wx fr))
    (hbase : attributeBase o name X.env (eval o X.env) = eval o X.env := by rfl)
    (hfew : ((backTo pos (starEach (e :: es) X.env)).all (fun x => !x.1) && (backToKw pos (keywordEach [] X.env)).all (fun x => x.1.isSome)
      && decide ((e :: es).length + ([] : List Keyword).length + (if ([] : List Keyword).isEmpty then 0 else 1) < 30)) = true := by rfl)
    (hline : (apos.endLine == pos.line) = true := by rfl) (hs : starEach (e :: es) X.env = (false, eval e X.env) :: starEach es X.env := by rfl) (hplain : (backTo pos (starEach es X.env)).any (·.1) = false := by rfl) :
    PE X (.Call (.Attribute o name apos) (e :: es) [] pos) (RDE Γ Wx (eLM m fo fr)) := by
  obtain ⟨r, m1, m2⟩ := M
  refine PE.imp (pe_bm F.plainAttrs_list slot ty m1 ho ha hbase hfew hline hs hplain) fun σ H Q ⟨g, sl, h, hH, hS, q⟩ => ?_
  refine RDE.mono (fun v H1 ⟨g1, h1, w1, l1, hH1, r1, q1⟩ => ?_) (RDE.step hH hS q)
  split at q1
  · rename_i hs
    obtain ⟨ws, ew⟩ := Option.isSome_iff_exists.mp hs
    obtain ⟨a, vs, rfl, e1, _⟩ := lview_ok hH1 r1 ew
    refine ⟨.inl ⟨rfl, vs, SqL.of e1⟩, RDA.mono (fun us H2 ⟨g2, h2, ws2, l2, hH2, r2, q2⟩ => ?_) (RDA.step hH1 (SLk.mono l1 hS) q1)⟩
    exact m2 hH2 (RW.mono l2 _ _ r1) r2 q2
  · exact q1.elim
theorem e_lm0 (M : MLS Γ Wx X id m) (hK : X.K = Γ.K) (slot : Slot "list" name id) (ty : typeOf (.builtin id) = pure (.type "method_descriptor")) (ho : PE X o (RDE Γ Wx fo))
    (hbase : attributeBase o name X.env (eval o X.env) = eval o X.env := by rfl) (hline : (apos.endLine == pos.line) = true := by rfl) :
    PE X (.Call (.Attribute o name apos) [] [] pos) (RDE Γ Wx (eLM0 m fo)) := by
  obtain ⟨r, m1, m2⟩ := M
  refine PE.imp (pe_bm0 F.plainAttrs_list slot ty m1 ho hbase hline) fun σ H Q ⟨g, sl, h, hH, hS, q⟩ => ?_
  refine RDE.mono (fun v H1 ⟨g1, h1, w1, l1, hH1, r1, q1⟩ => ?_) (RDE.step hH hS q)
  split at q1
  · rename_i hs
    obtain ⟨ws, ew⟩ := Option.isSome_iff_exists.mp hs
    obtain ⟨a, vs, rfl, e1, _⟩ := lview_ok hH1 r1 ew
    exact ⟨.inl ⟨rfl, vs, SqL.of e1⟩, m2 hH1 r1 .nil q1⟩
  · exact q1.elim
def l_count (x : W) (xs : List W) (h : HS) : R W := match lview h x, xs with
  | some ws, [.int k] => match intsOf ws with
    | some is => .ok (.int (is.count k : Nat)) h
    | none => .no
  | _, _ => .no
theorem ml_count (hK : X.K = Γ.K) : MLS Γ Wx X "list.count" l_count := by
  refine ⟨_, mt_lcount, fun {g h H σ x xs v vs Q} hH r rs q => ?_⟩
  unfold l_count at q
  split at q
  · rename_i ws k e
    split at q
    · rename_i is ei
      have := intsOf_inv ei
      subst this
      obtain ⟨a, us, rfl, e1, ru⟩ := lview_ok hH r e
      have := rws_ints ru
      subst this
      obtain ⟨u, rfl, r1⟩ := rws1 rs
      cases rint r1
      exact ⟨a, is, k, rfl, rfl, SqL.of e1, rz_now q hH (mint _)⟩
    · exact q.elim
  · exact q.elim
def l_append (x : W) (xs : List W) (h : HS) : R W := match x, xs with
  | .box n, [y] => match h.at_ n with
    | some (.lst ws) => if ws.length < sizeLine then .ok .non (h.put n (.lst (ws ++ [y]))) else .no
    | _ => .no
  | _, _ => .no
theorem ml_append : MLS Γ Wx X "list.append" l_append := by
  refine ⟨_, mt_append, fun {g h H σ x xs v vs Q} hH r rs q => ?_⟩
  unfold l_append at q
  split at q
  · rename_i n y
    split at q
    · rename_i ws ec
      split at q
      · rename_i hl
        unfold RW at r
        obtain ⟨hn, rfl⟩ := r
        obtain ⟨_, _, us, e1, ru⟩ := hH.cell n _ ec
        obtain ⟨u, rfl, r1⟩ := rws1 rs
        refine ⟨_, us, u, rfl, rfl, e1, by rw [← ru.len]; exact hl, ?_⟩
        exact q g _ _ (.refl _) (hH.put (c' := .lst (ws ++ [y])) (o := .lst (us ++ [u])) ec ⟨us ++ [u], upd_same, ru.app (.cons r1 .nil)⟩) (by unfold RW; rfl)
      · exact q.elim
    · exact q.elim
  · exact q.elim
end
end Pk
end

/-! Ka00 -/
section
set_option Elab.async false
set_option linter.all false
set_option maxRecDepth 100000
set_option maxHeartbeats 4000000
namespace K03
open PySem PySem.Spec L2 Pk
def top (i : Nat) : Stmt := PySem.Challenge.pw_planstack_k03_guesses_of_lengths.main.body.getD i (.Pass ⟨0, 0, 0, 0⟩)
abbrev s_least : Stmt := top 4
abbrev s_check_guess : Stmt := top 5
abbrev s_mean_of : Stmt := top 6
abbrev s_spread_of : Stmt := top 7
abbrev s_sum_of : Stmt := top 8
abbrev s_chances : Stmt := top 9
abbrev s_chance_by : Stmt := top 10
abbrev s_day_for : Stmt := top 11
abbrev s_together : Stmt := top 12
abbrev s_later_of : Stmt := top 13
abbrev s_mean_in : Stmt := top 14
abbrev s_learned : Stmt := top 15
abbrev s_agreed : Stmt := top 16
abbrev s__law_dice : Stmt := top 18
abbrev s__law_roll : Stmt := top 19
abbrev s__law_rounds : Stmt := top 20
abbrev s__law_told : Stmt := top 21
abbrev s__law_least : Stmt := top 22
abbrev s__law_guess : Stmt := top 23
abbrev s__law_weights : Stmt := top 24
abbrev s__law_all : Stmt := top 25
abbrev s__law_plain : Stmt := top 26
abbrev s_law : Stmt := top 27
structure Fx (Γ : Pk.Γ) (P : Program) (w : World) (mg : Str → Option Value) (base : Heap) where
  a_least : Addr
  d_least : FuncData
  F_least : FunD Γ.K "least" "least" (defArgs s_least) (defBody s_least) (defScope s_least) [] [] a_least d_least
  G_least : mg "least" = some (.ref a_least)
  a_check_guess : Addr
  d_check_guess : FuncData
  F_check_guess : FunD Γ.K "check_guess" "check_guess" (defArgs s_check_guess) (defBody s_check_guess) (defScope s_check_guess) [] [] a_check_guess d_check_guess
  G_check_guess : mg "check_guess" = some (.ref a_check_guess)
  a_mean_of : Addr
  d_mean_of : FuncData
  F_mean_of : FunD Γ.K "mean_of" "mean_of" (defArgs s_mean_of) (defBody s_mean_of) (defScope s_mean_of) [] [] a_mean_of d_mean_of
  G_mean_of : mg "mean_of" = some (.ref a_mean_of)
  a_spread_of : Addr
  d_spread_of : FuncData
  F_spread_of : FunD Γ.K "spread_of" "spread_of" (defArgs s_spread_of) (defBody s_spread_of) (defScope s_spread_of) [] [] a_spread_of d_spread_of
  G_spread_of : mg "spread_of" = some (.ref a_spread_of)
  a_sum_of : Addr
  d_sum_of : FuncData
  F_sum_of : FunD Γ.K "sum_of" "sum_of" (defArgs s_sum_of) (defBody s_sum_of) (defScope s_sum_of) [] [] a_sum_of d_sum_of
  G_sum_of : mg "sum_of" = some (.ref a_sum_of)
  a_chances : Addr
  d_chances : FuncData
  F_chances : FunD Γ.K "chances" "chances" (defArgs s_chances) (defBody s_chances) (defScope s_chances) [] [] a_chances d_chances
  G_chances : mg "chances" = some (.ref a_chances)
  a_chance_by : Addr
  d_chance_by : FuncData
  F_chance_by : FunD Γ.K "chance_by" "chance_by" (defArgs s_chance_by) (defBody s_chance_by) (defScope s_chance_by) [] [] a_chance_by d_chance_by
  G_chance_by : mg "chance_by" = some (.ref a_chance_by)
  a_day_for : Addr
  d_day_for : FuncData
  F_day_for : FunD Γ.K "day_for" "day_for" (defArgs s_day_for) (defBody s_day_for) (defScope s_day_for) [] [] a_day_for d_day_for
  G_day_for : mg "day_for" = some (.ref a_day_for)
  a_together : Addr
  d_together : FuncData
  F_together : FunD Γ.K "together" "together" (defArgs s_together) (defBody s_together) (defScope s_together) [] [] a_together d_together
  G_together : mg "together" = some (.ref a_together)
  a_later_of : Addr
  d_later_of : FuncData
  F_later_of : FunD Γ.K "later_of" "later_of" (defArgs s_later_of) (defBody s_later_of) (defScope s_later_of) [] [] a_later_of d_later_of
  G_later_of : mg "later_of" = some (.ref a_later_of)
  a_mean_in : Addr
  d_mean_in : FuncData
  F_mean_in : FunD Γ.K "mean_in" "mean_in" (defArgs s_mean_in) (defBody s_mean_in) (defScope s_mean_in) [] [] a_mean_in d_mean_in
  G_mean_in : mg "mean_in" = some (.ref a_mean_in)
  a_learned : Addr
  d_learned : FuncData
  F_learned : FunD Γ.K "learned" "learned" (defArgs s_learned) (defBody s_learned) (defScope s_learned) [] [] a_learned d_learned
  G_learned : mg "learned" = some (.ref a_learned)
  a_agreed : Addr
  d_agreed : FuncData
  F_agreed : FunD Γ.K "agreed" "agreed" (defArgs s_agreed) (defBody s_agreed) (defScope s_agreed) [] [] a_agreed d_agreed
  G_agreed : mg "agreed" = some (.ref a_agreed)
  a__law_dice : Addr
  d__law_dice : FuncData
  F__law_dice : FunD Γ.K "_law_dice" "_law_dice" (defArgs s__law_dice) (defBody s__law_dice) (defScope s__law_dice) [] [] a__law_dice d__law_dice
  G__law_dice : mg "_law_dice" = some (.ref a__law_dice)
  a__law_roll : Addr
  d__law_roll : FuncData
  F__law_roll : FunD Γ.K "_law_roll" "_law_roll" (defArgs s__law_roll) (defBody s__law_roll) (defScope s__law_roll) [] [] a__law_roll d__law_roll
  G__law_roll : mg "_law_roll" = some (.ref a__law_roll)
  a__law_rounds : Addr
  d__law_rounds : FuncData
  F__law_rounds : FunD Γ.K "_law_rounds" "_law_rounds" (defArgs s__law_rounds) (defBody s__law_rounds) (defScope s__law_rounds) [] [] a__law_rounds d__law_rounds
  G__law_rounds : mg "_law_rounds" = some (.ref a__law_rounds)
  a__law_told : Addr
  d__law_told : FuncData
  F__law_told : FunD Γ.K "_law_told" "_law_told" (defArgs s__law_told) (defBody s__law_told) (defScope s__law_told) [] [] a__law_told d__law_told
  G__law_told : mg "_law_told" = some (.ref a__law_told)
  a__law_least : Addr
  d__law_least : FuncData
  F__law_least : FunD Γ.K "_law_least" "_law_least" (defArgs s__law_least) (defBody s__law_least) (defScope s__law_least) [] [] a__law_least d__law_least
  G__law_least : mg "_law_least" = some (.ref a__law_least)
  a__law_guess : Addr
  d__law_guess : FuncData
  F__law_guess : FunD Γ.K "_law_guess" "_law_guess" (defArgs s__law_guess) (defBody s__law_guess) (defScope s__law_guess) [] [] a__law_guess d__law_guess
  G__law_guess : mg "_law_guess" = some (.ref a__law_guess)
  a__law_weights : Addr
  d__law_weights : FuncData
  F__law_weights : FunD Γ.K "_law_weights" "_law_weights" (defArgs s__law_weights) (defBody s__law_weights) (defScope s__law_weights) [] [] a__law_weights d__law_weights
  G__law_weights : mg "_law_weights" = some (.ref a__law_weights)
  a__law_all : Addr
  d__law_all : FuncData
  F__law_all : FunD Γ.K "_law_all" "_law_all" (defArgs s__law_all) (defBody s__law_all) (defScope s__law_all) [] [] a__law_all d__law_all
  G__law_all : mg "_law_all" = some (.ref a__law_all)
  a__law_plain : Addr
  d__law_plain : FuncData
  F__law_plain : FunD Γ.K "_law_plain" "_law_plain" (defArgs s__law_plain) (defBody s__law_plain) (defScope s__law_plain) [] [] a__law_plain d__law_plain
  G__law_plain : mg "_law_plain" = some (.ref a__law_plain)
  a_law : Addr
  d_law : FuncData
  F_law : FunD Γ.K "law" "law" (defArgs s_law) (defBody s_law) (defScope s_law) [] [] a_law d_law
  G_law : mg "law" = some (.ref a_law)
  c_chance_by : Addr
  p_chance_by : Addr
  g_chance_by : TabT Γ mg base "chance_by" "<genexpr>" d_chance_by c_chance_by p_chance_by
  c_mean_in : Addr
  p_mean_in : Addr
  g_mean_in : TabT Γ mg base "mean_in" "<genexpr>" d_mean_in c_mean_in p_mean_in
  c__law_plain : Addr
  p__law_plain : Addr
  t__law_plain : TabT Γ mg base "_law_plain" "<lambda>" d__law_plain c__law_plain p__law_plain
  x_GuessError : ExcT Γ mg "GuessError" 1
  z_abs : mg "abs" = none
  z_dict : mg "dict" = none
  z_int : mg "int" = none
  z_len : mg "len" = none
  z_list : mg "list" = none
  z_max : mg "max" = none
  z_min : mg "min" = none
  z_range : mg "range" = none
  z_sorted : mg "sorted" = none
  z_sum : mg "sum" = none
  told : ToldT Γ.K mg "_law_told" "GuessError" (Γ.cls 1)
  tx : ∀ c ∈ [1], PySem.W.exmOne Γ.K (.ref (Γ.cls c)) (.ref (Γ.cls 1)) = some true
theorem sc_least : FnScope ["top", "bottom", "a", "b"] ["top", "bottom"] (defScope s_least) := ⟨rfl, rfl, rfl, by decide +kernel, rfl, by decide +kernel, by decide +kernel⟩
def b_least : Sx := (sSeq (sPar 2 3 (aCons (eCallB m_abs (aCons (eVar 0) aNil)) (aCons (eVar 1) aNil))) (sSeq (sWhile (tVal (eBin wNe (eVar 3) (eC (.int 0)))) (sPar 2 3 (aCons (eVar 3) (aCons (eBin wMod (eVar 2) (eVar 3)) aNil)))) (sRet (eTup (aCons (eBin wDiv (eVar 0) (eVar 2)) (aCons (eBin wDiv (eVar 1) (eVar 2)) aNil))))))
def f_least : List W → HS → R W := bodyM 4 b_least
theorem sc_check_guess : FnScope ["guess"] ["guess"] (defScope s_check_guess) := ⟨rfl, rfl, rfl, by decide +kernel, rfl, by decide +kernel, by decide +kernel⟩
def b_check_guess : Sx := (sIf (tOrx (tVal (eBin wNe (eCallB m_len (aCons (eVar 0) aNil)) (eC (.int 3)))) (tNotx (tVal (eChain3 wLe wLe wLe (eC (.int 0)) (eBin wIx (eVar 0) (eC (.int 0))) (eBin wIx (eVar 0) (eC (.int 1))) (eBin wIx (eVar 0) (eC (.int 2))))))) (sRaise 1) sNil)
def f_check_guess : List W → HS → R W := bodyM 1 b_check_guess
theorem sc_mean_of : FnScope ["guess"] ["guess"] (defScope s_mean_of) := ⟨rfl, rfl, rfl, by decide +kernel, rfl, by decide +kernel, by decide +kernel⟩
def b_mean_of : Sx := (sSeq (sExpr (eCall 1 f_check_guess [] (aCons (eVar 0) aNil))) (sRet (eCall 2 f_least [] (aCons (eBin (wAdd false) (eBin (wAdd false) (eBin wIx (eVar 0) (eC (.int 0))) (eBin (wMul false) (eC (.int 4)) (eBin wIx (eVar 0) (eC (.int 1))))) (eBin wIx (eVar 0) (eC (.int 2)))) (aCons (eC (.int 6)) aNil)))))
def f_mean_of : List W → HS → R W := bodyM 1 b_mean_of
theorem sc_spread_of : FnScope ["guess"] ["guess"] (defScope s_spread_of) := ⟨rfl, rfl, rfl, by decide +kernel, rfl, by decide +kernel, by decide +kernel⟩
def b_spread_of : Sx := (sSeq (sExpr (eCall 1 f_check_guess [] (aCons (eVar 0) aNil))) (sRet (eCall 2 f_least [] (aCons (eBin (wMul false) (eBin wSub (eBin wIx (eVar 0) (eC (.int 2))) (eBin wIx (eVar 0) (eC (.int 0)))) (eBin wSub (eBin wIx (eVar 0) (eC (.int 2))) (eBin wIx (eVar 0) (eC (.int 0))))) (aCons (eC (.int 36)) aNil)))))
def f_spread_of : List W → HS → R W := bodyM 1 b_spread_of
theorem sc_sum_of : FnScope ["guesses", "guess", "mean", "spread"] ["guesses"] (defScope s_sum_of) := ⟨rfl, rfl, rfl, by decide +kernel, rfl, by decide +kernel, by decide +kernel⟩
def b_sum_of : Sx := (sSeq (sAsg (eTup (aCons (eC (.int 0)) (aCons (eC (.int 0)) aNil))) (gTupx (gConsx (gN 2) (gConsx (gN 3) gNilx)))) (sSeq (sFor (iSeq (eVar 0)) (gN 1) (sSeq (sExpr (eCall 1 f_check_guess [] (aCons (eVar 1) aNil))) (sSeq (sAug 2 kAdd (eBin (wAdd false) (eBin (wAdd false) (eBin wIx (eVar 1) (eC (.int 0))) (eBin (wMul false) (eC (.int 4)) (eBin wIx (eVar 1) (eC (.int 1))))) (eBin wIx (eVar 1) (eC (.int 2))))) (sAug 3 kAdd (eBin (wMul false) (eBin wSub (eBin wIx (eVar 1) (eC (.int 2))) (eBin wIx (eVar 1) (eC (.int 0)))) (eBin wSub (eBin wIx (eVar 1) (eC (.int 2))) (eBin wIx (eVar 1) (eC (.int 0))))))))) (sRet (eTup (aCons (eCall 2 f_least [] (aCons (eVar 2) (aCons (eC (.int 6)) aNil))) (aCons (eCall 2 f_least [] (aCons (eVar 3) (aCons (eC (.int 36)) aNil))) aNil))))))
def f_sum_of : List W → HS → R W := bodyM 4 b_sum_of
theorem sc_chances : FnScope ["guess", "found", "day", "low", "top", "high"] ["guess"] (defScope s_chances) := ⟨rfl, rfl, rfl, by decide +kernel, rfl, by decide +kernel, by decide +kernel⟩
def b_chances : Sx := (sSeq (sExpr (eCall 1 f_check_guess [] (aCons (eVar 0) aNil))) (sSeq (sAsg (eVar 0) (gTupx (gConsx (gN 3) (gConsx (gN 4) (gConsx (gN 5) gNilx))))) (sSeq (sIf (tVal (eBin wGt (eBin wSub (eVar 5) (eVar 3)) (eC (.int 60)))) (sRaise 1) sNil) (sSeq (sAsg (eDnew true) (gN 1)) (sSeq (sFor (iR2 (aCons (eVar 3) (aCons (eBin (wAdd false) (eVar 5) (eC (.int 1))) aNil))) (gN 2) (sSub (eIf (tVal (eBin wLe (eVar 2) (eVar 4))) (eBin (wMul false) (eBin (wAdd false) (eBin wSub (eVar 2) (eVar 3)) (eC (.int 1))) (eBin (wAdd false) (eBin wSub (eVar 5) (eVar 4)) (eC (.int 1)))) (eBin (wMul false) (eBin (wAdd false) (eBin wSub (eVar 5) (eVar 2)) (eC (.int 1))) (eBin (wAdd false) (eBin wSub (eVar 4) (eVar 3)) (eC (.int 1))))) (eVar 1) (eVar 2))) (sRet (eVar 1)))))))
def f_chances : List W → HS → R W := bodyM 6 b_chances
theorem sc_chance_by : FnScope ["guess", "day", "table", "one", "many"] ["guess", "day"] (defScope s_chance_by) := ⟨rfl, rfl, rfl, by decide +kernel, rfl, by decide +kernel, by decide +kernel⟩
def b_chance_by : Sx := (sSeq (sAsg (eCall 1 f_chances [] (aCons (eVar 0) aNil)) (gN 2)) (sRet (eCall 2 f_least [] (aCons (eSumG [3, 4] (iItems (eVar 2)) (gTupx (gConsx (gN 3) (gConsx (gN 4) gNilx))) (tVal (eBin wLe (eVar 3) (eVar 1))) (eVar 4)) (aCons (eVals (fun is => some is.sum) (eVar 2)) aNil)))))
def f_chance_by : List W → HS → R W := bodyM 5 b_chance_by
theorem sc_day_for : FnScope ["guess", "part", "table", "whole", "gone", "day", "many"] ["guess", "part"] (defScope s_day_for) := ⟨rfl, rfl, rfl, by decide +kernel, rfl, by decide +kernel, by decide +kernel⟩
def b_day_for : Sx := (sSeq (sIf (tNotx (tVal (eChain wLe wLe (eC (.int 1)) (eVar 1) (eC (.int 100))))) (sRaise 1) sNil) (sSeq (sAsg (eCall 1 f_chances [] (aCons (eVar 0) aNil)) (gN 2)) (sSeq (sPar 3 4 (aCons (eVals (fun is => some is.sum) (eVar 2)) (aCons (eC (.int 0)) aNil))) (sSeq (sFor (iItems (eVar 2)) (gTupx (gConsx (gN 5) (gConsx (gN 6) gNilx))) (sSeq (sAug 4 kAdd (eVar 6)) (sIf (tVal (eBin wGe (eBin (wMul false) (eC (.int 100)) (eVar 4)) (eBin (wMul false) (eVar 1) (eVar 3)))) (sRet (eVar 5)) sNil))) (sRaise 1)))))
def f_day_for : List W → HS → R W := bodyM 7 b_day_for
theorem sc_together : FnScope ["guesses", "found", "guess", "whole", "many", "table", "fresh", "day", "a", "b", "other", "more"] ["guesses"] (defScope s_together) := ⟨rfl, rfl, rfl, by decide +kernel, rfl, by decide +kernel, by decide +kernel⟩
def b_together : Sx := (sSeq (sAsg (eDisp false [((eC (.int 0)), (eC (.int 1)))]) (gN 1)) (sSeq (sFor (iSeq (eVar 0)) (gN 2) (sSeq (sPar 5 6 (aCons (eCall 1 f_chances [] (aCons (eVar 2) aNil)) (aCons (eDnew true) aNil))) (sSeq (sFor (iItems (eVar 1)) (gTupx (gConsx (gN 7) (gConsx (gN 4) gNilx))) (sFor (iItems (eVar 5)) (gTupx (gConsx (gN 10) (gConsx (gN 11) gNilx))) (sSub (eBin (wAdd false) (eGet2 (eVar 6) (eBin (wAdd false) (eVar 7) (eVar 10)) (eC (.int 0))) (eBin (wMul false) (eVar 4) (eVar 11))) (eVar 6) (eBin (wAdd false) (eVar 7) (eVar 10))))) (sSeq (sIf (tVal (eBin wGt (eCallB m_len (aCons (eVar 6) aNil)) (eC (.int 300)))) (sRaise 1) sNil) (sAsg (eVar 6) (gN 1)))))) (sSeq (sAsg (eC (.int 0)) (gN 3)) (sSeq (sFor (iVals (eVar 1)) (gN 4) (sSeq (sPar 8 9 (aCons (eVar 3) (aCons (eVar 4) aNil))) (sSeq (sWhile (tVal (eBin wNe (eVar 9) (eC (.int 0)))) (sPar 8 9 (aCons (eVar 9) (aCons (eBin wMod (eVar 8) (eVar 9)) aNil)))) (sAsg (eVar 8) (gN 3))))) (sRet (eDc false [7] (iSeq (eCallB (m_sorted false) (aCons (eVar 1) aNil))) (gN 7) tYesx (eVar 7) (eBin wDiv (eBin wIx (eVar 1) (eVar 7)) (eVar 3))))))))
def f_together : List W → HS → R W := bodyM 12 b_together
theorem sc_later_of : FnScope ["guesses", "found", "guess", "whole", "many", "table", "fresh", "day", "a", "b", "other", "more", "late"] ["guesses"] (defScope s_later_of) := ⟨rfl, rfl, rfl, by decide +kernel, rfl, by decide +kernel, by decide +kernel⟩
def b_later_of : Sx := (sSeq (sAsg (eDisp false [((eC (.int 0)), (eC (.int 1)))]) (gN 1)) (sSeq (sFor (iSeq (eVar 0)) (gN 2) (sSeq (sPar 5 6 (aCons (eCall 1 f_chances [] (aCons (eVar 2) aNil)) (aCons (eDnew true) aNil))) (sSeq (sFor (iItems (eVar 1)) (gTupx (gConsx (gN 7) (gConsx (gN 4) gNilx))) (sFor (iItems (eVar 5)) (gTupx (gConsx (gN 10) (gConsx (gN 11) gNilx))) (sSeq (sAsg (eCallB m_max2 (aCons (eVar 7) (aCons (eVar 10) aNil))) (gN 12)) (sSub (eBin (wAdd false) (eGet2 (eVar 6) (eVar 12) (eC (.int 0))) (eBin (wMul false) (eVar 4) (eVar 11))) (eVar 6) (eVar 12))))) (sAsg (eVar 6) (gN 1))))) (sSeq (sAsg (eC (.int 0)) (gN 3)) (sSeq (sFor (iVals (eVar 1)) (gN 4) (sSeq (sPar 8 9 (aCons (eVar 3) (aCons (eVar 4) aNil))) (sSeq (sWhile (tVal (eBin wNe (eVar 9) (eC (.int 0)))) (sPar 8 9 (aCons (eVar 9) (aCons (eBin wMod (eVar 8) (eVar 9)) aNil)))) (sAsg (eVar 8) (gN 3))))) (sRet (eDc false [7] (iSeq (eCallB (m_sorted false) (aCons (eVar 1) aNil))) (gN 7) tYesx (eVar 7) (eBin wDiv (eBin wIx (eVar 1) (eVar 7)) (eVar 3))))))))
def f_later_of : List W → HS → R W := bodyM 13 b_later_of
theorem sc_mean_in : FnScope ["table", "day", "many"] ["table"] (defScope s_mean_in) := ⟨rfl, rfl, rfl, by decide +kernel, rfl, by decide +kernel, by decide +kernel⟩
def b_mean_in : Sx := (sSeq (sIf (tOrx (tVal (eBin wEq2 (eVar 0) (eDnew false))) (tVal (eBin wLt (eVals minI (eVar 0)) (eC (.int 1))))) (sRaise 1) sNil) (sRet (eCall 2 f_least [] (aCons (eSumG [1, 2] (iItems (eVar 0)) (gTupx (gConsx (gN 1) (gConsx (gN 2) gNilx))) tYesx (eBin (wMul false) (eVar 1) (eVar 2))) (aCons (eVals (fun is => some is.sum) (eVar 0)) aNil)))))
def f_mean_in : List W → HS → R W := bodyM 3 b_mean_in
theorem sc_learned : FnScope ["told", "took"] ["told", "took"] (defScope s_learned) := ⟨rfl, rfl, rfl, by decide +kernel, rfl, by decide +kernel, by decide +kernel⟩
def b_learned : Sx := (sSeq (sIf (tOrx (tVal (eBin wNe (eCallB m_len (aCons (eVar 0) aNil)) (eCallB m_len (aCons (eVar 1) aNil)))) (tOrx (tVal (eBin wEq (eCallB m_len (aCons (eVar 0) aNil)) (eC (.int 0)))) (tOrx (tVal (eBin wLt (eCallB m_sum (aCons (eVar 0) aNil)) (eC (.int 1)))) (tVal (eBin wLt (eCallB m_min1 (aCons (eBin (wAdd false) (eCallB (m_list false) (aCons (eVar 0) aNil)) (eCallB (m_list false) (aCons (eVar 1) aNil))) aNil)) (eC (.int 0))))))) (sRaise 1) sNil) (sRet (eCall 2 f_least [] (aCons (eCallB m_sum (aCons (eVar 1) aNil)) (aCons (eCallB m_sum (aCons (eVar 0) aNil)) aNil)))))
def f_learned : List W → HS → R W := bodyM 2 b_learned
theorem sc_agreed : FnScope ["rows", "counts", "number", "most"] ["rows"] (defScope s_agreed) := ⟨rfl, rfl, rfl, by decide +kernel, rfl, by decide +kernel, by decide +kernel⟩
def b_agreed : Sx := (sSeq (sIf (tVal (eBin wEq (eCallB m_len (aCons (eVar 0) aNil)) (eC (.int 0)))) (sRaise 1) sNil) (sSeq (sAsg (eDnew true) (gN 1)) (sSeq (sFor (iSeq (eVar 0)) (gN 2) (sSub (eBin (wAdd false) (eGet2 (eVar 1) (eVar 2) (eC (.int 0))) (eC (.int 1))) (eVar 1) (eVar 2))) (sSeq (sAsg (eLc false [2] (iKeys (eVar 1)) (gN 2) (tVal (eBin wEq (eBin wIx (eVar 1) (eVar 2)) (eVals maxI (eVar 1)))) (eVar 2)) (gN 3)) (sRet (eTup (aCons (eCallB m_min1 (aCons (eVar 3) aNil)) (aCons (eCallB m_max1 (aCons (eVar 3) aNil)) aNil))))))))
def f_agreed : List W → HS → R W := bodyM 4 b_agreed
theorem sc__law_dice : FnScope ["cell"] ["cell"] (defScope s__law_dice) := ⟨rfl, rfl, rfl, by decide +kernel, rfl, by decide +kernel, by decide +kernel⟩
def b__law_dice : Sx := (sSeq (sIf (tVal (eChain wLt wLt (eBin wSub (eC (.int 0)) (eC (.int 10))) (eVar 0) (eC (.int 10)))) (sRet (eLst true (aCons (eCallB m_abs (aCons (eVar 0) aNil)) (aCons (eC (.int 0)) (aCons (eC (.int 2)) aNil))))) sNil) (sRet (eLst true (aCons (eVar 0) (aCons (eBin (wAdd false) (eC (.int 1)) (eBin wMod (eCallB m_int (aCons (eVar 0) aNil)) (eC (.int 1009)))) (aCons (eCallB m_int (aCons (eBin wGe (eVar 0) (eBin wPow (eC (.int 10)) (eC (.int 18)))) aNil)) aNil))))))
def f__law_dice : List W → HS → R W := bodyM 1 b__law_dice
theorem sc__law_roll : FnScope ["dice", "many", "found"] ["dice", "many"] (defScope s__law_roll) := ⟨rfl, rfl, rfl, by decide +kernel, rfl, by decide +kernel, by decide +kernel⟩
def b__law_roll (r : List W → HS → R W) : Sx := (sSeq (sIf (tOrx (tVal (eBin wEq (eBin wIx (eVar 0) (eC (.int 2))) (eC (.int 2)))) (tAndx (tVal (eBin wEq (eBin wIx (eVar 0) (eC (.int 2))) (eC (.int 1)))) (tVal (eBin wGt (eBin wIx (eVar 0) (eC (.int 0))) (eC (.int 0)))))) (sSeq (sAsg (eBin wMod (eCallB m_int (aCons (eBin wIx (eVar 0) (eC (.int 0))) aNil)) (eVar 1)) (gN 2)) (sSeq (sSub (eBin wDiv (eBin wIx (eVar 0) (eC (.int 0))) (eVar 1)) (eVar 0) (eC (.int 0))) (sRet (eVar 2)))) sNil) (sSeq (sSub (eC (.int 0)) (eVar 0) (eC (.int 2))) (sSeq (sIf (tVal (eBin wGt (eVar 1) (eC (.int 100000000)))) (sRet (eBin wMod (eCallB m_int (aCons (eBin (wAdd false) (eBin (wMul false) (eCall 2 r [] (aCons (eVar 0) (aCons (eBin (wAdd false) (eBin wDiv (eVar 1) (eC (.int 100000000))) (eC (.int 1))) aNil))) (eC (.int 100000000))) (eCall 2 r [] (aCons (eVar 0) (aCons (eC (.int 100000000)) aNil)))) aNil)) (eVar 1))) sNil) (sSeq (sSub (eBin wMod (eCallB m_int (aCons (eBin (wAdd false) (eBin (wAdd false) (eBin (wMul false) (eBin wIx (eVar 0) (eC (.int 0))) (eC (.int 48271))) (eBin (wMul false) (eBin wIx (eVar 0) (eC (.int 1))) (eC (.int 69621)))) (eC (.int 11))) aNil)) (eC (.int 2147483647))) (eVar 0) (eC (.int 0))) (sSeq (sSub (eBin (wAdd false) (eBin wIx (eVar 0) (eC (.int 1))) (eC (.int 1))) (eVar 0) (eC (.int 1))) (sRet (eBin wMod (eCallB m_int (aCons (eBin wDiv (eBin wIx (eVar 0) (eC (.int 0))) (eC (.int 7))) aNil)) (eVar 1))))))))
def n__law_roll : Nat → List W → HS → R W
  | 0 => fun _ _ => .no
  | k + 1 => bodyM 3 (b__law_roll (n__law_roll k))
theorem sc__law_rounds : FnScope ["script", "most", "cells", "cell"] ["script", "most"] (defScope s__law_rounds) := ⟨rfl, rfl, rfl, by decide +kernel, rfl, by decide +kernel, by decide +kernel⟩
def b__law_rounds : Sx := (sSeq (sAsg (eCut false (eVar 0) pNo (pSome (eVar 1))) (gN 2)) (sSeq (sIf (tVal (eBin wEq (eVar 2) (eLst false aNil))) (sAsg (eLst false (aCons (eC (.int 0)) aNil)) (gN 2)) sNil) (sRet (eLc false [3] (iSeq (eVar 2)) (gN 3) tYesx (eCall 1 f__law_dice [] (aCons (eVar 3) aNil))))))
def f__law_rounds : List W → HS → R W := bodyM 4 b__law_rounds
theorem sc__law_least : FnScope ["top", "bottom", "a", "b"] ["top", "bottom"] (defScope s__law_least) := ⟨rfl, rfl, rfl, by decide +kernel, rfl, by decide +kernel, by decide +kernel⟩
def b__law_least : Sx := (sSeq (sPar 2 3 (aCons (eCallB m_abs (aCons (eVar 0) aNil)) (aCons (eVar 1) aNil))) (sSeq (sWhile (tVal (eBin wNe (eVar 3) (eC (.int 0)))) (sPar 2 3 (aCons (eVar 3) (aCons (eBin wSub (eVar 2) (eBin (wMul false) (eBin wDiv (eVar 2) (eVar 3)) (eVar 3))) aNil)))) (sRet (eTup (aCons (eBin wDiv (eVar 0) (eVar 2)) (aCons (eBin wDiv (eVar 1) (eVar 2)) aNil))))))
def f__law_least : List W → HS → R W := bodyM 4 b__law_least
theorem sc__law_guess : FnScope ["dice", "low", "likely"] ["dice"] (defScope s__law_guess) := ⟨rfl, rfl, rfl, by decide +kernel, rfl, by decide +kernel, by decide +kernel⟩
def b__law_guess : Sx := (sSeq (sAsg (eCall 2 (n__law_roll 4) [] (aCons (eVar 0) (aCons (eC (.int 9)) aNil))) (gN 1)) (sSeq (sAsg (eBin (wAdd false) (eVar 1) (eCall 2 (n__law_roll 4) [] (aCons (eVar 0) (aCons (eC (.int 6)) aNil)))) (gN 2)) (sRet (eTup (aCons (eVar 1) (aCons (eVar 2) (aCons (eBin (wAdd false) (eVar 2) (eCall 2 (n__law_roll 4) [] (aCons (eVar 0) (aCons (eC (.int 8)) aNil)))) aNil)))))))
def f__law_guess : List W → HS → R W := bodyM 3 b__law_guess
theorem sc__law_weights : FnScope ["guess", "found", "day", "low", "top", "high"] ["guess"] (defScope s__law_weights) := ⟨rfl, rfl, rfl, by decide +kernel, rfl, by decide +kernel, by decide +kernel⟩
def b__law_weights : Sx := (sSeq (sAsg (eVar 0) (gTupx (gConsx (gN 3) (gConsx (gN 4) (gConsx (gN 5) gNilx))))) (sSeq (sAsg (eLst false aNil) (gN 1)) (sSeq (sFor (iR2 (aCons (eVar 3) (aCons (eBin (wAdd false) (eVar 5) (eC (.int 1))) aNil))) (gN 2) (sAsg (eBin (wAdd false) (eVar 1) (eLst false (aCons (eTup (aCons (eVar 2) (aCons (eIf (tVal (eBin wLe (eVar 2) (eVar 4))) (eBin (wMul false) (eBin (wAdd false) (eBin wSub (eVar 2) (eVar 3)) (eC (.int 1))) (eBin (wAdd false) (eBin wSub (eVar 5) (eVar 4)) (eC (.int 1)))) (eBin (wMul false) (eBin (wAdd false) (eBin wSub (eVar 5) (eVar 2)) (eC (.int 1))) (eBin (wAdd false) (eBin wSub (eVar 4) (eVar 3)) (eC (.int 1))))) aNil))) aNil))) (gN 1))) (sRet (eVar 1)))))
def f__law_weights : List W → HS → R W := bodyM 6 b__law_weights
theorem sc__law_all : FnScope ["guesses", "is_sum", "rows", "guess", "whole", "fresh", "day", "many", "a", "b", "other", "more", "key"] ["guesses", "is_sum"] (defScope s__law_all) := ⟨rfl, rfl, rfl, by decide +kernel, rfl, by decide +kernel, by decide +kernel⟩
def b__law_all : Sx := (sSeq (sAsg (eLst false (aCons (eTup (aCons (eC (.int 0)) (aCons (eC (.int 1)) aNil))) aNil)) (gN 2)) (sSeq (sFor (iSeq (eVar 0)) (gN 3) (sSeq (sAsg (eDnew true) (gN 5)) (sSeq (sFor (iSeq (eVar 2)) (gTupx (gConsx (gN 6) (gConsx (gN 7) gNilx))) (sFor (iSeq (eCall 1 f__law_weights [] (aCons (eVar 3) aNil))) (gTupx (gConsx (gN 10) (gConsx (gN 11) gNilx))) (sSeq (sAsg (eIf (tVal (eVar 1)) (eBin (wAdd false) (eVar 6) (eVar 10)) (eCallB m_max2 (aCons (eVar 6) (aCons (eVar 10) aNil)))) (gN 12)) (sSub (eBin (wAdd false) (eGet2 (eVar 5) (eVar 12) (eC (.int 0))) (eBin (wMul false) (eVar 7) (eVar 11))) (eVar 5) (eVar 12))))) (sAsg (eSortItems false (eVar 5)) (gN 2))))) (sSeq (sAsg (eC (.int 0)) (gN 4)) (sSeq (sFor (iSeq (eVar 2)) (gTupx (gConsx (gN 6) (gConsx (gN 7) gNilx))) (sSeq (sPar 8 9 (aCons (eVar 4) (aCons (eVar 7) aNil))) (sSeq (sWhile (tVal (eBin wNe (eVar 9) (eC (.int 0)))) (sPar 8 9 (aCons (eVar 9) (aCons (eBin wSub (eVar 8) (eBin (wMul false) (eBin wDiv (eVar 8) (eVar 9)) (eVar 9))) aNil)))) (sAsg (eVar 8) (gN 4))))) (sRet (eLc false [6, 7] (iSeq (eVar 2)) (gTupx (gConsx (gN 6) (gConsx (gN 7) gNilx))) tYesx (eTup (aCons (eVar 6) (aCons (eBin wDiv (eVar 7) (eVar 4)) aNil)))))))))
def f__law_all : List W → HS → R W := bodyM 13 b__law_all
theorem sc__law_plain : FnScope ["guess", "bad", "f"] [] (defScope s__law_plain) := ⟨rfl, rfl, rfl, by decide +kernel, rfl, by decide +kernel, by decide +kernel⟩
def b__law_plain : Sx := (sSeq (sAsg (eTup (aCons (eC (.int 2)) (aCons (eC (.int 4)) (aCons (eC (.int 9)) aNil)))) (gN 0)) (sSeq (sBad 1) (sSeq (sIf (tOrx (tVal (eBin wNe (eBads false [1] [(eCall 1 f_check_guess [] (aCons (eTup (aCons (eC (.int 1)) (aCons (eC (.int 2)) aNil))) aNil)), (eCall 1 f_check_guess [] (aCons (eTup (aCons (eUn wNeg (eC (.int 1))) (aCons (eC (.int 2)) (aCons (eC (.int 3)) aNil)))) aNil)), (eCall 1 f_check_guess [] (aCons (eTup (aCons (eC (.int 3)) (aCons (eC (.int 2)) (aCons (eC (.int 4)) aNil)))) aNil)), (eCall 1 f_check_guess [] (aCons (eTup (aCons (eC (.int 1)) (aCons (eC (.int 5)) (aCons (eC (.int 4)) aNil)))) aNil)), (eCall 1 f_mean_of [] (aCons (eTup (aCons (eC (.int 2)) (aCons (eC (.int 1)) (aCons (eC (.int 3)) aNil)))) aNil)), (eCall 1 f_spread_of [] (aCons (eTup (aCons (eC (.int 2)) (aCons (eC (.int 1)) (aCons (eC (.int 3)) aNil)))) aNil)), (eCall 1 f_sum_of [] (aCons (eTup (aCons (eTup (aCons (eC (.int 2)) (aCons (eC (.int 1)) (aCons (eC (.int 3)) aNil)))) aNil)) aNil)), (eCall 1 f_chances [] (aCons (eTup (aCons (eC (.int 0)) (aCons (eC (.int 1)) (aCons (eC (.int 61)) aNil)))) aNil)), (eCall 2 f_chance_by [] (aCons (eTup (aCons (eC (.int 2)) (aCons (eC (.int 1)) (aCons (eC (.int 3)) aNil)))) (aCons (eC (.int 1)) aNil))), (eCall 2 f_day_for [] (aCons (eVar 0) (aCons (eC (.int 0)) aNil))), (eCall 2 f_day_for [] (aCons (eVar 0) (aCons (eC (.int 101)) aNil))), (eCall 1 f_together [] (aCons (eBin (wMul false) (eTup (aCons (eTup (aCons (eC (.int 0)) (aCons (eC (.int 1)) (aCons (eC (.int 60)) aNil)))) aNil)) (eC (.int 6))) aNil)), (eCall 1 f_later_of [] (aCons (eTup (aCons (eTup (aCons (eC (.int 0)) (aCons (eC (.int 1)) (aCons (eC (.int 61)) aNil)))) aNil)) aNil)), (eCall 1 f_mean_in [] (aCons (eDnew false) aNil)), (eCall 1 f_mean_in [] (aCons (eDisp false [((eC (.int 1)), (eC (.int 0)))]) aNil)), (eCall 2 f_learned [] (aCons (eTup aNil) (aCons (eTup aNil) aNil))), (eCall 2 f_learned [] (aCons (eTup (aCons (eC (.int 1)) aNil)) (aCons (eTup aNil) aNil))), (eCall 2 f_learned [] (aCons (eTup (aCons (eC (.int 0)) aNil)) (aCons (eTup (aCons (eC (.int 1)) aNil)) aNil))), (eCall 2 f_learned [] (aCons (eTup (aCons (eC (.int 1)) aNil)) (aCons (eTup (aCons (eUn wNeg (eC (.int 1))) aNil)) aNil))), (eCall 1 f_agreed [] (aCons (eTup aNil) aNil))]) (eLst false aNil))) (tOrx (tVal (eBin wNe (eCall 1 f_mean_of [] (aCons (eVar 0) aNil)) (eTup (aCons (eC (.int 9)) (aCons (eC (.int 2)) aNil))))) (tOrx (tVal (eBin wNe (eCall 1 f_spread_of [] (aCons (eVar 0) aNil)) (eTup (aCons (eC (.int 49)) (aCons (eC (.int 36)) aNil))))) (tOrx (tVal (eBin wNe (eCall 1 f_sum_of [] (aCons (eTup (aCons (eVar 0) (aCons (eVar 0) aNil))) aNil)) (eTup (aCons (eTup (aCons (eC (.int 9)) (aCons (eC (.int 1)) aNil))) (aCons (eTup (aCons (eC (.int 49)) (aCons (eC (.int 18)) aNil))) aNil))))) (tVal (eBin wNe (eCall 1 f_chances [] (aCons (eVar 0) aNil)) (eDisp false [((eC (.int 2)), (eC (.int 6))), ((eC (.int 3)), (eC (.int 12))), ((eC (.int 4)), (eC (.int 18))), ((eC (.int 5)), (eC (.int 15))), ((eC (.int 6)), (eC (.int 12))), ((eC (.int 7)), (eC (.int 9))), ((eC (.int 8)), (eC (.int 6))), ((eC (.int 9)), (eC (.int 3)))]))))))) (sRet (eC (.bl false))) sNil) (sSeq (sIf (tNotx (tAndx (tVal (eBin wEq (eCall 2 f_chance_by [] (aCons (eVar 0) (aCons (eC (.int 4)) aNil))) (eTup (aCons (eC (.int 4)) (aCons (eC (.int 9)) aNil))))) (tVal (eBin wEq (eCall 2 f_day_for [] (aCons (eVar 0) (aCons (eC (.int 80)) aNil))) (eC (.int 7)))))) (sRet (eC (.bl false))) sNil) (sRet (eAnd (eBin wEq (eCall 1 f_together [] (aCons (eTup (aCons (eTup (aCons (eC (.int 1)) (aCons (eC (.int 1)) (aCons (eC (.int 2)) aNil)))) (aCons (eTup (aCons (eC (.int 0)) (aCons (eC (.int 1)) (aCons (eC (.int 1)) aNil)))) aNil))) aNil)) (eDisp false [((eC (.int 1)), (eC (.int 2))), ((eC (.int 2)), (eC (.int 5))), ((eC (.int 3)), (eC (.int 2)))])) (eAnd (eBin wEq (eCall 1 f_later_of [] (aCons (eTup (aCons (eTup (aCons (eC (.int 1)) (aCons (eC (.int 1)) (aCons (eC (.int 2)) aNil)))) (aCons (eTup (aCons (eC (.int 0)) (aCons (eC (.int 1)) (aCons (eC (.int 1)) aNil)))) aNil))) aNil)) (eDisp false [((eC (.int 1)), (eC (.int 2))), ((eC (.int 2)), (eC (.int 1)))])) (eAnd (eBin wEq (eCall 1 f_mean_in [] (aCons (eDisp false [((eC (.int 1)), (eC (.int 1))), ((eC (.int 2)), (eC (.int 3)))]) aNil)) (eTup (aCons (eC (.int 7)) (aCons (eC (.int 4)) aNil)))) (eAnd (eBin wEq (eCall 2 f_learned [] (aCons (eTup (aCons (eC (.int 4)) (aCons (eC (.int 6)) aNil))) (aCons (eTup (aCons (eC (.int 6)) (aCons (eC (.int 9)) aNil))) aNil))) (eTup (aCons (eC (.int 3)) (aCons (eC (.int 2)) aNil)))) (eAnd (eBin wEq (eCall 1 f_agreed [] (aCons (eTup (aCons (eC (.int 3)) (aCons (eC (.int 5)) (aCons (eC (.int 3)) (aCons (eC (.int 5)) (aCons (eC (.int 8)) aNil)))))) aNil)) (eTup (aCons (eC (.int 3)) (aCons (eC (.int 5)) aNil)))) (eAnd (eBin wEq (eCall 1 f_together [] (aCons (eTup aNil) aNil)) (eDisp false [((eC (.int 0)), (eC (.int 1)))])) (eAnd (eBin wEq (eCall 1 f_later_of [] (aCons (eTup aNil) aNil)) (eDisp false [((eC (.int 0)), (eC (.int 1)))])) (eAnd (eBin wEq (eCall 1 f_sum_of [] (aCons (eTup aNil) aNil)) (eTup (aCons (eTup (aCons (eC (.int 0)) (aCons (eC (.int 1)) aNil))) (aCons (eTup (aCons (eC (.int 0)) (aCons (eC (.int 1)) aNil))) aNil)))) (eBin wEq (eCall 1 f_chances [] (aCons (eTup (aCons (eC (.int 3)) (aCons (eC (.int 3)) (aCons (eC (.int 3)) aNil)))) aNil)) (eDisp false [((eC (.int 3)), (eC (.int 1)))])))))))))))))))
def f__law_plain : List W → HS → R W := bodyM 3 b__law_plain
theorem sc_law : FnScope ["script", "dice", "whole", "table", "told", "took", "numbers", "most", "often", "guess", "some", "means", "wides", "rows", "day", "part", "k", "one", "many", "other", "more"] ["script"] (defScope s_law) := ⟨rfl, rfl, rfl, by decide +kernel, rfl, by decide +kernel, by decide +kernel⟩
def b_law : Sx := (sSeq (sFor (iSeq (eCall 2 f__law_rounds [] (aCons (eVar 0) (aCons (eC (.int 1)) aNil)))) (gN 1) (sSeq (sAsg (eTup (aCons (eCall 1 f__law_guess [] (aCons (eVar 1) aNil)) (aCons (eLc false [16] (iR1 (aCons (eCall 2 (n__law_roll 4) [] (aCons (eVar 1) (aCons (eC (.int 4)) aNil))) aNil)) (gN 16) tYesx (eCall 1 f__law_guess [] (aCons (eVar 1) aNil))) aNil))) (gTupx (gConsx (gN 9) (gConsx (gN 10) gNilx)))) (sSeq (sIf (tVal (eBin wNe (eCall 1 f_mean_of [] (aCons (eVar 9) aNil)) (eCall 2 f__law_least [] (aCons (eBin (wAdd false) (eBin (wAdd false) (eBin wIx (eVar 9) (eC (.int 0))) (eBin (wMul false) (eC (.int 4)) (eBin wIx (eVar 9) (eC (.int 1))))) (eBin wIx (eVar 9) (eC (.int 2)))) (aCons (eC (.int 6)) aNil))))) (sRet (eC (.bl false))) sNil) (sSeq (sIf (tVal (eBin wNe (eCall 1 f_spread_of [] (aCons (eVar 9) aNil)) (eCall 2 f__law_least [] (aCons (eBin (wMul false) (eBin wSub (eBin wIx (eVar 9) (eC (.int 2))) (eBin wIx (eVar 9) (eC (.int 0)))) (eBin wSub (eBin wIx (eVar 9) (eC (.int 2))) (eBin wIx (eVar 9) (eC (.int 0))))) (aCons (eC (.int 36)) aNil))))) (sRet (eC (.bl false))) sNil) (sSeq (sIf (tVal (eBin wIsN (eCall 1 f_check_guess [] (aCons (eVar 9) aNil)) (eC .non))) (sRet (eC (.bl false))) sNil) (sSeq (sPar 11 12 (aCons (eCallB m_sum (aCons (eLc false [17] (iSeq (eVar 10)) (gN 17) tYesx (eBin (wAdd false) (eBin (wAdd false) (eBin wIx (eVar 17) (eC (.int 0))) (eBin (wMul false) (eC (.int 4)) (eBin wIx (eVar 17) (eC (.int 1))))) (eBin wIx (eVar 17) (eC (.int 2))))) aNil)) (aCons (eCallB m_sum (aCons (eLc false [17] (iSeq (eVar 10)) (gN 17) tYesx (eBin (wMul false) (eBin wSub (eBin wIx (eVar 17) (eC (.int 2))) (eBin wIx (eVar 17) (eC (.int 0)))) (eBin wSub (eBin wIx (eVar 17) (eC (.int 2))) (eBin wIx (eVar 17) (eC (.int 0)))))) aNil)) aNil))) (sSeq (sIf (tVal (eBin wNe (eCall 1 f_sum_of [] (aCons (eVar 10) aNil)) (eTup (aCons (eCall 2 f__law_least [] (aCons (eVar 11) (aCons (eC (.int 6)) aNil))) (aCons (eCall 2 f__law_least [] (aCons (eVar 12) (aCons (eC (.int 36)) aNil))) aNil))))) (sRet (eC (.bl false))) sNil) (sSeq (sAsg (eTup (aCons (eCall 1 f__law_weights [] (aCons (eVar 9) aNil)) (aCons (eCall 2 (n__law_roll 4) [] (aCons (eVar 1) (aCons (eC (.int 30)) aNil))) (aCons (eBin (wAdd false) (eC (.int 1)) (eCall 2 (n__law_roll 4) [] (aCons (eVar 1) (aCons (eC (.int 100)) aNil)))) aNil)))) (gTupx (gConsx (gN 13) (gConsx (gN 14) (gConsx (gN 15) gNilx))))) (sSeq (sAsg (eCallB m_sum (aCons (eLc false [17, 18] (iSeq (eVar 13)) (gTupx (gConsx (gN 17) (gConsx (gN 18) gNilx))) tYesx (eVar 18)) aNil)) (gN 2)) (sSeq (sIf (tVal (eBin wNe (eItemsL false (eCall 1 f_chances [] (aCons (eVar 9) aNil))) (eVar 13))) (sRet (eC (.bl false))) sNil) (sSeq (sIf (tVal (eBin wNe (eCall 2 f_chance_by [] (aCons (eVar 9) (aCons (eVar 14) aNil))) (eCall 2 f__law_least [] (aCons (eCallB m_sum (aCons (eLc false [17, 18] (iSeq (eVar 13)) (gTupx (gConsx (gN 17) (gConsx (gN 18) gNilx))) (tVal (eBin wLe (eVar 17) (eVar 14))) (eVar 18)) aNil)) (aCons (eVar 2) aNil))))) (sRet (eC (.bl false))) sNil) (sSeq (sIf (tVal (eBin wNe (eBin wIx (eLc false [17, 18] (iSeq (eVar 13)) (gTupx (gConsx (gN 17) (gConsx (gN 18) gNilx))) (tVal (eBin wEq (eVar 17) (eBin wIx (eVar 9) (eC (.int 1))))) (eVar 18)) (eC (.int 0))) (eCallB m_max1 (aCons (eLc false [17, 18] (iSeq (eVar 13)) (gTupx (gConsx (gN 17) (gConsx (gN 18) gNilx))) tYesx (eVar 18)) aNil)))) (sRet (eC (.bl false))) sNil) (sSeq (sIf (tVal (eBin wNe (eCall 2 f_day_for [] (aCons (eVar 9) (aCons (eVar 15) aNil))) (eBin wIx (eLc false [17, 18] (iSeq (eVar 13)) (gTupx (gConsx (gN 17) (gConsx (gN 18) gNilx))) (tVal (eBin wGe (eBin (wMul false) (eC (.int 100)) (eCallB m_sum (aCons (eLc false [19, 20] (iSeq (eVar 13)) (gTupx (gConsx (gN 19) (gConsx (gN 20) gNilx))) (tVal (eBin wLe (eVar 19) (eVar 17))) (eVar 20)) aNil))) (eBin (wMul false) (eVar 15) (eVar 2)))) (eVar 17)) (eC (.int 0))))) (sRet (eC (.bl false))) sNil) (sSeq (sIf (tVal (eBin wNe (eItemsL false (eCall 1 f_together [] (aCons (eVar 10) aNil))) (eCall 2 f__law_all [] (aCons (eVar 10) (aCons (eC (.bl true)) aNil))))) (sRet (eC (.bl false))) sNil) (sSeq (sIf (tVal (eBin wNe (eItemsL false (eCall 1 f_later_of [] (aCons (eVar 10) aNil))) (eCall 2 f__law_all [] (aCons (eVar 10) (aCons (eC (.bl false)) aNil))))) (sRet (eC (.bl false))) sNil) (sSeq (sAsg (eCallB (m_dict false) (aCons (eCall 2 f__law_all [] (aCons (eVar 10) (aCons (eC (.bl true)) aNil))) aNil)) (gN 3)) (sSeq (sIf (tVal (eBin wNe (eCall 1 f_mean_in [] (aCons (eVar 3) aNil)) (eCall 2 f__law_least [] (aCons (eCallB m_sum (aCons (eLc false [17] (iKeys (eVar 3)) (gN 17) tYesx (eBin (wMul false) (eVar 17) (eBin wIx (eVar 3) (eVar 17)))) aNil)) (aCons (eVals (fun is => some is.sum) (eVar 3)) aNil))))) (sRet (eC (.bl false))) sNil) (sSeq (sAsg (eLc false [16] (iR1 (aCons (eBin (wAdd false) (eC (.int 1)) (eCall 2 (n__law_roll 4) [] (aCons (eVar 1) (aCons (eC (.int 5)) aNil)))) aNil)) (gN 16) tYesx (eBin (wAdd false) (eC (.int 1)) (eCall 2 (n__law_roll 4) [] (aCons (eVar 1) (aCons (eC (.int 9)) aNil))))) (gN 4)) (sSeq (sAsg (eLc false [17] (iSeq (eVar 4)) (gN 17) tYesx (eCall 2 (n__law_roll 4) [] (aCons (eVar 1) (aCons (eC (.int 15)) aNil)))) (gN 5)) (sSeq (sIf (tVal (eBin wNe (eCall 2 f_learned [] (aCons (eVar 4) (aCons (eVar 5) aNil))) (eCall 2 f__law_least [] (aCons (eCallB m_sum (aCons (eVar 5) aNil)) (aCons (eCallB m_sum (aCons (eVar 4) aNil)) aNil))))) (sRet (eC (.bl false))) sNil) (sSeq (sAsg (eLc false [16] (iR1 (aCons (eBin (wAdd false) (eC (.int 1)) (eCall 2 (n__law_roll 4) [] (aCons (eVar 1) (aCons (eC (.int 7)) aNil)))) aNil)) (gN 16) tYesx (eCall 2 (n__law_roll 4) [] (aCons (eVar 1) (aCons (eC (.int 6)) aNil)))) (gN 6)) (sSeq (sAsg (eCallB m_max1 (aCons (eLc false [17] (iSeq (eVar 6)) (gN 17) tYesx (eLM l_count (eVar 6) (aCons (eVar 17) aNil))) aNil)) (gN 7)) (sSeq (sAsg (eLc false [17] (iSeq (eVar 6)) (gN 17) (tVal (eBin wEq (eLM l_count (eVar 6) (aCons (eVar 17) aNil)) (eVar 7))) (eVar 17)) (gN 8)) (sSeq (sIf (tOrx (tVal (eBin wNe (eCall 1 f_agreed [] (aCons (eVar 6) aNil)) (eTup (aCons (eCallB m_min1 (aCons (eVar 8) aNil)) (aCons (eCallB m_max1 (aCons (eVar 8) aNil)) aNil))))) (tVal (eBin wNe (eCall 2 f_least [] (aCons (eVar 2) (aCons (eC (.int 12)) aNil))) (eCall 2 f__law_least [] (aCons (eVar 2) (aCons (eC (.int 12)) aNil)))))) (sRet (eC (.bl false))) sNil) (sIf (tVal (eBin wNe (eCall 2 f_least [] (aCons (eUn wNeg (eVar 2)) (aCons (eC (.int 12)) aNil))) (eCall 2 f__law_least [] (aCons (eUn wNeg (eVar 2)) (aCons (eC (.int 12)) aNil))))) (sRet (eC (.bl false))) sNil))))))))))))))))))))))))) (sRet (ePad (eCall 0 f__law_plain [] aNil))))
def f_law : List W → HS → R W := bodyM 21 b_law
end K03
end

/-! Ka01 -/
section
set_option Elab.async false
set_option linter.all false
set_option maxRecDepth 100000
set_option maxHeartbeats 4000000
namespace K03
open PySem PySem.Spec L2 Pk
section
variable {Γ : Pk.Γ} {P : Program} {w : World} {mg : Str → Option Value} {base : Heap}
theorem B_least (T : Fx Γ P w mg base) : Binds Γ.K T.d_least ["top", "bottom"] [] := T.F_least.bindsN fun _ _ _ _ _ _ us hl => match us, hl with | [_, _], _ => rfl
theorem ok_least (T : Fx Γ P w mg base) : FnOk P w Γ.K mg base (L2.CX P w) 1 T.a_least T.d_least ["top", "bottom"] (spM Γ 2 f_least) :=
  fnD_ok T.F_least sc_least rfl (fun cdv A outer s H E hr tk => (s_cons (s_par (hl := hlt2 rfl rfl) 2 3 rfl sc_least.nd (a_cons (e_callB (c_abs) (by rfl) T.z_abs (by decide +kernel) (a_cons (e_var 0) a_nil)) (a_cons (e_var 1) a_nil))) (s_cons (s_while (passes_of rfl) (t_cmp (o_ne rfl (hu64 hr)) (e_var 3) e_int) (s_one (s_par (hl := hlt2 rfl rfl) 2 3 rfl sc_least.nd (a_cons (e_var 3) (a_cons (e_bin o_mod (e_var 2) (e_var 3)) a_nil))))) (s_one (s_ret (e_tup (a_cons (e_bin o_div (e_var 0) (e_var 2)) (a_cons (e_bin o_div (e_var 1) (e_var 2)) a_nil))))))))
end
end K03
end

/-! Ka02 -/
section
set_option Elab.async false
set_option linter.all false
set_option maxRecDepth 100000
set_option maxHeartbeats 4000000
namespace K03
open PySem PySem.Spec L2 Pk
section
variable {Γ : Pk.Γ} {P : Program} {w : World} {mg : Str → Option Value} {base : Heap}
theorem B_check_guess (T : Fx Γ P w mg base) : Binds Γ.K T.d_check_guess ["guess"] [] := T.F_check_guess.bindsN fun _ _ _ _ _ _ us hl => match us, hl with | [_], _ => rfl
theorem ok_check_guess (T : Fx Γ P w mg base) : FnOk P w Γ.K mg base (L2.CX P w) 1 T.a_check_guess T.d_check_guess ["guess"] (spM Γ 1 f_check_guess) :=
  fnD_ok T.F_check_guess sc_check_guess rfl (fun cdv A outer s H E hr tk => (s_one (s_if (PW.pt (t_orC (t_cmp (o_ne rfl (hu64 hr)) (e_callB (c_len rfl) (by rfl) T.z_len (by decide +kernel) (a_cons (e_var 0) a_nil)) e_int) (t_or1 (t_not (t_chain3 o_le o_le o_le e_int (e_ix rfl (hu1 hr) (e_var 0) e_int) (e_ix rfl (hu1 hr) (e_var 0) e_int) (e_ix rfl (hu1 hr) (e_var 0) e_int)))))) (s_one (s_raiseX rfl rfl tk T.x_GuessError)) s_nil)))
end
end K03
end

/-! Ka03 -/
section
set_option Elab.async false
set_option linter.all false
set_option maxRecDepth 100000
set_option maxHeartbeats 4000000
namespace K03
open PySem PySem.Spec L2 Pk
section
variable {Γ : Pk.Γ} {P : Program} {w : World} {mg : Str → Option Value} {base : Heap}
theorem B_mean_of (T : Fx Γ P w mg base) : Binds Γ.K T.d_mean_of ["guess"] [] := T.F_mean_of.bindsN fun _ _ _ _ _ _ us hl => match us, hl with | [_], _ => rfl
theorem ok_mean_of (T : Fx Γ P w mg base) : FnOk P w Γ.K mg base (L2.CX P w) 2 T.a_mean_of T.d_mean_of ["guess"] (spM Γ 1 f_mean_of) :=
  fnD_ok T.F_mean_of sc_mean_of rfl (fun cdv A outer s H E hr tk => (s_cons (s_expr (e_call (ok_check_guess T) (hr.mono (by omega)) T.G_check_guess T.F_check_guess.kp (B_check_guess T) .nil (fun _ => .nil) tk (a_cons (e_var 0) a_nil))) (s_one (s_ret (e_call (ok_least T) (hr.mono (by omega)) T.G_least T.F_least.kp (B_least T) .nil (fun _ => .nil) tk (a_cons (e_bin (o_add false rfl) (e_bin (o_add false rfl) (e_ix rfl (hu1 hr) (e_var 0) e_int) (e_bin (o_mul false rfl) e_int (e_ix rfl (hu1 hr) (e_var 0) e_int))) (e_ix rfl (hu1 hr) (e_var 0) e_int)) (a_cons e_int a_nil)))))))
end
end K03
end

/-! Ka04 -/
section
set_option Elab.async false
set_option linter.all false
set_option maxRecDepth 100000
set_option maxHeartbeats 4000000
namespace K03
open PySem PySem.Spec L2 Pk
section
variable {Γ : Pk.Γ} {P : Program} {w : World} {mg : Str → Option Value} {base : Heap}
theorem B_spread_of (T : Fx Γ P w mg base) : Binds Γ.K T.d_spread_of ["guess"] [] := T.F_spread_of.bindsN fun _ _ _ _ _ _ us hl => match us, hl with | [_], _ => rfl
theorem ok_spread_of (T : Fx Γ P w mg base) : FnOk P w Γ.K mg base (L2.CX P w) 2 T.a_spread_of T.d_spread_of ["guess"] (spM Γ 1 f_spread_of) :=
  fnD_ok T.F_spread_of sc_spread_of rfl (fun cdv A outer s H E hr tk => (s_cons (s_expr (e_call (ok_check_guess T) (hr.mono (by omega)) T.G_check_guess T.F_check_guess.kp (B_check_guess T) .nil (fun _ => .nil) tk (a_cons (e_var 0) a_nil))) (s_one (s_ret (e_call (ok_least T) (hr.mono (by omega)) T.G_least T.F_least.kp (B_least T) .nil (fun _ => .nil) tk (a_cons (e_bin (o_mul false rfl) (e_bin o_sub (e_ix rfl (hu1 hr) (e_var 0) e_int) (e_ix rfl (hu1 hr) (e_var 0) e_int)) (e_bin o_sub (e_ix rfl (hu1 hr) (e_var 0) e_int) (e_ix rfl (hu1 hr) (e_var 0) e_int))) (a_cons e_int a_nil)))))))
end
end K03
end

/-! Ka05 -/
section
set_option Elab.async false
set_option linter.all false
set_option maxRecDepth 100000
set_option maxHeartbeats 4000000
namespace K03
open PySem PySem.Spec L2 Pk
section
variable {Γ : Pk.Γ} {P : Program} {w : World} {mg : Str → Option Value} {base : Heap}
theorem B_sum_of (T : Fx Γ P w mg base) : Binds Γ.K T.d_sum_of ["guesses"] [] := T.F_sum_of.bindsN fun _ _ _ _ _ _ us hl => match us, hl with | [_], _ => rfl
theorem ok_sum_of (T : Fx Γ P w mg base) : FnOk P w Γ.K mg base (L2.CX P w) 2 T.a_sum_of T.d_sum_of ["guesses"] (spM Γ 1 f_sum_of) :=
  fnD_ok T.F_sum_of sc_sum_of rfl (fun cdv A outer s H E hr tk => (s_cons (s_asg (e_tup (a_cons e_int (a_cons e_int a_nil))) (g_tup (n := 2) rfl rfl (gs_cons (g_name (hl := hlt rfl) 2 sc_sum_of.nd) (gs_cons (g_name (hl := hlt rfl) 3 sc_sum_of.nd) gs_nil)) gl2)) (s_cons (s_for (passes_of rfl) rfl (i_seq rfl (e_var 0)) (g_name (hl := hlt rfl) 1 sc_sum_of.nd) (s_cons (s_expr (e_call (ok_check_guess T) (hr.mono (by omega)) T.G_check_guess T.F_check_guess.kp (B_check_guess T) .nil (fun _ => .nil) tk (a_cons (e_var 1) a_nil))) (s_cons (s_aug (hl := hlt rfl) 2 sc_sum_of.nd ip_add (fun _ _ _ => rfl) (e_bin (o_add false rfl) (e_bin (o_add false rfl) (e_ix rfl (hu1 hr) (e_var 1) e_int) (e_bin (o_mul false rfl) e_int (e_ix rfl (hu1 hr) (e_var 1) e_int))) (e_ix rfl (hu1 hr) (e_var 1) e_int))) (s_one (s_aug (hl := hlt rfl) 3 sc_sum_of.nd ip_add (fun _ _ _ => rfl) (e_bin (o_mul false rfl) (e_bin o_sub (e_ix rfl (hu1 hr) (e_var 1) e_int) (e_ix rfl (hu1 hr) (e_var 1) e_int)) (e_bin o_sub (e_ix rfl (hu1 hr) (e_var 1) e_int) (e_ix rfl (hu1 hr) (e_var 1) e_int)))))))) (s_one (s_ret (e_tup (a_cons (e_call (ok_least T) (hr.mono (by omega)) T.G_least T.F_least.kp (B_least T) .nil (fun _ => .nil) tk (a_cons (e_var 2) (a_cons e_int a_nil))) (a_cons (e_call (ok_least T) (hr.mono (by omega)) T.G_least T.F_least.kp (B_least T) .nil (fun _ => .nil) tk (a_cons (e_var 3) (a_cons e_int a_nil))) a_nil))))))))
end
end K03
end

/-! Ka06 -/
section
set_option Elab.async false
set_option linter.all false
set_option maxRecDepth 100000
set_option maxHeartbeats 4000000
namespace K03
open PySem PySem.Spec L2 Pk
section
variable {Γ : Pk.Γ} {P : Program} {w : World} {mg : Str → Option Value} {base : Heap}
theorem B_chances (T : Fx Γ P w mg base) : Binds Γ.K T.d_chances ["guess"] [] := T.F_chances.bindsN fun _ _ _ _ _ _ us hl => match us, hl with | [_], _ => rfl
theorem ok_chances (T : Fx Γ P w mg base) : FnOk P w Γ.K mg base (L2.CX P w) 2 T.a_chances T.d_chances ["guess"] (spM Γ 1 f_chances) :=
  fnD_ok T.F_chances sc_chances rfl (fun cdv A outer s H E hr tk => (s_cons (s_expr (e_call (ok_check_guess T) (hr.mono (by omega)) T.G_check_guess T.F_check_guess.kp (B_check_guess T) .nil (fun _ => .nil) tk (a_cons (e_var 0) a_nil))) (s_cons (s_asg (e_var 0) (g_tup (n := 3) rfl rfl (gs_cons (g_name (hl := hlt rfl) 3 sc_chances.nd) (gs_cons (g_name (hl := hlt rfl) 4 sc_chances.nd) (gs_cons (g_name (hl := hlt rfl) 5 sc_chances.nd) gs_nil))) gl3)) (s_cons (s_if (t_cmp o_gt (e_bin o_sub (e_var 5) (e_var 3)) e_int) (s_one (s_raiseX rfl rfl tk T.x_GuessError)) s_nil) (s_cons (s_set (hl := hlt rfl) 1 sc_chances.nd (e_dnew true)) (s_cons (s_for (passes_of rfl) rfl (i_r2 (by rfl) T.z_range (a_cons (e_var 3) (a_cons (e_bin (o_add false rfl) (e_var 5) e_int) a_nil))) (g_name (hl := hlt rfl) 2 sc_chances.nd) (s_one (s_sub (hu1 hr) (e_if (t_cmp o_le (e_var 2) (e_var 4)) (e_bin (o_mul false rfl) (e_bin (o_add false rfl) (e_bin o_sub (e_var 2) (e_var 3)) e_int) (e_bin (o_add false rfl) (e_bin o_sub (e_var 5) (e_var 4)) e_int)) (e_bin (o_mul false rfl) (e_bin (o_add false rfl) (e_bin o_sub (e_var 5) (e_var 2)) e_int) (e_bin (o_add false rfl) (e_bin o_sub (e_var 4) (e_var 3)) e_int))) (e_var 1) (e_var 2)))) (s_one (s_ret (e_var 1)))))))))
end
end K03
end

/-! Ka07 -/
section
set_option Elab.async false
set_option linter.all false
set_option maxRecDepth 100000
set_option maxHeartbeats 4000000
namespace K03
open PySem PySem.Spec L2 Pk
section
variable {Γ : Pk.Γ} {P : Program} {w : World} {mg : Str → Option Value} {base : Heap}
theorem B_chance_by (T : Fx Γ P w mg base) : Binds Γ.K T.d_chance_by ["guess", "day"] [] := T.F_chance_by.bindsN fun _ _ _ _ _ _ us hl => match us, hl with | [_, _], _ => rfl
theorem ok_chance_by (T : Fx Γ P w mg base) : FnOk P w Γ.K mg base (L2.CX P w) 4 T.a_chance_by T.d_chance_by ["guess", "day"] (spM Γ 2 f_chance_by) :=
  fnC_ok T.F_chance_by T.g_chance_by.code sc_chance_by rfl (fun A outer s H E hr tk => (s_cons (s_set (hl := hlt rfl) 2 sc_chance_by.nd (e_call (ok_chances T) (hr.mono (by omega)) T.G_chances T.F_chances.kp (B_chances T) .nil (fun _ => .nil) tk (a_cons (e_var 0) a_nil))) (s_one (s_ret (e_call (ok_least T) (hr.mono (by omega)) T.G_least T.F_least.kp (B_least T) .nil (fun _ => .nil) tk (a_cons (e_sumG (own := [("one", 3), ("many", 4)]) (T.g_chance_by.has (k := 2) hr (by omega) rfl rfl rfl rfl) sc_chance_by.nd T.z_sum (genB_by (by kernel_rfl)) (i_items (e_var 2)) (fun _ _ _ _ _ _ hr => (g_tup (n := 2) rfl rfl (gs_cons (g_name (hl := hlt rfl) 3 sc_chance_by.nd) (gs_cons (g_name (hl := hlt rfl) 4 sc_chance_by.nd) gs_nil)) gl2)) (fun _ _ _ _ _ _ hr => (t_ifs (t_cmp o_le (e_var 3) (e_var 1)))) (fun _ _ _ _ _ _ hr => (e_var 4))) (a_cons (e_vals i_sum rfl (by decide +kernel) T.z_sum (e_var 2)) a_nil)))))))
end
end K03
end

/-! Ka08 -/
section
set_option Elab.async false
set_option linter.all false
set_option maxRecDepth 100000
set_option maxHeartbeats 4000000
namespace K03
open PySem PySem.Spec L2 Pk
section
variable {Γ : Pk.Γ} {P : Program} {w : World} {mg : Str → Option Value} {base : Heap}
theorem B_day_for (T : Fx Γ P w mg base) : Binds Γ.K T.d_day_for ["guess", "part"] [] := T.F_day_for.bindsN fun _ _ _ _ _ _ us hl => match us, hl with | [_, _], _ => rfl
theorem ok_day_for (T : Fx Γ P w mg base) : FnOk P w Γ.K mg base (L2.CX P w) 3 T.a_day_for T.d_day_for ["guess", "part"] (spM Γ 2 f_day_for) :=
  fnD_ok T.F_day_for sc_day_for rfl (fun cdv A outer s H E hr tk => (s_cons (s_if (t_not (t_chain o_le o_le e_int (e_var 1) e_int)) (s_one (s_raiseX rfl rfl tk T.x_GuessError)) s_nil) (s_cons (s_set (hl := hlt rfl) 2 sc_day_for.nd (e_call (ok_chances T) (hr.mono (by omega)) T.G_chances T.F_chances.kp (B_chances T) .nil (fun _ => .nil) tk (a_cons (e_var 0) a_nil))) (s_cons (s_par (hl := hlt2 rfl rfl) 3 4 rfl sc_day_for.nd (a_cons (e_vals i_sum rfl (by decide +kernel) T.z_sum (e_var 2)) (a_cons e_int a_nil))) (s_cons (s_for (passes_of rfl) rfl (i_items (e_var 2)) (g_tup (n := 2) rfl rfl (gs_cons (g_name (hl := hlt rfl) 5 sc_day_for.nd) (gs_cons (g_name (hl := hlt rfl) 6 sc_day_for.nd) gs_nil)) gl2) (s_cons (s_aug (hl := hlt rfl) 4 sc_day_for.nd ip_add (fun _ _ _ => rfl) (e_var 6)) (s_one (s_if (t_cmp o_ge (e_bin (o_mul false rfl) e_int (e_var 4)) (e_bin (o_mul false rfl) (e_var 1) (e_var 3))) (s_one (s_ret (e_var 5))) s_nil)))) (s_one (s_raiseX rfl rfl tk T.x_GuessError)))))))
end
end K03
end

/-! Ka09 -/
section
set_option Elab.async false
set_option linter.all false
set_option maxRecDepth 100000
set_option maxHeartbeats 4000000
namespace K03
open PySem PySem.Spec L2 Pk
section
variable {Γ : Pk.Γ} {P : Program} {w : World} {mg : Str → Option Value} {base : Heap}
theorem B_together (T : Fx Γ P w mg base) : Binds Γ.K T.d_together ["guesses"] [] := T.F_together.bindsN fun _ _ _ _ _ _ us hl => match us, hl with | [_], _ => rfl
theorem ok_together (T : Fx Γ P w mg base) : FnOk P w Γ.K mg base (L2.CX P w) 3 T.a_together T.d_together ["guesses"] (spM Γ 1 f_together) :=
  fnD_ok T.F_together sc_together rfl (fun cdv A outer s H E hr tk => (s_cons (s_set (hl := hlt rfl) 1 sc_together.nd (e_disp (h15 := Nat.le_of_ble_eq_true rfl) false (.cons e_int e_int .nil))) (s_cons (s_for (passes_of rfl) rfl (i_seq rfl (e_var 0)) (g_name (hl := hlt rfl) 2 sc_together.nd) (s_cons (s_par (hl := hlt2 rfl rfl) 5 6 rfl sc_together.nd (a_cons (e_call (ok_chances T) (hr.mono (by omega)) T.G_chances T.F_chances.kp (B_chances T) .nil (fun _ => .nil) tk (a_cons (e_var 2) a_nil)) (a_cons (e_dnew true) a_nil))) (s_cons (s_for (passes_of rfl) rfl (i_items (e_var 1)) (g_tup (n := 2) rfl rfl (gs_cons (g_name (hl := hlt rfl) 7 sc_together.nd) (gs_cons (g_name (hl := hlt rfl) 4 sc_together.nd) gs_nil)) gl2) (s_one (s_for (passes_of rfl) rfl (i_items (e_var 5)) (g_tup (n := 2) rfl rfl (gs_cons (g_name (hl := hlt rfl) 10 sc_together.nd) (gs_cons (g_name (hl := hlt rfl) 11 sc_together.nd) gs_nil)) gl2) (s_one (s_sub (hu1 hr) (e_bin (o_add false rfl) (e_get2 (hu1 hr) (e_var 6) (e_bin (o_add false rfl) (e_var 7) (e_var 10)) e_int ⟨rfl, rfl, rfl, rfl⟩) (e_bin (o_mul false rfl) (e_var 4) (e_var 11))) (e_var 6) (e_bin (o_add false rfl) (e_var 7) (e_var 10))))))) (s_cons (s_if (t_cmp o_gt (e_callB (c_len rfl) (by rfl) T.z_len (by decide +kernel) (a_cons (e_var 6) a_nil)) e_int) (s_one (s_raiseX rfl rfl tk T.x_GuessError)) s_nil) (s_one (s_set (hl := hlt rfl) 1 sc_together.nd (e_var 6))))))) (s_cons (s_set (hl := hlt rfl) 3 sc_together.nd e_int) (s_cons (s_for (passes_of rfl) rfl (i_vals (e_var 1)) (g_name (hl := hlt rfl) 4 sc_together.nd) (s_cons (s_par (hl := hlt2 rfl rfl) 8 9 rfl sc_together.nd (a_cons (e_var 3) (a_cons (e_var 4) a_nil))) (s_cons (s_while (passes_of rfl) (t_cmp (o_ne rfl (hu64 hr)) (e_var 9) e_int) (s_one (s_par (hl := hlt2 rfl rfl) 8 9 rfl sc_together.nd (a_cons (e_var 9) (a_cons (e_bin o_mod (e_var 8) (e_var 9)) a_nil))))) (s_one (s_set (hl := hlt rfl) 3 sc_together.nd (e_var 8)))))) (s_one (s_ret (e_dc (own := [("day", 7)]) false rfl sc_together.nd (i_seq rfl (e_callB (c_sorted false rfl rfl) (by rfl) T.z_sorted (by decide +kernel) (a_cons (e_var 1) a_nil))) (blkOk_by (by kernel_rfl)) (fun _ _ _ _ _ => (g_name (hl := hlt rfl) 7 sc_together.nd)) (fun _ _ _ _ _ => t_yes) (fun _ _ _ _ _ => (e_var 7)) (fun _ _ _ _ _ => (e_bin o_div (e_ix rfl (hu1 hr) (e_var 1) (e_var 7)) (e_var 3)))))))))))
end
end K03
end

/-! Ka10 -/
section
set_option Elab.async false
set_option linter.all false
set_option maxRecDepth 100000
set_option maxHeartbeats 4000000
namespace K03
open PySem PySem.Spec L2 Pk
section
variable {Γ : Pk.Γ} {P : Program} {w : World} {mg : Str → Option Value} {base : Heap}
theorem B_later_of (T : Fx Γ P w mg base) : Binds Γ.K T.d_later_of ["guesses"] [] := T.F_later_of.bindsN fun _ _ _ _ _ _ us hl => match us, hl with | [_], _ => rfl
theorem ok_later_of (T : Fx Γ P w mg base) : FnOk P w Γ.K mg base (L2.CX P w) 3 T.a_later_of T.d_later_of ["guesses"] (spM Γ 1 f_later_of) :=
  fnD_ok T.F_later_of sc_later_of rfl (fun cdv A outer s H E hr tk => (s_cons (s_set (hl := hlt rfl) 1 sc_later_of.nd (e_disp (h15 := Nat.le_of_ble_eq_true rfl) false (.cons e_int e_int .nil))) (s_cons (s_for (passes_of rfl) rfl (i_seq rfl (e_var 0)) (g_name (hl := hlt rfl) 2 sc_later_of.nd) (s_cons (s_par (hl := hlt2 rfl rfl) 5 6 rfl sc_later_of.nd (a_cons (e_call (ok_chances T) (hr.mono (by omega)) T.G_chances T.F_chances.kp (B_chances T) .nil (fun _ => .nil) tk (a_cons (e_var 2) a_nil)) (a_cons (e_dnew true) a_nil))) (s_cons (s_for (passes_of rfl) rfl (i_items (e_var 1)) (g_tup (n := 2) rfl rfl (gs_cons (g_name (hl := hlt rfl) 7 sc_later_of.nd) (gs_cons (g_name (hl := hlt rfl) 4 sc_later_of.nd) gs_nil)) gl2) (s_one (s_for (passes_of rfl) rfl (i_items (e_var 5)) (g_tup (n := 2) rfl rfl (gs_cons (g_name (hl := hlt rfl) 10 sc_later_of.nd) (gs_cons (g_name (hl := hlt rfl) 11 sc_later_of.nd) gs_nil)) gl2) (s_cons (s_set (hl := hlt rfl) 12 sc_later_of.nd (e_callB (c_max2 rfl) (by rfl) T.z_max (by decide +kernel) (a_cons (e_var 7) (a_cons (e_var 10) a_nil)))) (s_one (s_sub (hu1 hr) (e_bin (o_add false rfl) (e_get2 (hu1 hr) (e_var 6) (e_var 12) e_int ⟨rfl, rfl, rfl, rfl⟩) (e_bin (o_mul false rfl) (e_var 4) (e_var 11))) (e_var 6) (e_var 12))))))) (s_one (s_set (hl := hlt rfl) 1 sc_later_of.nd (e_var 6)))))) (s_cons (s_set (hl := hlt rfl) 3 sc_later_of.nd e_int) (s_cons (s_for (passes_of rfl) rfl (i_vals (e_var 1)) (g_name (hl := hlt rfl) 4 sc_later_of.nd) (s_cons (s_par (hl := hlt2 rfl rfl) 8 9 rfl sc_later_of.nd (a_cons (e_var 3) (a_cons (e_var 4) a_nil))) (s_cons (s_while (passes_of rfl) (t_cmp (o_ne rfl (hu64 hr)) (e_var 9) e_int) (s_one (s_par (hl := hlt2 rfl rfl) 8 9 rfl sc_later_of.nd (a_cons (e_var 9) (a_cons (e_bin o_mod (e_var 8) (e_var 9)) a_nil))))) (s_one (s_set (hl := hlt rfl) 3 sc_later_of.nd (e_var 8)))))) (s_one (s_ret (e_dc (own := [("day", 7)]) false rfl sc_later_of.nd (i_seq rfl (e_callB (c_sorted false rfl rfl) (by rfl) T.z_sorted (by decide +kernel) (a_cons (e_var 1) a_nil))) (blkOk_by (by kernel_rfl)) (fun _ _ _ _ _ => (g_name (hl := hlt rfl) 7 sc_later_of.nd)) (fun _ _ _ _ _ => t_yes) (fun _ _ _ _ _ => (e_var 7)) (fun _ _ _ _ _ => (e_bin o_div (e_ix rfl (hu1 hr) (e_var 1) (e_var 7)) (e_var 3)))))))))))
end
end K03
end

/-! Ka11 -/
section
set_option Elab.async false
set_option linter.all false
set_option maxRecDepth 100000
set_option maxHeartbeats 4000000
namespace K03
open PySem PySem.Spec L2 Pk
section
variable {Γ : Pk.Γ} {P : Program} {w : World} {mg : Str → Option Value} {base : Heap}
theorem B_mean_in (T : Fx Γ P w mg base) : Binds Γ.K T.d_mean_in ["table"] [] := T.F_mean_in.bindsN fun _ _ _ _ _ _ us hl => match us, hl with | [_], _ => rfl
theorem ok_mean_in (T : Fx Γ P w mg base) : FnOk P w Γ.K mg base (L2.CX P w) 3 T.a_mean_in T.d_mean_in ["table"] (spM Γ 1 f_mean_in) :=
  fnC_ok T.F_mean_in T.g_mean_in.code sc_mean_in rfl (fun A outer s H E hr tk => (s_cons (s_if (PW.pt (t_orC (t_cmp (o_eq2 (o_eq rfl (hu64 hr)) (Nat.lt_of_succ_lt (hu1 hr))) (e_var 0) (e_dnew false)) (t_or1 (t_cmp o_lt (e_vals i_min rfl (by decide +kernel) T.z_min (e_var 0)) e_int)))) (s_one (s_raiseX rfl rfl tk T.x_GuessError)) s_nil) (s_one (s_ret (e_call (ok_least T) (hr.mono (by omega)) T.G_least T.F_least.kp (B_least T) .nil (fun _ => .nil) tk (a_cons (e_sumG (own := [("day", 1), ("many", 2)]) (T.g_mean_in.has (k := 1) hr (by omega) rfl rfl rfl rfl) sc_mean_in.nd T.z_sum (genB_by (by kernel_rfl)) (i_items (e_var 0)) (fun _ _ _ _ _ _ hr => (g_tup (n := 2) rfl rfl (gs_cons (g_name (hl := hlt rfl) 1 sc_mean_in.nd) (gs_cons (g_name (hl := hlt rfl) 2 sc_mean_in.nd) gs_nil)) gl2)) (fun _ _ _ _ _ _ hr => t_yes) (fun _ _ _ _ _ _ hr => (e_bin (o_mul false rfl) (e_var 1) (e_var 2)))) (a_cons (e_vals i_sum rfl (by decide +kernel) T.z_sum (e_var 0)) a_nil)))))))
end
end K03
end

/-! Ka12 -/
section
set_option Elab.async false
set_option linter.all false
set_option maxRecDepth 100000
set_option maxHeartbeats 4000000
namespace K03
open PySem PySem.Spec L2 Pk
section
variable {Γ : Pk.Γ} {P : Program} {w : World} {mg : Str → Option Value} {base : Heap}
theorem B_learned (T : Fx Γ P w mg base) : Binds Γ.K T.d_learned ["told", "took"] [] := T.F_learned.bindsN fun _ _ _ _ _ _ us hl => match us, hl with | [_, _], _ => rfl
theorem ok_learned (T : Fx Γ P w mg base) : FnOk P w Γ.K mg base (L2.CX P w) 2 T.a_learned T.d_learned ["told", "took"] (spM Γ 2 f_learned) :=
  fnD_ok T.F_learned sc_learned rfl (fun cdv A outer s H E hr tk => (s_cons (s_if (PW.pt (t_orC (t_cmp (o_ne rfl (hu64 hr)) (e_callB (c_len rfl) (by rfl) T.z_len (by decide +kernel) (a_cons (e_var 0) a_nil)) (e_callB (c_len rfl) (by rfl) T.z_len (by decide +kernel) (a_cons (e_var 1) a_nil))) (t_orC (t_cmp (o_eq rfl (hu64 hr)) (e_callB (c_len rfl) (by rfl) T.z_len (by decide +kernel) (a_cons (e_var 0) a_nil)) e_int) (t_orC (t_cmp o_lt (e_callB (c_sum rfl rfl) (by rfl) T.z_sum (by decide +kernel) (a_cons (e_var 0) a_nil)) e_int) (t_or1 (t_cmp o_lt (e_callB (c_min1 rfl rfl) (by rfl) T.z_min (by decide +kernel) (a_cons (e_bin (o_add false rfl) (e_callTy (c_list false rfl rfl) (by rfl) T.z_list (by decide +kernel) (a_cons (e_var 0) a_nil)) (e_callTy (c_list false rfl rfl) (by rfl) T.z_list (by decide +kernel) (a_cons (e_var 1) a_nil))) a_nil)) e_int)))))) (s_one (s_raiseX rfl rfl tk T.x_GuessError)) s_nil) (s_one (s_ret (e_call (ok_least T) (hr.mono (by omega)) T.G_least T.F_least.kp (B_least T) .nil (fun _ => .nil) tk (a_cons (e_callB (c_sum rfl rfl) (by rfl) T.z_sum (by decide +kernel) (a_cons (e_var 1) a_nil)) (a_cons (e_callB (c_sum rfl rfl) (by rfl) T.z_sum (by decide +kernel) (a_cons (e_var 0) a_nil)) a_nil)))))))
end
end K03
end

/-! Ka13 -/
section
set_option Elab.async false
set_option linter.all false
set_option maxRecDepth 100000
set_option maxHeartbeats 4000000
namespace K03
open PySem PySem.Spec L2 Pk
section
variable {Γ : Pk.Γ} {P : Program} {w : World} {mg : Str → Option Value} {base : Heap}
theorem B_agreed (T : Fx Γ P w mg base) : Binds Γ.K T.d_agreed ["rows"] [] := T.F_agreed.bindsN fun _ _ _ _ _ _ us hl => match us, hl with | [_], _ => rfl
theorem ok_agreed (T : Fx Γ P w mg base) : FnOk P w Γ.K mg base (L2.CX P w) 1 T.a_agreed T.d_agreed ["rows"] (spM Γ 1 f_agreed) :=
  fnD_ok T.F_agreed sc_agreed rfl (fun cdv A outer s H E hr tk => (s_cons (s_if (t_cmp (o_eq rfl (hu64 hr)) (e_callB (c_len rfl) (by rfl) T.z_len (by decide +kernel) (a_cons (e_var 0) a_nil)) e_int) (s_one (s_raiseX rfl rfl tk T.x_GuessError)) s_nil) (s_cons (s_set (hl := hlt rfl) 1 sc_agreed.nd (e_dnew true)) (s_cons (s_for (passes_of rfl) rfl (i_seq rfl (e_var 0)) (g_name (hl := hlt rfl) 2 sc_agreed.nd) (s_one (s_sub (hu1 hr) (e_bin (o_add false rfl) (e_get2 (hu1 hr) (e_var 1) (e_var 2) e_int ⟨rfl, rfl, rfl, rfl⟩) e_int) (e_var 1) (e_var 2)))) (s_cons (s_setLc (hl := hlt rfl) (own := [("number", 2)]) false 3 rfl sc_agreed.nd (i_keys (e_var 1)) (blkOk_by (by kernel_rfl)) (fun _ _ _ _ _ => (g_name (hl := hlt rfl) 2 sc_agreed.nd)) (fun _ _ _ _ _ => (t_ifs (t_cmp (o_eq rfl (hu64 hr)) (e_ix rfl (hu1 hr) (e_var 1) (e_var 2)) (e_vals i_max rfl (by decide +kernel) T.z_max (e_var 1))))) (fun _ _ _ _ _ => (e_var 2))) (s_one (s_ret (e_tup (a_cons (e_callB (c_min1 rfl rfl) (by rfl) T.z_min (by decide +kernel) (a_cons (e_var 3) a_nil)) (a_cons (e_callB (c_max1 rfl rfl) (by rfl) T.z_max (by decide +kernel) (a_cons (e_var 3) a_nil)) a_nil))))))))))
end
end K03
end

/-! Ka15 -/
section
set_option Elab.async false
set_option linter.all false
set_option maxRecDepth 100000
set_option maxHeartbeats 4000000
namespace K03
open PySem PySem.Spec L2 Pk
section
variable {Γ : Pk.Γ} {P : Program} {w : World} {mg : Str → Option Value} {base : Heap}
theorem B__law_roll (T : Fx Γ P w mg base) : Binds Γ.K T.d__law_roll ["dice", "many"] [] := T.F__law_roll.bindsN fun _ _ _ _ _ _ us hl => match us, hl with | [_, _], _ => rfl
theorem ok__law_roll (T : Fx Γ P w mg base) : ∀ r, FnOk P w Γ.K mg base (L2.CX P w) (1 + r) T.a__law_roll T.d__law_roll ["dice", "many"] (spM Γ 2 (n__law_roll r))
  | 0 => fnZ (fun _ _ => rfl) rfl
  | r + 1 => by
    have ih := ok__law_roll T r
    exact fnD_ok T.F__law_roll sc__law_roll rfl (fun cdv A outer s H E hr tk => (s_cons (s_if (PW.pt (t_orC (t_cmp (o_eq rfl (hu64 hr)) (e_ix rfl (hu1 hr) (e_var 0) e_int) e_int) (t_or1 (PW.pt (t_andC (t_cmp (o_eq rfl (hu64 hr)) (e_ix rfl (hu1 hr) (e_var 0) e_int) e_int) (t_and1 (t_cmp o_gt (e_ix rfl (hu1 hr) (e_var 0) e_int) e_int))))))) (s_cons (s_set (hl := hlt rfl) 2 sc__law_roll.nd (e_bin o_mod (e_callTy (c_int) (by rfl) T.z_int (by decide +kernel) (a_cons (e_ix rfl (hu1 hr) (e_var 0) e_int) a_nil)) (e_var 1))) (s_cons (s_sub (hu1 hr) (e_bin o_div (e_ix rfl (hu1 hr) (e_var 0) e_int) (e_var 1)) (e_var 0) e_int) (s_one (s_ret (e_var 2))))) s_nil) (s_cons (s_sub (hu1 hr) e_int (e_var 0) e_int) (s_cons (s_if (t_cmp o_gt (e_var 1) e_int) (s_one (s_ret (e_bin o_mod (e_callTy (c_int) (by rfl) T.z_int (by decide +kernel) (a_cons (e_bin (o_add false rfl) (e_bin (o_mul false rfl) (e_call ih hr T.G__law_roll T.F__law_roll.kp (B__law_roll T) .nil (fun _ => .nil) tk (a_cons (e_var 0) (a_cons (e_bin (o_add false rfl) (e_bin o_div (e_var 1) e_int) e_int) a_nil))) e_int) (e_call ih hr T.G__law_roll T.F__law_roll.kp (B__law_roll T) .nil (fun _ => .nil) tk (a_cons (e_var 0) (a_cons e_int a_nil)))) a_nil)) (e_var 1)))) s_nil) (s_cons (s_sub (hu1 hr) (e_bin o_mod (e_callTy (c_int) (by rfl) T.z_int (by decide +kernel) (a_cons (e_bin (o_add false rfl) (e_bin (o_add false rfl) (e_bin (o_mul false rfl) (e_ix rfl (hu1 hr) (e_var 0) e_int) e_int) (e_bin (o_mul false rfl) (e_ix rfl (hu1 hr) (e_var 0) e_int) e_int)) e_int) a_nil)) e_int) (e_var 0) e_int) (s_cons (s_sub (hu1 hr) (e_bin (o_add false rfl) (e_ix rfl (hu1 hr) (e_var 0) e_int) e_int) (e_var 0) e_int) (s_one (s_ret (e_bin o_mod (e_callTy (c_int) (by rfl) T.z_int (by decide +kernel) (a_cons (e_bin o_div (e_ix rfl (hu1 hr) (e_var 0) e_int) e_int) a_nil)) (e_var 1))))))))))
end
end K03
end

/-! Ka14 -/
section
set_option Elab.async false
set_option linter.all false
set_option maxRecDepth 100000
set_option maxHeartbeats 4000000
namespace K03
open PySem PySem.Spec L2 Pk
section
variable {Γ : Pk.Γ} {P : Program} {w : World} {mg : Str → Option Value} {base : Heap}
theorem B__law_dice (T : Fx Γ P w mg base) : Binds Γ.K T.d__law_dice ["cell"] [] := T.F__law_dice.bindsN fun _ _ _ _ _ _ us hl => match us, hl with | [_], _ => rfl
theorem ok__law_dice (T : Fx Γ P w mg base) : FnOk P w Γ.K mg base (L2.CX P w) 1 T.a__law_dice T.d__law_dice ["cell"] (spM Γ 1 f__law_dice) :=
  fnD_ok T.F__law_dice sc__law_dice rfl (fun cdv A outer s H E hr tk => (s_cons (s_if (t_chain o_lt o_lt (e_bin o_sub e_int e_int) (e_var 0) e_int) (s_one (s_ret (e_lst true (a_cons (e_callB (c_abs) (by rfl) T.z_abs (by decide +kernel) (a_cons (e_var 0) a_nil)) (a_cons e_int (a_cons e_int a_nil)))))) s_nil) (s_one (s_ret (e_lst true (a_cons (e_var 0) (a_cons (e_bin (o_add false rfl) e_int (e_bin o_mod (e_callTy (c_int) (by rfl) T.z_int (by decide +kernel) (a_cons (e_var 0) a_nil)) e_int)) (a_cons (e_callTy (c_int) (by rfl) T.z_int (by decide +kernel) (a_cons (e_cmp o_ge (e_var 0) (e_bin o_pow e_int e_int)) a_nil)) a_nil))))))))
end
end K03
end

/-! Ka16 -/
section
set_option Elab.async false
set_option linter.all false
set_option maxRecDepth 100000
set_option maxHeartbeats 4000000
namespace K03
open PySem PySem.Spec L2 Pk
section
variable {Γ : Pk.Γ} {P : Program} {w : World} {mg : Str → Option Value} {base : Heap}
theorem B__law_rounds (T : Fx Γ P w mg base) : Binds Γ.K T.d__law_rounds ["script", "most"] [] := T.F__law_rounds.bindsN fun _ _ _ _ _ _ us hl => match us, hl with | [_, _], _ => rfl
theorem ok__law_rounds (T : Fx Γ P w mg base) : FnOk P w Γ.K mg base (L2.CX P w) 2 T.a__law_rounds T.d__law_rounds ["script", "most"] (spM Γ 2 f__law_rounds) :=
  fnD_ok T.F__law_rounds sc__law_rounds rfl (fun cdv A outer s H E hr tk => (s_cons (s_set (hl := hlt rfl) 2 sc__law_rounds.nd (e_cut false rfl (e_var 0) p_no (p_some (e_var 1)))) (s_cons (s_if (t_cmp (o_eq rfl (hu64 hr)) (e_var 2) (e_lst false a_nil)) (s_one (s_set (hl := hlt rfl) 2 sc__law_rounds.nd (e_lst false (a_cons e_int a_nil)))) s_nil) (s_one (s_ret (e_lc (own := [("cell", 3)]) false rfl sc__law_rounds.nd (i_seq rfl (e_var 2)) (blkOk_by (by kernel_rfl)) (fun _ _ _ _ _ => (g_name (hl := hlt rfl) 3 sc__law_rounds.nd)) (fun _ _ _ _ _ => t_yes) (fun _ _ _ _ _ => (e_call (ok__law_dice T) (hr.mono (by omega)) T.G__law_dice T.F__law_dice.kp (B__law_dice T) .nil (fun _ => .nil) LamX.takes0 (a_cons (e_var 3) a_nil)))))))))
end
end K03
end

/-! Ka17 -/
section
set_option Elab.async false
set_option linter.all false
set_option maxRecDepth 100000
set_option maxHeartbeats 4000000
namespace K03
open PySem PySem.Spec L2 Pk
section
variable {Γ : Pk.Γ} {P : Program} {w : World} {mg : Str → Option Value} {base : Heap}
theorem B__law_least (T : Fx Γ P w mg base) : Binds Γ.K T.d__law_least ["top", "bottom"] [] := T.F__law_least.bindsN fun _ _ _ _ _ _ us hl => match us, hl with | [_, _], _ => rfl
theorem ok__law_least (T : Fx Γ P w mg base) : FnOk P w Γ.K mg base (L2.CX P w) 1 T.a__law_least T.d__law_least ["top", "bottom"] (spM Γ 2 f__law_least) :=
  fnD_ok T.F__law_least sc__law_least rfl (fun cdv A outer s H E hr tk => (s_cons (s_par (hl := hlt2 rfl rfl) 2 3 rfl sc__law_least.nd (a_cons (e_callB (c_abs) (by rfl) T.z_abs (by decide +kernel) (a_cons (e_var 0) a_nil)) (a_cons (e_var 1) a_nil))) (s_cons (s_while (passes_of rfl) (t_cmp (o_ne rfl (hu64 hr)) (e_var 3) e_int) (s_one (s_par (hl := hlt2 rfl rfl) 2 3 rfl sc__law_least.nd (a_cons (e_var 3) (a_cons (e_bin o_sub (e_var 2) (e_bin (o_mul false rfl) (e_bin o_div (e_var 2) (e_var 3)) (e_var 3))) a_nil))))) (s_one (s_ret (e_tup (a_cons (e_bin o_div (e_var 0) (e_var 2)) (a_cons (e_bin o_div (e_var 1) (e_var 2)) a_nil))))))))
end
end K03
end

/-! Ka18 -/
section
set_option Elab.async false
set_option linter.all false
set_option maxRecDepth 100000
set_option maxHeartbeats 4000000
namespace K03
open PySem PySem.Spec L2 Pk
section
variable {Γ : Pk.Γ} {P : Program} {w : World} {mg : Str → Option Value} {base : Heap}
theorem B__law_guess (T : Fx Γ P w mg base) : Binds Γ.K T.d__law_guess ["dice"] [] := T.F__law_guess.bindsN fun _ _ _ _ _ _ us hl => match us, hl with | [_], _ => rfl
theorem ok__law_guess (T : Fx Γ P w mg base) : FnOk P w Γ.K mg base (L2.CX P w) 6 T.a__law_guess T.d__law_guess ["dice"] (spM Γ 1 f__law_guess) :=
  fnD_ok T.F__law_guess sc__law_guess rfl (fun cdv A outer s H E hr tk => (s_cons (s_set (hl := hlt rfl) 1 sc__law_guess.nd (e_call (ok__law_roll T 4) (hr.mono (by omega)) T.G__law_roll T.F__law_roll.kp (B__law_roll T) .nil (fun _ => .nil) tk (a_cons (e_var 0) (a_cons e_int a_nil)))) (s_cons (s_set (hl := hlt rfl) 2 sc__law_guess.nd (e_bin (o_add false rfl) (e_var 1) (e_call (ok__law_roll T 4) (hr.mono (by omega)) T.G__law_roll T.F__law_roll.kp (B__law_roll T) .nil (fun _ => .nil) tk (a_cons (e_var 0) (a_cons e_int a_nil))))) (s_one (s_ret (e_tup (a_cons (e_var 1) (a_cons (e_var 2) (a_cons (e_bin (o_add false rfl) (e_var 2) (e_call (ok__law_roll T 4) (hr.mono (by omega)) T.G__law_roll T.F__law_roll.kp (B__law_roll T) .nil (fun _ => .nil) tk (a_cons (e_var 0) (a_cons e_int a_nil)))) a_nil)))))))))
end
end K03
end

/-! Ka19 -/
section
set_option Elab.async false
set_option linter.all false
set_option maxRecDepth 100000
set_option maxHeartbeats 4000000
namespace K03
open PySem PySem.Spec L2 Pk
section
variable {Γ : Pk.Γ} {P : Program} {w : World} {mg : Str → Option Value} {base : Heap}
theorem B__law_weights (T : Fx Γ P w mg base) : Binds Γ.K T.d__law_weights ["guess"] [] := T.F__law_weights.bindsN fun _ _ _ _ _ _ us hl => match us, hl with | [_], _ => rfl
theorem ok__law_weights (T : Fx Γ P w mg base) : FnOk P w Γ.K mg base (L2.CX P w) 1 T.a__law_weights T.d__law_weights ["guess"] (spM Γ 1 f__law_weights) :=
  fnD_ok T.F__law_weights sc__law_weights rfl (fun cdv A outer s H E hr tk => (s_cons (s_asg (e_var 0) (g_tup (n := 3) rfl rfl (gs_cons (g_name (hl := hlt rfl) 3 sc__law_weights.nd) (gs_cons (g_name (hl := hlt rfl) 4 sc__law_weights.nd) (gs_cons (g_name (hl := hlt rfl) 5 sc__law_weights.nd) gs_nil))) gl3)) (s_cons (s_set (hl := hlt rfl) 1 sc__law_weights.nd (e_lst false a_nil)) (s_cons (s_for (passes_of rfl) rfl (i_r2 (by rfl) T.z_range (a_cons (e_var 3) (a_cons (e_bin (o_add false rfl) (e_var 5) e_int) a_nil))) (g_name (hl := hlt rfl) 2 sc__law_weights.nd) (s_one (s_set (hl := hlt rfl) 1 sc__law_weights.nd (e_bin (o_add false rfl) (e_var 1) (e_lst false (a_cons (e_tup (a_cons (e_var 2) (a_cons (e_if (t_cmp o_le (e_var 2) (e_var 4)) (e_bin (o_mul false rfl) (e_bin (o_add false rfl) (e_bin o_sub (e_var 2) (e_var 3)) e_int) (e_bin (o_add false rfl) (e_bin o_sub (e_var 5) (e_var 4)) e_int)) (e_bin (o_mul false rfl) (e_bin (o_add false rfl) (e_bin o_sub (e_var 5) (e_var 2)) e_int) (e_bin (o_add false rfl) (e_bin o_sub (e_var 4) (e_var 3)) e_int))) a_nil))) a_nil)))))) (s_one (s_ret (e_var 1)))))))
end
end K03
end

/-! Ka20 -/
section
set_option Elab.async false
set_option linter.all false
set_option maxRecDepth 100000
set_option maxHeartbeats 4000000
namespace K03
open PySem PySem.Spec L2 Pk
section
variable {Γ : Pk.Γ} {P : Program} {w : World} {mg : Str → Option Value} {base : Heap}
theorem B__law_all (T : Fx Γ P w mg base) : Binds Γ.K T.d__law_all ["guesses", "is_sum"] [] := T.F__law_all.bindsN fun _ _ _ _ _ _ us hl => match us, hl with | [_, _], _ => rfl
theorem ok__law_all (T : Fx Γ P w mg base) : FnOk P w Γ.K mg base (L2.CX P w) 2 T.a__law_all T.d__law_all ["guesses", "is_sum"] (spM Γ 2 f__law_all) :=
  fnD_ok T.F__law_all sc__law_all rfl (fun cdv A outer s H E hr tk => (s_cons (s_set (hl := hlt rfl) 2 sc__law_all.nd (e_lst false (a_cons (e_tup (a_cons e_int (a_cons e_int a_nil))) a_nil))) (s_cons (s_for (passes_of rfl) rfl (i_seq rfl (e_var 0)) (g_name (hl := hlt rfl) 3 sc__law_all.nd) (s_cons (s_set (hl := hlt rfl) 5 sc__law_all.nd (e_dnew true)) (s_cons (s_for (passes_of rfl) rfl (i_seq rfl (e_var 2)) (g_tup (n := 2) rfl rfl (gs_cons (g_name (hl := hlt rfl) 6 sc__law_all.nd) (gs_cons (g_name (hl := hlt rfl) 7 sc__law_all.nd) gs_nil)) gl2) (s_one (s_for (passes_of rfl) rfl (i_seq rfl (e_call (ok__law_weights T) (hr.mono (by omega)) T.G__law_weights T.F__law_weights.kp (B__law_weights T) .nil (fun _ => .nil) tk (a_cons (e_var 3) a_nil))) (g_tup (n := 2) rfl rfl (gs_cons (g_name (hl := hlt rfl) 10 sc__law_all.nd) (gs_cons (g_name (hl := hlt rfl) 11 sc__law_all.nd) gs_nil)) gl2) (s_cons (s_set (hl := hlt rfl) 12 sc__law_all.nd (e_if (t_val (e_var 1)) (e_bin (o_add false rfl) (e_var 6) (e_var 10)) (e_callB (c_max2 rfl) (by rfl) T.z_max (by decide +kernel) (a_cons (e_var 6) (a_cons (e_var 10) a_nil))))) (s_one (s_sub (hu1 hr) (e_bin (o_add false rfl) (e_get2 (hu1 hr) (e_var 5) (e_var 12) e_int ⟨rfl, rfl, rfl, rfl⟩) (e_bin (o_mul false rfl) (e_var 7) (e_var 11))) (e_var 5) (e_var 12))))))) (s_one (s_set (hl := hlt rfl) 2 sc__law_all.nd (e_sortItems false rfl (e_var 5) (by rfl) T.z_sorted)))))) (s_cons (s_set (hl := hlt rfl) 4 sc__law_all.nd e_int) (s_cons (s_for (passes_of rfl) rfl (i_seq rfl (e_var 2)) (g_tup (n := 2) rfl rfl (gs_cons (g_name (hl := hlt rfl) 6 sc__law_all.nd) (gs_cons (g_name (hl := hlt rfl) 7 sc__law_all.nd) gs_nil)) gl2) (s_cons (s_par (hl := hlt2 rfl rfl) 8 9 rfl sc__law_all.nd (a_cons (e_var 4) (a_cons (e_var 7) a_nil))) (s_cons (s_while (passes_of rfl) (t_cmp (o_ne rfl (hu64 hr)) (e_var 9) e_int) (s_one (s_par (hl := hlt2 rfl rfl) 8 9 rfl sc__law_all.nd (a_cons (e_var 9) (a_cons (e_bin o_sub (e_var 8) (e_bin (o_mul false rfl) (e_bin o_div (e_var 8) (e_var 9)) (e_var 9))) a_nil))))) (s_one (s_set (hl := hlt rfl) 4 sc__law_all.nd (e_var 8)))))) (s_one (s_ret (e_lc (own := [("day", 6), ("many", 7)]) false rfl sc__law_all.nd (i_seq rfl (e_var 2)) (blkOk_by (by kernel_rfl)) (fun _ _ _ _ _ => (g_tup (n := 2) rfl rfl (gs_cons (g_name (hl := hlt rfl) 6 sc__law_all.nd) (gs_cons (g_name (hl := hlt rfl) 7 sc__law_all.nd) gs_nil)) gl2)) (fun _ _ _ _ _ => t_yes) (fun _ _ _ _ _ => (e_tup (a_cons (e_var 6) (a_cons (e_bin o_div (e_var 7) (e_var 4)) a_nil))))))))))))
end
end K03
end

/-! Ka21 -/
section
set_option Elab.async false
set_option linter.all false
set_option maxRecDepth 100000
set_option maxHeartbeats 4000000
namespace K03
open PySem PySem.Spec L2 Pk
section
variable {Γ : Pk.Γ} {P : Program} {w : World} {mg : Str → Option Value} {base : Heap}
theorem B__law_plain (T : Fx Γ P w mg base) : Binds Γ.K T.d__law_plain [] [] := T.F__law_plain.bindsN fun _ _ _ _ _ _ us hl => match us, hl with | [], _ => rfl
theorem ok__law_plain (T : Fx Γ P w mg base) : FnOk P w Γ.K mg base (L2.CX P w) 7 T.a__law_plain T.d__law_plain [] (spM Γ 0 f__law_plain) :=
  fnC_ok T.F__law_plain T.t__law_plain.code sc__law_plain rfl (fun A outer s H E hr tk => (s_cons (s_set (hl := hlt rfl) 0 sc__law_plain.nd (e_tup (a_cons e_int (a_cons e_int (a_cons e_int a_nil))))) (s_bad (c := T.c__law_plain) (P := T.p__law_plain) (k := 0) (hl := hlt rfl) sc__law_plain.nd (a_lam (T.t__law_plain.has (k := 5) hr (by omega) rfl rfl rfl rfl) (LamX.lamS_by (by kernel_rfl)) rfl (a_lam (T.t__law_plain.has (k := 5) hr (by omega) rfl rfl rfl rfl) (LamX.lamS_by (by kernel_rfl)) rfl (a_lam (T.t__law_plain.has (k := 5) hr (by omega) rfl rfl rfl rfl) (LamX.lamS_by (by kernel_rfl)) rfl (a_lam (T.t__law_plain.has (k := 5) hr (by omega) rfl rfl rfl rfl) (LamX.lamS_by (by kernel_rfl)) rfl (a_lam (T.t__law_plain.has (k := 5) hr (by omega) rfl rfl rfl rfl) (LamX.lamS_by (by kernel_rfl)) rfl (a_lam (T.t__law_plain.has (k := 5) hr (by omega) rfl rfl rfl rfl) (LamX.lamS_by (by kernel_rfl)) rfl (a_lam (T.t__law_plain.has (k := 5) hr (by omega) rfl rfl rfl rfl) (LamX.lamS_by (by kernel_rfl)) rfl (a_lam (T.t__law_plain.has (k := 5) hr (by omega) rfl rfl rfl rfl) (LamX.lamS_by (by kernel_rfl)) rfl (a_lam (T.t__law_plain.has (k := 5) hr (by omega) rfl rfl rfl rfl) (LamX.lamS_by (by kernel_rfl)) rfl (a_lam (T.t__law_plain.has (k := 5) hr (by omega) rfl rfl rfl rfl) (LamX.lamS_by (by kernel_rfl)) rfl (a_lam (T.t__law_plain.has (k := 5) hr (by omega) rfl rfl rfl rfl) (LamX.lamS_by (by kernel_rfl)) rfl (a_lam (T.t__law_plain.has (k := 5) hr (by omega) rfl rfl rfl rfl) (LamX.lamS_by (by kernel_rfl)) rfl (a_lam (T.t__law_plain.has (k := 5) hr (by omega) rfl rfl rfl rfl) (LamX.lamS_by (by kernel_rfl)) rfl (a_lam (T.t__law_plain.has (k := 5) hr (by omega) rfl rfl rfl rfl) (LamX.lamS_by (by kernel_rfl)) rfl (a_lam (T.t__law_plain.has (k := 5) hr (by omega) rfl rfl rfl rfl) (LamX.lamS_by (by kernel_rfl)) rfl (a_lam (T.t__law_plain.has (k := 5) hr (by omega) rfl rfl rfl rfl) (LamX.lamS_by (by kernel_rfl)) rfl (a_lam (T.t__law_plain.has (k := 5) hr (by omega) rfl rfl rfl rfl) (LamX.lamS_by (by kernel_rfl)) rfl (a_lam (T.t__law_plain.has (k := 5) hr (by omega) rfl rfl rfl rfl) (LamX.lamS_by (by kernel_rfl)) rfl (a_lam (T.t__law_plain.has (k := 5) hr (by omega) rfl rfl rfl rfl) (LamX.lamS_by (by kernel_rfl)) rfl (a_lam (T.t__law_plain.has (k := 5) hr (by omega) rfl rfl rfl rfl) (LamX.lamS_by (by kernel_rfl)) rfl a_lam0)))))))))))))))))))) (by decide) (x_cons (x_if (PW.pt (x_or (x_tcmp (o_ne rfl (hu64 hr)) (x_bads (k := 4) (iv := 2) (own := [("f", 2)]) false T.told T.tx (hr.mono (by omega)) rfl sc__law_plain.nd (blkOk_by (by kernel_rfl)) (lam_cons (LamX.lamS_by (by kernel_rfl)) (fun _ _ _ _ _ _ _ hr tk => (e_call (ok_check_guess T) (hr.mono (by omega)) T.G_check_guess T.F_check_guess.kp (B_check_guess T) .nil (fun _ => .nil) tk (a_cons (e_tup (a_cons e_int (a_cons e_int a_nil))) a_nil))) (lam_cons (LamX.lamS_by (by kernel_rfl)) (fun _ _ _ _ _ _ _ hr tk => (e_call (ok_check_guess T) (hr.mono (by omega)) T.G_check_guess T.F_check_guess.kp (B_check_guess T) .nil (fun _ => .nil) tk (a_cons (e_tup (a_cons (e_un u_neg e_int) (a_cons e_int (a_cons e_int a_nil)))) a_nil))) (lam_cons (LamX.lamS_by (by kernel_rfl)) (fun _ _ _ _ _ _ _ hr tk => (e_call (ok_check_guess T) (hr.mono (by omega)) T.G_check_guess T.F_check_guess.kp (B_check_guess T) .nil (fun _ => .nil) tk (a_cons (e_tup (a_cons e_int (a_cons e_int (a_cons e_int a_nil)))) a_nil))) (lam_cons (LamX.lamS_by (by kernel_rfl)) (fun _ _ _ _ _ _ _ hr tk => (e_call (ok_check_guess T) (hr.mono (by omega)) T.G_check_guess T.F_check_guess.kp (B_check_guess T) .nil (fun _ => .nil) tk (a_cons (e_tup (a_cons e_int (a_cons e_int (a_cons e_int a_nil)))) a_nil))) (lam_cons (LamX.lamS_by (by kernel_rfl)) (fun _ _ _ _ _ _ _ hr tk => (e_call (ok_mean_of T) (hr.mono (by omega)) T.G_mean_of T.F_mean_of.kp (B_mean_of T) .nil (fun _ => .nil) tk (a_cons (e_tup (a_cons e_int (a_cons e_int (a_cons e_int a_nil)))) a_nil))) (lam_cons (LamX.lamS_by (by kernel_rfl)) (fun _ _ _ _ _ _ _ hr tk => (e_call (ok_spread_of T) (hr.mono (by omega)) T.G_spread_of T.F_spread_of.kp (B_spread_of T) .nil (fun _ => .nil) tk (a_cons (e_tup (a_cons e_int (a_cons e_int (a_cons e_int a_nil)))) a_nil))) (lam_cons (LamX.lamS_by (by kernel_rfl)) (fun _ _ _ _ _ _ _ hr tk => (e_call (ok_sum_of T) (hr.mono (by omega)) T.G_sum_of T.F_sum_of.kp (B_sum_of T) .nil (fun _ => .nil) tk (a_cons (e_tup (a_cons (e_tup (a_cons e_int (a_cons e_int (a_cons e_int a_nil)))) a_nil)) a_nil))) (lam_cons (LamX.lamS_by (by kernel_rfl)) (fun _ _ _ _ _ _ _ hr tk => (e_call (ok_chances T) (hr.mono (by omega)) T.G_chances T.F_chances.kp (B_chances T) .nil (fun _ => .nil) tk (a_cons (e_tup (a_cons e_int (a_cons e_int (a_cons e_int a_nil)))) a_nil))) (lam_cons (LamX.lamS_by (by kernel_rfl)) (fun _ _ _ _ _ _ _ hr tk => (e_call (ok_chance_by T) (hr.mono (by omega)) T.G_chance_by T.F_chance_by.kp (B_chance_by T) .nil (fun _ => .nil) tk (a_cons (e_tup (a_cons e_int (a_cons e_int (a_cons e_int a_nil)))) (a_cons e_int a_nil)))) (lam_cons (LamX.lamS_by (by kernel_rfl)) (fun _ _ _ _ _ _ _ hr tk => (e_call (ok_day_for T) (hr.mono (by omega)) T.G_day_for T.F_day_for.kp (B_day_for T) .nil (fun _ => .nil) tk (a_cons (e_var 0) (a_cons e_int a_nil)))) (lam_cons (LamX.lamS_by (by kernel_rfl)) (fun _ _ _ _ _ _ _ hr tk => (e_call (ok_day_for T) (hr.mono (by omega)) T.G_day_for T.F_day_for.kp (B_day_for T) .nil (fun _ => .nil) tk (a_cons (e_var 0) (a_cons e_int a_nil)))) (lam_cons (LamX.lamS_by (by kernel_rfl)) (fun _ _ _ _ _ _ _ hr tk => (e_call (ok_together T) (hr.mono (by omega)) T.G_together T.F_together.kp (B_together T) .nil (fun _ => .nil) tk (a_cons (e_bin (o_mul false rfl) (e_tup (a_cons (e_tup (a_cons e_int (a_cons e_int (a_cons e_int a_nil)))) a_nil)) e_int) a_nil))) (lam_cons (LamX.lamS_by (by kernel_rfl)) (fun _ _ _ _ _ _ _ hr tk => (e_call (ok_later_of T) (hr.mono (by omega)) T.G_later_of T.F_later_of.kp (B_later_of T) .nil (fun _ => .nil) tk (a_cons (e_tup (a_cons (e_tup (a_cons e_int (a_cons e_int (a_cons e_int a_nil)))) a_nil)) a_nil))) (lam_cons (LamX.lamS_by (by kernel_rfl)) (fun _ _ _ _ _ _ _ hr tk => (e_call (ok_mean_in T) (hr.mono (by omega)) T.G_mean_in T.F_mean_in.kp (B_mean_in T) .nil (fun _ => .nil) tk (a_cons (e_dnew false) a_nil))) (lam_cons (LamX.lamS_by (by kernel_rfl)) (fun _ _ _ _ _ _ _ hr tk => (e_call (ok_mean_in T) (hr.mono (by omega)) T.G_mean_in T.F_mean_in.kp (B_mean_in T) .nil (fun _ => .nil) tk (a_cons (e_disp (h15 := Nat.le_of_ble_eq_true rfl) false (.cons e_int e_int .nil)) a_nil))) (lam_cons (LamX.lamS_by (by kernel_rfl)) (fun _ _ _ _ _ _ _ hr tk => (e_call (ok_learned T) (hr.mono (by omega)) T.G_learned T.F_learned.kp (B_learned T) .nil (fun _ => .nil) tk (a_cons (e_tup a_nil) (a_cons (e_tup a_nil) a_nil)))) (lam_cons (LamX.lamS_by (by kernel_rfl)) (fun _ _ _ _ _ _ _ hr tk => (e_call (ok_learned T) (hr.mono (by omega)) T.G_learned T.F_learned.kp (B_learned T) .nil (fun _ => .nil) tk (a_cons (e_tup (a_cons e_int a_nil)) (a_cons (e_tup a_nil) a_nil)))) (lam_cons (LamX.lamS_by (by kernel_rfl)) (fun _ _ _ _ _ _ _ hr tk => (e_call (ok_learned T) (hr.mono (by omega)) T.G_learned T.F_learned.kp (B_learned T) .nil (fun _ => .nil) tk (a_cons (e_tup (a_cons e_int a_nil)) (a_cons (e_tup (a_cons e_int a_nil)) a_nil)))) (lam_cons (LamX.lamS_by (by kernel_rfl)) (fun _ _ _ _ _ _ _ hr tk => (e_call (ok_learned T) (hr.mono (by omega)) T.G_learned T.F_learned.kp (B_learned T) .nil (fun _ => .nil) tk (a_cons (e_tup (a_cons e_int a_nil)) (a_cons (e_tup (a_cons (e_un u_neg e_int) a_nil)) a_nil)))) (lam_cons (LamX.lamS_by (by kernel_rfl)) (fun _ _ _ _ _ _ _ hr tk => (e_call (ok_agreed T) (hr.mono (by omega)) T.G_agreed T.F_agreed.kp (B_agreed T) .nil (fun _ => .nil) tk (a_cons (e_tup a_nil) a_nil))) lam_nil))))))))))))))))))))) (e_lst false a_nil)) (t_orC (t_cmp (o_ne rfl (hu64 hr)) (e_call (ok_mean_of T) (hr.mono (by omega)) T.G_mean_of T.F_mean_of.kp (B_mean_of T) .nil (fun _ => .nil) tk (a_cons (e_var 0) a_nil)) (e_tup (a_cons e_int (a_cons e_int a_nil)))) (t_orC (t_cmp (o_ne rfl (hu64 hr)) (e_call (ok_spread_of T) (hr.mono (by omega)) T.G_spread_of T.F_spread_of.kp (B_spread_of T) .nil (fun _ => .nil) tk (a_cons (e_var 0) a_nil)) (e_tup (a_cons e_int (a_cons e_int a_nil)))) (t_orC (t_cmp (o_ne rfl (hu64 hr)) (e_call (ok_sum_of T) (hr.mono (by omega)) T.G_sum_of T.F_sum_of.kp (B_sum_of T) .nil (fun _ => .nil) tk (a_cons (e_tup (a_cons (e_var 0) (a_cons (e_var 0) a_nil))) a_nil)) (e_tup (a_cons (e_tup (a_cons e_int (a_cons e_int a_nil))) (a_cons (e_tup (a_cons e_int (a_cons e_int a_nil))) a_nil)))) (t_or1 (t_cmp (o_ne rfl (hu64 hr)) (e_call (ok_chances T) (hr.mono (by omega)) T.G_chances T.F_chances.kp (B_chances T) .nil (fun _ => .nil) tk (a_cons (e_var 0) a_nil)) (e_disp (h15 := Nat.le_of_ble_eq_true rfl) false (.cons e_int e_int (.cons e_int e_int (.cons e_int e_int (.cons e_int e_int (.cons e_int e_int (.cons e_int e_int (.cons e_int e_int (.cons e_int e_int .nil)))))))))))))))) (s_one (s_ret e_bl)) s_nil) (s_cons (s_if (t_not (PW.pt (t_andC (t_cmp (o_eq rfl (hu64 hr)) (e_call (ok_chance_by T) (hr.mono (by omega)) T.G_chance_by T.F_chance_by.kp (B_chance_by T) .nil (fun _ => .nil) tk (a_cons (e_var 0) (a_cons e_int a_nil))) (e_tup (a_cons e_int (a_cons e_int a_nil)))) (t_and1 (t_cmp (o_eq rfl (hu64 hr)) (e_call (ok_day_for T) (hr.mono (by omega)) T.G_day_for T.F_day_for.kp (B_day_for T) .nil (fun _ => .nil) tk (a_cons (e_var 0) (a_cons e_int a_nil))) e_int))))) (s_one (s_ret e_bl)) s_nil) (s_one (s_ret (e_and (e_cmp (o_eq rfl (hu64 hr)) (e_call (ok_together T) (hr.mono (by omega)) T.G_together T.F_together.kp (B_together T) .nil (fun _ => .nil) tk (a_cons (e_tup (a_cons (e_tup (a_cons e_int (a_cons e_int (a_cons e_int a_nil)))) (a_cons (e_tup (a_cons e_int (a_cons e_int (a_cons e_int a_nil)))) a_nil))) a_nil)) (e_disp (h15 := Nat.le_of_ble_eq_true rfl) false (.cons e_int e_int (.cons e_int e_int (.cons e_int e_int .nil))))) (e_and (e_cmp (o_eq rfl (hu64 hr)) (e_call (ok_later_of T) (hr.mono (by omega)) T.G_later_of T.F_later_of.kp (B_later_of T) .nil (fun _ => .nil) tk (a_cons (e_tup (a_cons (e_tup (a_cons e_int (a_cons e_int (a_cons e_int a_nil)))) (a_cons (e_tup (a_cons e_int (a_cons e_int (a_cons e_int a_nil)))) a_nil))) a_nil)) (e_disp (h15 := Nat.le_of_ble_eq_true rfl) false (.cons e_int e_int (.cons e_int e_int .nil)))) (e_and (e_cmp (o_eq rfl (hu64 hr)) (e_call (ok_mean_in T) (hr.mono (by omega)) T.G_mean_in T.F_mean_in.kp (B_mean_in T) .nil (fun _ => .nil) tk (a_cons (e_disp (h15 := Nat.le_of_ble_eq_true rfl) false (.cons e_int e_int (.cons e_int e_int .nil))) a_nil)) (e_tup (a_cons e_int (a_cons e_int a_nil)))) (e_and (e_cmp (o_eq rfl (hu64 hr)) (e_call (ok_learned T) (hr.mono (by omega)) T.G_learned T.F_learned.kp (B_learned T) .nil (fun _ => .nil) tk (a_cons (e_tup (a_cons e_int (a_cons e_int a_nil))) (a_cons (e_tup (a_cons e_int (a_cons e_int a_nil))) a_nil))) (e_tup (a_cons e_int (a_cons e_int a_nil)))) (e_and (e_cmp (o_eq rfl (hu64 hr)) (e_call (ok_agreed T) (hr.mono (by omega)) T.G_agreed T.F_agreed.kp (B_agreed T) .nil (fun _ => .nil) tk (a_cons (e_tup (a_cons e_int (a_cons e_int (a_cons e_int (a_cons e_int (a_cons e_int a_nil)))))) a_nil)) (e_tup (a_cons e_int (a_cons e_int a_nil)))) (e_and (e_cmp (o_eq rfl (hu64 hr)) (e_call (ok_together T) (hr.mono (by omega)) T.G_together T.F_together.kp (B_together T) .nil (fun _ => .nil) tk (a_cons (e_tup a_nil) a_nil)) (e_disp (h15 := Nat.le_of_ble_eq_true rfl) false (.cons e_int e_int .nil))) (e_and (e_cmp (o_eq rfl (hu64 hr)) (e_call (ok_later_of T) (hr.mono (by omega)) T.G_later_of T.F_later_of.kp (B_later_of T) .nil (fun _ => .nil) tk (a_cons (e_tup a_nil) a_nil)) (e_disp (h15 := Nat.le_of_ble_eq_true rfl) false (.cons e_int e_int .nil))) (e_and (e_cmp (o_eq rfl (hu64 hr)) (e_call (ok_sum_of T) (hr.mono (by omega)) T.G_sum_of T.F_sum_of.kp (B_sum_of T) .nil (fun _ => .nil) tk (a_cons (e_tup a_nil) a_nil)) (e_tup (a_cons (e_tup (a_cons e_int (a_cons e_int a_nil))) (a_cons (e_tup (a_cons e_int (a_cons e_int a_nil))) a_nil)))) (e_one (e_cmp (o_eq rfl (hu64 hr)) (e_call (ok_chances T) (hr.mono (by omega)) T.G_chances T.F_chances.kp (B_chances T) .nil (fun _ => .nil) tk (a_cons (e_tup (a_cons e_int (a_cons e_int (a_cons e_int a_nil)))) a_nil)) (e_disp (h15 := Nat.le_of_ble_eq_true rfl) false (.cons e_int e_int .nil)))))))))))))))))))
end
end K03
end

/-! Ka22 -/
section
set_option Elab.async false
set_option linter.all false
set_option maxRecDepth 100000
set_option maxHeartbeats 4000000
namespace K03
open PySem PySem.Spec L2 Pk
section
variable {Γ : Pk.Γ} {P : Program} {w : World} {mg : Str → Option Value} {base : Heap}
theorem B_law (T : Fx Γ P w mg base) : Binds Γ.K T.d_law ["script"] [] := T.F_law.bindsN fun _ _ _ _ _ _ us hl => match us, hl with | [_], _ => rfl
theorem ok_law (T : Fx Γ P w mg base) : FnOk P w Γ.K mg base (L2.CX P w) 8 T.a_law T.d_law ["script"] (spM Γ 1 f_law) :=
  fnD_ok T.F_law sc_law rfl (fun cdv A outer s H E hr tk => (s_cons (s_for (passes_of rfl) rfl (i_seq rfl (e_call (ok__law_rounds T) (hr.mono (by omega)) T.G__law_rounds T.F__law_rounds.kp (B__law_rounds T) .nil (fun _ => .nil) tk (a_cons (e_var 0) (a_cons e_int a_nil)))) (g_name (hl := hlt rfl) 1 sc_law.nd) (s_cons (s_asg (e_tup (a_cons (e_call (ok__law_guess T) (hr.mono (by omega)) T.G__law_guess T.F__law_guess.kp (B__law_guess T) .nil (fun _ => .nil) tk (a_cons (e_var 1) a_nil)) (a_cons (e_lc (own := [("k", 16)]) false rfl sc_law.nd (i_r1 (by rfl) T.z_range (a_cons (e_call (ok__law_roll T 4) (hr.mono (by omega)) T.G__law_roll T.F__law_roll.kp (B__law_roll T) .nil (fun _ => .nil) tk (a_cons (e_var 1) (a_cons e_int a_nil))) a_nil)) (blkOk_by (by kernel_rfl)) (fun _ _ _ _ _ => (g_name (hl := hlt rfl) 16 sc_law.nd)) (fun _ _ _ _ _ => t_yes) (fun _ _ _ _ _ => (e_call (ok__law_guess T) (hr.mono (by omega)) T.G__law_guess T.F__law_guess.kp (B__law_guess T) .nil (fun _ => .nil) LamX.takes0 (a_cons (e_var 1) a_nil)))) a_nil))) (g_tup (n := 2) rfl rfl (gs_cons (g_name (hl := hlt rfl) 9 sc_law.nd) (gs_cons (g_name (hl := hlt rfl) 10 sc_law.nd) gs_nil)) gl2)) (s_cons (s_if (t_cmp (o_ne rfl (hu64 hr)) (e_call (ok_mean_of T) (hr.mono (by omega)) T.G_mean_of T.F_mean_of.kp (B_mean_of T) .nil (fun _ => .nil) tk (a_cons (e_var 9) a_nil)) (e_call (ok__law_least T) (hr.mono (by omega)) T.G__law_least T.F__law_least.kp (B__law_least T) .nil (fun _ => .nil) tk (a_cons (e_bin (o_add false rfl) (e_bin (o_add false rfl) (e_ix rfl (hu1 hr) (e_var 9) e_int) (e_bin (o_mul false rfl) e_int (e_ix rfl (hu1 hr) (e_var 9) e_int))) (e_ix rfl (hu1 hr) (e_var 9) e_int)) (a_cons e_int a_nil)))) (s_one (s_ret e_bl)) s_nil) (s_cons (s_if (t_cmp (o_ne rfl (hu64 hr)) (e_call (ok_spread_of T) (hr.mono (by omega)) T.G_spread_of T.F_spread_of.kp (B_spread_of T) .nil (fun _ => .nil) tk (a_cons (e_var 9) a_nil)) (e_call (ok__law_least T) (hr.mono (by omega)) T.G__law_least T.F__law_least.kp (B__law_least T) .nil (fun _ => .nil) tk (a_cons (e_bin (o_mul false rfl) (e_bin o_sub (e_ix rfl (hu1 hr) (e_var 9) e_int) (e_ix rfl (hu1 hr) (e_var 9) e_int)) (e_bin o_sub (e_ix rfl (hu1 hr) (e_var 9) e_int) (e_ix rfl (hu1 hr) (e_var 9) e_int))) (a_cons e_int a_nil)))) (s_one (s_ret e_bl)) s_nil) (s_cons (s_if (t_cmp o_isN (e_call (ok_check_guess T) (hr.mono (by omega)) T.G_check_guess T.F_check_guess.kp (B_check_guess T) .nil (fun _ => .nil) tk (a_cons (e_var 9) a_nil)) e_non) (s_one (s_ret e_bl)) s_nil) (s_cons (s_par (hl := hlt2 rfl rfl) 11 12 rfl sc_law.nd (a_cons (e_callB (c_sum rfl rfl) (by rfl) T.z_sum (by decide +kernel) (a_cons (e_lc (own := [("one", 17)]) false rfl sc_law.nd (i_seq rfl (e_var 10)) (blkOk_by (by kernel_rfl)) (fun _ _ _ _ _ => (g_name (hl := hlt rfl) 17 sc_law.nd)) (fun _ _ _ _ _ => t_yes) (fun _ _ _ _ _ => (e_bin (o_add false rfl) (e_bin (o_add false rfl) (e_ix rfl (hu1 hr) (e_var 17) e_int) (e_bin (o_mul false rfl) e_int (e_ix rfl (hu1 hr) (e_var 17) e_int))) (e_ix rfl (hu1 hr) (e_var 17) e_int)))) a_nil)) (a_cons (e_callB (c_sum rfl rfl) (by rfl) T.z_sum (by decide +kernel) (a_cons (e_lc (own := [("one", 17)]) false rfl sc_law.nd (i_seq rfl (e_var 10)) (blkOk_by (by kernel_rfl)) (fun _ _ _ _ _ => (g_name (hl := hlt rfl) 17 sc_law.nd)) (fun _ _ _ _ _ => t_yes) (fun _ _ _ _ _ => (e_bin (o_mul false rfl) (e_bin o_sub (e_ix rfl (hu1 hr) (e_var 17) e_int) (e_ix rfl (hu1 hr) (e_var 17) e_int)) (e_bin o_sub (e_ix rfl (hu1 hr) (e_var 17) e_int) (e_ix rfl (hu1 hr) (e_var 17) e_int))))) a_nil)) a_nil))) (s_cons (s_if (t_cmp (o_ne rfl (hu64 hr)) (e_call (ok_sum_of T) (hr.mono (by omega)) T.G_sum_of T.F_sum_of.kp (B_sum_of T) .nil (fun _ => .nil) tk (a_cons (e_var 10) a_nil)) (e_tup (a_cons (e_call (ok__law_least T) (hr.mono (by omega)) T.G__law_least T.F__law_least.kp (B__law_least T) .nil (fun _ => .nil) tk (a_cons (e_var 11) (a_cons e_int a_nil))) (a_cons (e_call (ok__law_least T) (hr.mono (by omega)) T.G__law_least T.F__law_least.kp (B__law_least T) .nil (fun _ => .nil) tk (a_cons (e_var 12) (a_cons e_int a_nil))) a_nil)))) (s_one (s_ret e_bl)) s_nil) (s_cons (s_asg (e_tup (a_cons (e_call (ok__law_weights T) (hr.mono (by omega)) T.G__law_weights T.F__law_weights.kp (B__law_weights T) .nil (fun _ => .nil) tk (a_cons (e_var 9) a_nil)) (a_cons (e_call (ok__law_roll T 4) (hr.mono (by omega)) T.G__law_roll T.F__law_roll.kp (B__law_roll T) .nil (fun _ => .nil) tk (a_cons (e_var 1) (a_cons e_int a_nil))) (a_cons (e_bin (o_add false rfl) e_int (e_call (ok__law_roll T 4) (hr.mono (by omega)) T.G__law_roll T.F__law_roll.kp (B__law_roll T) .nil (fun _ => .nil) tk (a_cons (e_var 1) (a_cons e_int a_nil)))) a_nil)))) (g_tup (n := 3) rfl rfl (gs_cons (g_name (hl := hlt rfl) 13 sc_law.nd) (gs_cons (g_name (hl := hlt rfl) 14 sc_law.nd) (gs_cons (g_name (hl := hlt rfl) 15 sc_law.nd) gs_nil))) gl3)) (s_cons (s_set (hl := hlt rfl) 2 sc_law.nd (e_callB (c_sum rfl rfl) (by rfl) T.z_sum (by decide +kernel) (a_cons (e_lc (own := [("one", 17), ("many", 18)]) false rfl sc_law.nd (i_seq rfl (e_var 13)) (blkOk_by (by kernel_rfl)) (fun _ _ _ _ _ => (g_tup (n := 2) rfl rfl (gs_cons (g_name (hl := hlt rfl) 17 sc_law.nd) (gs_cons (g_name (hl := hlt rfl) 18 sc_law.nd) gs_nil)) gl2)) (fun _ _ _ _ _ => t_yes) (fun _ _ _ _ _ => (e_var 18))) a_nil))) (s_cons (s_if (t_cmp (o_ne rfl (hu64 hr)) (e_itemsL false rfl (e_call (ok_chances T) (hr.mono (by omega)) T.G_chances T.F_chances.kp (B_chances T) .nil (fun _ => .nil) tk (a_cons (e_var 9) a_nil)) (by rfl) T.z_list) (e_var 13)) (s_one (s_ret e_bl)) s_nil) (s_cons (s_if (t_cmp (o_ne rfl (hu64 hr)) (e_call (ok_chance_by T) (hr.mono (by omega)) T.G_chance_by T.F_chance_by.kp (B_chance_by T) .nil (fun _ => .nil) tk (a_cons (e_var 9) (a_cons (e_var 14) a_nil))) (e_call (ok__law_least T) (hr.mono (by omega)) T.G__law_least T.F__law_least.kp (B__law_least T) .nil (fun _ => .nil) tk (a_cons (e_callB (c_sum rfl rfl) (by rfl) T.z_sum (by decide +kernel) (a_cons (e_lc (own := [("one", 17), ("many", 18)]) false rfl sc_law.nd (i_seq rfl (e_var 13)) (blkOk_by (by kernel_rfl)) (fun _ _ _ _ _ => (g_tup (n := 2) rfl rfl (gs_cons (g_name (hl := hlt rfl) 17 sc_law.nd) (gs_cons (g_name (hl := hlt rfl) 18 sc_law.nd) gs_nil)) gl2)) (fun _ _ _ _ _ => (t_ifs (t_cmp o_le (e_var 17) (e_var 14)))) (fun _ _ _ _ _ => (e_var 18))) a_nil)) (a_cons (e_var 2) a_nil)))) (s_one (s_ret e_bl)) s_nil) (s_cons (s_if (t_cmp (o_ne rfl (hu64 hr)) (e_ix rfl (hu1 hr) (e_lc (own := [("one", 17), ("many", 18)]) false rfl sc_law.nd (i_seq rfl (e_var 13)) (blkOk_by (by kernel_rfl)) (fun _ _ _ _ _ => (g_tup (n := 2) rfl rfl (gs_cons (g_name (hl := hlt rfl) 17 sc_law.nd) (gs_cons (g_name (hl := hlt rfl) 18 sc_law.nd) gs_nil)) gl2)) (fun _ _ _ _ _ => (t_ifs (t_cmp (o_eq rfl (hu64 hr)) (e_var 17) (e_ix rfl (hu1 hr) (e_var 9) e_int)))) (fun _ _ _ _ _ => (e_var 18))) e_int) (e_callB (c_max1 rfl rfl) (by rfl) T.z_max (by decide +kernel) (a_cons (e_lc (own := [("one", 17), ("many", 18)]) false rfl sc_law.nd (i_seq rfl (e_var 13)) (blkOk_by (by kernel_rfl)) (fun _ _ _ _ _ => (g_tup (n := 2) rfl rfl (gs_cons (g_name (hl := hlt rfl) 17 sc_law.nd) (gs_cons (g_name (hl := hlt rfl) 18 sc_law.nd) gs_nil)) gl2)) (fun _ _ _ _ _ => t_yes) (fun _ _ _ _ _ => (e_var 18))) a_nil))) (s_one (s_ret e_bl)) s_nil) (s_cons (s_if (t_cmp (o_ne rfl (hu64 hr)) (e_call (ok_day_for T) (hr.mono (by omega)) T.G_day_for T.F_day_for.kp (B_day_for T) .nil (fun _ => .nil) tk (a_cons (e_var 9) (a_cons (e_var 15) a_nil))) (e_ix rfl (hu1 hr) (e_lc (own := [("one", 17), ("many", 18)]) false rfl sc_law.nd (i_seq rfl (e_var 13)) (blkOk_by (by kernel_rfl)) (fun _ _ _ _ _ => (g_tup (n := 2) rfl rfl (gs_cons (g_name (hl := hlt rfl) 17 sc_law.nd) (gs_cons (g_name (hl := hlt rfl) 18 sc_law.nd) gs_nil)) gl2)) (fun _ _ _ _ _ => (t_ifs (t_cmp o_ge (e_bin (o_mul false rfl) e_int (e_callB (c_sum rfl rfl) (by rfl) T.z_sum (by decide +kernel) (a_cons (e_lc (own := [("other", 19), ("more", 20)]) false rfl sc_law.nd (i_seq rfl (e_var 13)) (blkOk_by (by kernel_rfl)) (fun _ _ _ _ _ => (g_tup (n := 2) rfl rfl (gs_cons (g_name (hl := hlt rfl) 19 sc_law.nd) (gs_cons (g_name (hl := hlt rfl) 20 sc_law.nd) gs_nil)) gl2)) (fun _ _ _ _ _ => (t_ifs (t_cmp o_le (e_var 19) (e_var 17)))) (fun _ _ _ _ _ => (e_var 20))) a_nil))) (e_bin (o_mul false rfl) (e_var 15) (e_var 2))))) (fun _ _ _ _ _ => (e_var 17))) e_int)) (s_one (s_ret e_bl)) s_nil) (s_cons (s_if (t_cmp (o_ne rfl (hu64 hr)) (e_itemsL false rfl (e_call (ok_together T) (hr.mono (by omega)) T.G_together T.F_together.kp (B_together T) .nil (fun _ => .nil) tk (a_cons (e_var 10) a_nil)) (by rfl) T.z_list) (e_call (ok__law_all T) (hr.mono (by omega)) T.G__law_all T.F__law_all.kp (B__law_all T) .nil (fun _ => .nil) tk (a_cons (e_var 10) (a_cons e_bl a_nil)))) (s_one (s_ret e_bl)) s_nil) (s_cons (s_if (t_cmp (o_ne rfl (hu64 hr)) (e_itemsL false rfl (e_call (ok_later_of T) (hr.mono (by omega)) T.G_later_of T.F_later_of.kp (B_later_of T) .nil (fun _ => .nil) tk (a_cons (e_var 10) a_nil)) (by rfl) T.z_list) (e_call (ok__law_all T) (hr.mono (by omega)) T.G__law_all T.F__law_all.kp (B__law_all T) .nil (fun _ => .nil) tk (a_cons (e_var 10) (a_cons e_bl a_nil)))) (s_one (s_ret e_bl)) s_nil) (s_cons (s_set (hl := hlt rfl) 3 sc_law.nd (e_callTy (c_dict false rfl rfl) (by rfl) T.z_dict (by decide +kernel) (a_cons (e_call (ok__law_all T) (hr.mono (by omega)) T.G__law_all T.F__law_all.kp (B__law_all T) .nil (fun _ => .nil) tk (a_cons (e_var 10) (a_cons e_bl a_nil))) a_nil))) (s_cons (s_if (t_cmp (o_ne rfl (hu64 hr)) (e_call (ok_mean_in T) (hr.mono (by omega)) T.G_mean_in T.F_mean_in.kp (B_mean_in T) .nil (fun _ => .nil) tk (a_cons (e_var 3) a_nil)) (e_call (ok__law_least T) (hr.mono (by omega)) T.G__law_least T.F__law_least.kp (B__law_least T) .nil (fun _ => .nil) tk (a_cons (e_callB (c_sum rfl rfl) (by rfl) T.z_sum (by decide +kernel) (a_cons (e_lc (own := [("one", 17)]) false rfl sc_law.nd (i_keys (e_var 3)) (blkOk_by (by kernel_rfl)) (fun _ _ _ _ _ => (g_name (hl := hlt rfl) 17 sc_law.nd)) (fun _ _ _ _ _ => t_yes) (fun _ _ _ _ _ => (e_bin (o_mul false rfl) (e_var 17) (e_ix rfl (hu1 hr) (e_var 3) (e_var 17))))) a_nil)) (a_cons (e_vals i_sum rfl (by decide +kernel) T.z_sum (e_var 3)) a_nil)))) (s_one (s_ret e_bl)) s_nil) (s_cons (s_setLc (hl := hlt rfl) (own := [("k", 16)]) false 4 rfl sc_law.nd (i_r1 (by rfl) T.z_range (a_cons (e_bin (o_add false rfl) e_int (e_call (ok__law_roll T 4) (hr.mono (by omega)) T.G__law_roll T.F__law_roll.kp (B__law_roll T) .nil (fun _ => .nil) tk (a_cons (e_var 1) (a_cons e_int a_nil)))) a_nil)) (blkOk_by (by kernel_rfl)) (fun _ _ _ _ _ => (g_name (hl := hlt rfl) 16 sc_law.nd)) (fun _ _ _ _ _ => t_yes) (fun _ _ _ _ _ => (e_bin (o_add false rfl) e_int (e_call (ok__law_roll T 4) (hr.mono (by omega)) T.G__law_roll T.F__law_roll.kp (B__law_roll T) .nil (fun _ => .nil) LamX.takes0 (a_cons (e_var 1) (a_cons e_int a_nil)))))) (s_cons (s_setLc (hl := hlt rfl) (own := [("one", 17)]) false 5 rfl sc_law.nd (i_seq rfl (e_var 4)) (blkOk_by (by kernel_rfl)) (fun _ _ _ _ _ => (g_name (hl := hlt rfl) 17 sc_law.nd)) (fun _ _ _ _ _ => t_yes) (fun _ _ _ _ _ => (e_call (ok__law_roll T 4) (hr.mono (by omega)) T.G__law_roll T.F__law_roll.kp (B__law_roll T) .nil (fun _ => .nil) LamX.takes0 (a_cons (e_var 1) (a_cons e_int a_nil))))) (s_cons (s_if (t_cmp (o_ne rfl (hu64 hr)) (e_call (ok_learned T) (hr.mono (by omega)) T.G_learned T.F_learned.kp (B_learned T) .nil (fun _ => .nil) tk (a_cons (e_var 4) (a_cons (e_var 5) a_nil))) (e_call (ok__law_least T) (hr.mono (by omega)) T.G__law_least T.F__law_least.kp (B__law_least T) .nil (fun _ => .nil) tk (a_cons (e_callB (c_sum rfl rfl) (by rfl) T.z_sum (by decide +kernel) (a_cons (e_var 5) a_nil)) (a_cons (e_callB (c_sum rfl rfl) (by rfl) T.z_sum (by decide +kernel) (a_cons (e_var 4) a_nil)) a_nil)))) (s_one (s_ret e_bl)) s_nil) (s_cons (s_set (hl := hlt rfl) 6 sc_law.nd (e_lc (own := [("k", 16)]) false rfl sc_law.nd (i_r1 (by rfl) T.z_range (a_cons (e_bin (o_add false rfl) e_int (e_call (ok__law_roll T 4) (hr.mono (by omega)) T.G__law_roll T.F__law_roll.kp (B__law_roll T) .nil (fun _ => .nil) tk (a_cons (e_var 1) (a_cons e_int a_nil)))) a_nil)) (blkOk_by (by kernel_rfl)) (fun _ _ _ _ _ => (g_name (hl := hlt rfl) 16 sc_law.nd)) (fun _ _ _ _ _ => t_yes) (fun _ _ _ _ _ => (e_call (ok__law_roll T 4) (hr.mono (by omega)) T.G__law_roll T.F__law_roll.kp (B__law_roll T) .nil (fun _ => .nil) LamX.takes0 (a_cons (e_var 1) (a_cons e_int a_nil)))))) (s_cons (s_set (hl := hlt rfl) 7 sc_law.nd (e_callB (c_max1 rfl rfl) (by rfl) T.z_max (by decide +kernel) (a_cons (e_lc (own := [("one", 17)]) false rfl sc_law.nd (i_seq rfl (e_var 6)) (blkOk_by (by kernel_rfl)) (fun _ _ _ _ _ => (g_name (hl := hlt rfl) 17 sc_law.nd)) (fun _ _ _ _ _ => t_yes) (fun _ _ _ _ _ => (e_lm (ml_count rfl) rfl PySem.F.slot_list_count PySem.F.type_list_count (e_var 6) (a_cons (e_var 17) a_nil)))) a_nil))) (s_cons (s_setLc (hl := hlt rfl) (own := [("one", 17)]) false 8 rfl sc_law.nd (i_seq rfl (e_var 6)) (blkOk_by (by kernel_rfl)) (fun _ _ _ _ _ => (g_name (hl := hlt rfl) 17 sc_law.nd)) (fun _ _ _ _ _ => (t_ifs (t_cmp (o_eq rfl (hu64 hr)) (e_lm (ml_count rfl) rfl PySem.F.slot_list_count PySem.F.type_list_count (e_var 6) (a_cons (e_var 17) a_nil)) (e_var 7)))) (fun _ _ _ _ _ => (e_var 17))) (s_cons (s_if (PW.pt (t_orC (t_cmp (o_ne rfl (hu64 hr)) (e_call (ok_agreed T) (hr.mono (by omega)) T.G_agreed T.F_agreed.kp (B_agreed T) .nil (fun _ => .nil) tk (a_cons (e_var 6) a_nil)) (e_tup (a_cons (e_callB (c_min1 rfl rfl) (by rfl) T.z_min (by decide +kernel) (a_cons (e_var 8) a_nil)) (a_cons (e_callB (c_max1 rfl rfl) (by rfl) T.z_max (by decide +kernel) (a_cons (e_var 8) a_nil)) a_nil)))) (t_or1 (t_cmp (o_ne rfl (hu64 hr)) (e_call (ok_least T) (hr.mono (by omega)) T.G_least T.F_least.kp (B_least T) .nil (fun _ => .nil) tk (a_cons (e_var 2) (a_cons e_int a_nil))) (e_call (ok__law_least T) (hr.mono (by omega)) T.G__law_least T.F__law_least.kp (B__law_least T) .nil (fun _ => .nil) tk (a_cons (e_var 2) (a_cons e_int a_nil))))))) (s_one (s_ret e_bl)) s_nil) (s_one (s_if (t_cmp (o_ne rfl (hu64 hr)) (e_call (ok_least T) (hr.mono (by omega)) T.G_least T.F_least.kp (B_least T) .nil (fun _ => .nil) tk (a_cons (e_un u_neg (e_var 2)) (a_cons e_int a_nil))) (e_call (ok__law_least T) (hr.mono (by omega)) T.G__law_least T.F__law_least.kp (B__law_least T) .nil (fun _ => .nil) tk (a_cons (e_un u_neg (e_var 2)) (a_cons e_int a_nil)))) (s_one (s_ret e_bl)) s_nil)))))))))))))))))))))))))) (s_one (s_ret (e_pad (e_call0 (ok__law_plain T) (hr.mono (by omega)) T.G__law_plain T.F__law_plain.kp (B__law_plain T) .nil (fun _ => .nil) tk))))))
end
end K03
end

/-! KaH -/
section
set_option Elab.async false
set_option linter.all false
set_option maxRecDepth 100000
set_option maxHeartbeats 0
namespace K03
open PySem PySem.Spec L2 Pk
def cn (k : Nat) : Str := (["PlanError", "GuessError"] : List Str).getD k ""
def dd_least : He.DefD := ⟨("least", none), "least", "least", defArgs s_least, defBody s_least, defScope s_least, [], []⟩
def dd_check_guess : He.DefD := ⟨("check_guess", none), "check_guess", "check_guess", defArgs s_check_guess, defBody s_check_guess, defScope s_check_guess, [], []⟩
def dd_mean_of : He.DefD := ⟨("mean_of", none), "mean_of", "mean_of", defArgs s_mean_of, defBody s_mean_of, defScope s_mean_of, [], []⟩
def dd_spread_of : He.DefD := ⟨("spread_of", none), "spread_of", "spread_of", defArgs s_spread_of, defBody s_spread_of, defScope s_spread_of, [], []⟩
def dd_sum_of : He.DefD := ⟨("sum_of", none), "sum_of", "sum_of", defArgs s_sum_of, defBody s_sum_of, defScope s_sum_of, [], []⟩
def dd_chances : He.DefD := ⟨("chances", none), "chances", "chances", defArgs s_chances, defBody s_chances, defScope s_chances, [], []⟩
def dd_chance_by : He.DefD := ⟨("chance_by", none), "chance_by", "chance_by", defArgs s_chance_by, defBody s_chance_by, defScope s_chance_by, [], []⟩
def dd_day_for : He.DefD := ⟨("day_for", none), "day_for", "day_for", defArgs s_day_for, defBody s_day_for, defScope s_day_for, [], []⟩
def dd_together : He.DefD := ⟨("together", none), "together", "together", defArgs s_together, defBody s_together, defScope s_together, [], []⟩
def dd_later_of : He.DefD := ⟨("later_of", none), "later_of", "later_of", defArgs s_later_of, defBody s_later_of, defScope s_later_of, [], []⟩
def dd_mean_in : He.DefD := ⟨("mean_in", none), "mean_in", "mean_in", defArgs s_mean_in, defBody s_mean_in, defScope s_mean_in, [], []⟩
def dd_learned : He.DefD := ⟨("learned", none), "learned", "learned", defArgs s_learned, defBody s_learned, defScope s_learned, [], []⟩
def dd_agreed : He.DefD := ⟨("agreed", none), "agreed", "agreed", defArgs s_agreed, defBody s_agreed, defScope s_agreed, [], []⟩
def dd__law_dice : He.DefD := ⟨("_law_dice", none), "_law_dice", "_law_dice", defArgs s__law_dice, defBody s__law_dice, defScope s__law_dice, [], []⟩
def dd__law_roll : He.DefD := ⟨("_law_roll", none), "_law_roll", "_law_roll", defArgs s__law_roll, defBody s__law_roll, defScope s__law_roll, [], []⟩
def dd__law_rounds : He.DefD := ⟨("_law_rounds", none), "_law_rounds", "_law_rounds", defArgs s__law_rounds, defBody s__law_rounds, defScope s__law_rounds, [], []⟩
def dd__law_told : He.DefD := ⟨("_law_told", none), "_law_told", "_law_told", defArgs s__law_told, defBody s__law_told, defScope s__law_told, [], []⟩
def dd__law_least : He.DefD := ⟨("_law_least", none), "_law_least", "_law_least", defArgs s__law_least, defBody s__law_least, defScope s__law_least, [], []⟩
def dd__law_guess : He.DefD := ⟨("_law_guess", none), "_law_guess", "_law_guess", defArgs s__law_guess, defBody s__law_guess, defScope s__law_guess, [], []⟩
def dd__law_weights : He.DefD := ⟨("_law_weights", none), "_law_weights", "_law_weights", defArgs s__law_weights, defBody s__law_weights, defScope s__law_weights, [], []⟩
def dd__law_all : He.DefD := ⟨("_law_all", none), "_law_all", "_law_all", defArgs s__law_all, defBody s__law_all, defScope s__law_all, [], []⟩
def dd__law_plain : He.DefD := ⟨("_law_plain", none), "_law_plain", "_law_plain", defArgs s__law_plain, defBody s__law_plain, defScope s__law_plain, [], []⟩
def dd_law : He.DefD := ⟨("law", none), "law", "law", defArgs s_law, defBody s_law, defScope s_law, [], []⟩
def fn : List He.DefD := [dd_least, dd_check_guess, dd_mean_of, dd_spread_of, dd_sum_of, dd_chances, dd_chance_by, dd_day_for, dd_together, dd_later_of, dd_mean_in, dd_learned, dd_agreed, dd__law_dice, dd__law_roll, dd__law_rounds, dd__law_told, dd__law_least, dd__law_guess, dd__law_weights, dd__law_all, dd__law_plain, dd_law]
def fa0 : List He.Fa := [.glo "least", .glo "check_guess", .glo "mean_of", .glo "spread_of", .glo "sum_of", .glo "chances", .glo "chance_by", .glo "day_for", .glo "together", .glo "later_of", .glo "mean_in", .glo "learned", .glo "agreed", .glo "_law_dice", .glo "_law_roll", .glo "_law_rounds", .glo "_law_told", .glo "_law_least", .glo "_law_guess", .glo "_law_weights", .glo "_law_all", .glo "_law_plain", .glo "law", .glo "GuessError", .exc "GuessError", .exm "GuessError" "GuessError" true, .free "abs", .free "dict", .free "int", .free "len"]
def fa1 : List He.Fa := [.free "list", .free "max", .free "min", .free "range", .free "sorted", .free "sum"]
def fa : List He.Fa := fa0 ++ fa1
def tf : List He.Defn := [("chance_by", none), ("mean_in", none), ("_law_plain", none)]
def tq : List Str := ["chance_by.<locals>.<genexpr>", "mean_in.<locals>.<genexpr>", "_law_plain.<locals>.<lambda>"]
def tabsOf (K : PySem.W.Frag) : List (Addr × Str) := (tf.map fun p => (He.cT K p).2).zip tq
def ex (K : PySem.W.Frag) : Bool := apartB (tf.map fun p => (He.cT K p).2)
def Gm (K : PySem.W.Frag) : Pk.Γ := ⟨K, fun k => He.ga K (cn k), tabsOf K⟩
theorem fx {P : Program} {w : World} {K : PySem.W.Frag} {h base : Heap} {mg : Str → Option Value} (X : K.In h) (G : h.Ns mainGlobals mg) (c : He.SaysX fa fn [] tf ex w h K) (tb : ∀ p ∈ tf.map (He.cT K), LamX.TabB base mg p.1 p.2) : Nonempty {T : Fx (Gm K) P w mg base // T.a_law = He.fAd K ("law", none) ∧ ∃ b : ∀ (s : Shared) (u : Value), BindsTo s T.d_law ⟨[u], []⟩ [("script", u)], True} := by
  have cd := He.SaysT.d c.t
  have mem : ∀ {f : He.Fa}, f ∈ fa → f.ok K = true := fun h => cd.facts h
  have mo := c.more
  simp only [ex, Bool.and_eq_true] at mo
  have mN := mo
  have nd : ((tabsOf K).map (·.1)).Nodup := by
    have e : (tabsOf K).map (·.1) = tf.map fun p => (He.cT K p).2 := by rfl
    rw [e]; exact of_decide_eq_true mN
  obtain ⟨d_least, F_least⟩ := cd.defs (d := dd_least) (List.mem_of_getElem? (i := 0) rfl)
  obtain ⟨d_check_guess, F_check_guess⟩ := cd.defs (d := dd_check_guess) (List.mem_of_getElem? (i := 1) rfl)
  obtain ⟨d_mean_of, F_mean_of⟩ := cd.defs (d := dd_mean_of) (List.mem_of_getElem? (i := 2) rfl)
  obtain ⟨d_spread_of, F_spread_of⟩ := cd.defs (d := dd_spread_of) (List.mem_of_getElem? (i := 3) rfl)
  obtain ⟨d_sum_of, F_sum_of⟩ := cd.defs (d := dd_sum_of) (List.mem_of_getElem? (i := 4) rfl)
  obtain ⟨d_chances, F_chances⟩ := cd.defs (d := dd_chances) (List.mem_of_getElem? (i := 5) rfl)
  obtain ⟨d_chance_by, F_chance_by⟩ := cd.defs (d := dd_chance_by) (List.mem_of_getElem? (i := 6) rfl)
  obtain ⟨d_day_for, F_day_for⟩ := cd.defs (d := dd_day_for) (List.mem_of_getElem? (i := 7) rfl)
  obtain ⟨d_together, F_together⟩ := cd.defs (d := dd_together) (List.mem_of_getElem? (i := 8) rfl)
  obtain ⟨d_later_of, F_later_of⟩ := cd.defs (d := dd_later_of) (List.mem_of_getElem? (i := 9) rfl)
  obtain ⟨d_mean_in, F_mean_in⟩ := cd.defs (d := dd_mean_in) (List.mem_of_getElem? (i := 10) rfl)
  obtain ⟨d_learned, F_learned⟩ := cd.defs (d := dd_learned) (List.mem_of_getElem? (i := 11) rfl)
  obtain ⟨d_agreed, F_agreed⟩ := cd.defs (d := dd_agreed) (List.mem_of_getElem? (i := 12) rfl)
  obtain ⟨d__law_dice, F__law_dice⟩ := cd.defs (d := dd__law_dice) (List.mem_of_getElem? (i := 13) rfl)
  obtain ⟨d__law_roll, F__law_roll⟩ := cd.defs (d := dd__law_roll) (List.mem_of_getElem? (i := 14) rfl)
  obtain ⟨d__law_rounds, F__law_rounds⟩ := cd.defs (d := dd__law_rounds) (List.mem_of_getElem? (i := 15) rfl)
  obtain ⟨d__law_told, F__law_told⟩ := cd.defs (d := dd__law_told) (List.mem_of_getElem? (i := 16) rfl)
  obtain ⟨d__law_least, F__law_least⟩ := cd.defs (d := dd__law_least) (List.mem_of_getElem? (i := 17) rfl)
  obtain ⟨d__law_guess, F__law_guess⟩ := cd.defs (d := dd__law_guess) (List.mem_of_getElem? (i := 18) rfl)
  obtain ⟨d__law_weights, F__law_weights⟩ := cd.defs (d := dd__law_weights) (List.mem_of_getElem? (i := 19) rfl)
  obtain ⟨d__law_all, F__law_all⟩ := cd.defs (d := dd__law_all) (List.mem_of_getElem? (i := 20) rfl)
  obtain ⟨d__law_plain, F__law_plain⟩ := cd.defs (d := dd__law_plain) (List.mem_of_getElem? (i := 21) rfl)
  obtain ⟨d_law, F_law⟩ := cd.defs (d := dd_law) (List.mem_of_getElem? (i := 22) rfl)
  have told : ToldT K mg "_law_told" "GuessError" (He.ga K (cn 1)) := by
    have B := F__law_told.bindsN (ps := ["what"]) fun _ _ _ _ _ _ us hl => match us, hl with | [_], _ => rfl
    obtain ⟨oc, od, dV, kV, doc, pm, an, cdv, ct, osl, e, lk, hcd, hD, _⟩ := F__law_told.ex
    subst e
    exact ⟨_, _, _, _, _, _, _, _, _, _, _, _, _, _, _, _, _, _, _, _, _, _, _, _, ["what"], He.glo_ok X G (mem (f := .glo "_law_told") (List.mem_of_getElem? (i := 16) rfl)), F__law_told.kp, lk, hcd, B, ⟨rfl, rfl, rfl, by decide +kernel, rfl, by decide +kernel, by decide +kernel⟩, rfl, by first | exact Or.inl rfl | exact Or.inr (Or.inl rfl) | exact Or.inr (Or.inr rfl), rfl, He.glo_ok X G (mem (f := .glo "GuessError") (List.mem_of_getElem? (i := 23) rfl)), by decide, fun _ => rfl, by decide, by decide, by decide⟩
  have tx : ∀ c ∈ [1], PySem.W.exmOne K (.ref (He.ga K (cn c))) (.ref (He.ga K (cn 1))) = some true := by
    intro c hc
    simp only [List.mem_cons, List.not_mem_nil, or_false] at hc
    subst hc
    exact He.exm_ok (mem (f := .exm "GuessError" "GuessError" true) (List.mem_of_getElem? (i := 25) rfl))
  refine ⟨⟨{ a_least := _, d_least := d_least, F_least := F_least, G_least := He.glo_ok X G (mem (f := .glo "least") (List.mem_of_getElem? (i := 0) rfl)), a_check_guess := _, d_check_guess := d_check_guess, F_check_guess := F_check_guess, G_check_guess := He.glo_ok X G (mem (f := .glo "check_guess") (List.mem_of_getElem? (i := 1) rfl)), a_mean_of := _, d_mean_of := d_mean_of, F_mean_of := F_mean_of, G_mean_of := He.glo_ok X G (mem (f := .glo "mean_of") (List.mem_of_getElem? (i := 2) rfl)), a_spread_of := _, d_spread_of := d_spread_of, F_spread_of := F_spread_of, G_spread_of := He.glo_ok X G (mem (f := .glo "spread_of") (List.mem_of_getElem? (i := 3) rfl)), a_sum_of := _, d_sum_of := d_sum_of, F_sum_of := F_sum_of, G_sum_of := He.glo_ok X G (mem (f := .glo "sum_of") (List.mem_of_getElem? (i := 4) rfl)), a_chances := _, d_chances := d_chances, F_chances := F_chances, G_chances := He.glo_ok X G (mem (f := .glo "chances") (List.mem_of_getElem? (i := 5) rfl)), a_chance_by := _, d_chance_by := d_chance_by, F_chance_by := F_chance_by, G_chance_by := He.glo_ok X G (mem (f := .glo "chance_by") (List.mem_of_getElem? (i := 6) rfl)), a_day_for := _, d_day_for := d_day_for, F_day_for := F_day_for, G_day_for := He.glo_ok X G (mem (f := .glo "day_for") (List.mem_of_getElem? (i := 7) rfl)), a_together := _, d_together := d_together, F_together := F_together, G_together := He.glo_ok X G (mem (f := .glo "together") (List.mem_of_getElem? (i := 8) rfl)), a_later_of := _, d_later_of := d_later_of, F_later_of := F_later_of, G_later_of := He.glo_ok X G (mem (f := .glo "later_of") (List.mem_of_getElem? (i := 9) rfl)), a_mean_in := _, d_mean_in := d_mean_in, F_mean_in := F_mean_in, G_mean_in := He.glo_ok X G (mem (f := .glo "mean_in") (List.mem_of_getElem? (i := 10) rfl)), a_learned := _, d_learned := d_learned, F_learned := F_learned, G_learned := He.glo_ok X G (mem (f := .glo "learned") (List.mem_of_getElem? (i := 11) rfl)), a_agreed := _, d_agreed := d_agreed, F_agreed := F_agreed, G_agreed := He.glo_ok X G (mem (f := .glo "agreed") (List.mem_of_getElem? (i := 12) rfl)), a__law_dice := _, d__law_dice := d__law_dice, F__law_dice := F__law_dice, G__law_dice := He.glo_ok X G (mem (f := .glo "_law_dice") (List.mem_of_getElem? (i := 13) rfl)), a__law_roll := _, d__law_roll := d__law_roll, F__law_roll := F__law_roll, G__law_roll := He.glo_ok X G (mem (f := .glo "_law_roll") (List.mem_of_getElem? (i := 14) rfl)), a__law_rounds := _, d__law_rounds := d__law_rounds, F__law_rounds := F__law_rounds, G__law_rounds := He.glo_ok X G (mem (f := .glo "_law_rounds") (List.mem_of_getElem? (i := 15) rfl)), a__law_told := _, d__law_told := d__law_told, F__law_told := F__law_told, G__law_told := He.glo_ok X G (mem (f := .glo "_law_told") (List.mem_of_getElem? (i := 16) rfl)), a__law_least := _, d__law_least := d__law_least, F__law_least := F__law_least, G__law_least := He.glo_ok X G (mem (f := .glo "_law_least") (List.mem_of_getElem? (i := 17) rfl)), a__law_guess := _, d__law_guess := d__law_guess, F__law_guess := F__law_guess, G__law_guess := He.glo_ok X G (mem (f := .glo "_law_guess") (List.mem_of_getElem? (i := 18) rfl)), a__law_weights := _, d__law_weights := d__law_weights, F__law_weights := F__law_weights, G__law_weights := He.glo_ok X G (mem (f := .glo "_law_weights") (List.mem_of_getElem? (i := 19) rfl)), a__law_all := _, d__law_all := d__law_all, F__law_all := F__law_all, G__law_all := He.glo_ok X G (mem (f := .glo "_law_all") (List.mem_of_getElem? (i := 20) rfl)), a__law_plain := _, d__law_plain := d__law_plain, F__law_plain := F__law_plain, G__law_plain := He.glo_ok X G (mem (f := .glo "_law_plain") (List.mem_of_getElem? (i := 21) rfl)), a_law := _, d_law := d_law, F_law := F_law, G_law := He.glo_ok X G (mem (f := .glo "law") (List.mem_of_getElem? (i := 22) rfl)), c_chance_by := _, p_chance_by := _, g_chance_by := ⟨code_of F_chance_by, tb _ (List.mem_of_getElem? (i := 0) rfl), (List.mem_of_getElem? (i := 0) rfl), uni_of nd (List.mem_of_getElem? (i := 0) rfl)⟩, c_mean_in := _, p_mean_in := _, g_mean_in := ⟨code_of F_mean_in, tb _ (List.mem_of_getElem? (i := 1) rfl), (List.mem_of_getElem? (i := 1) rfl), uni_of nd (List.mem_of_getElem? (i := 1) rfl)⟩, c__law_plain := _, p__law_plain := _, t__law_plain := ⟨code_of F__law_plain, tb _ (List.mem_of_getElem? (i := 2) rfl), (List.mem_of_getElem? (i := 2) rfl), uni_of nd (List.mem_of_getElem? (i := 2) rfl)⟩, x_GuessError := (fun z => ⟨He.glo_ok X G (mem (f := .glo "GuessError") (List.mem_of_getElem? (i := 23) rfl)), z.1, z.2.1, z.2.2.1, z.2.2.2⟩) (He.exc_ok (mem (f := .exc "GuessError") (List.mem_of_getElem? (i := 24) rfl))), z_abs := He.free_ok X G (mem (f := .free "abs") (List.mem_of_getElem? (i := 26) rfl)), z_dict := He.free_ok X G (mem (f := .free "dict") (List.mem_of_getElem? (i := 27) rfl)), z_int := He.free_ok X G (mem (f := .free "int") (List.mem_of_getElem? (i := 28) rfl)), z_len := He.free_ok X G (mem (f := .free "len") (List.mem_of_getElem? (i := 29) rfl)), z_list := He.free_ok X G (mem (f := .free "list") (List.mem_of_getElem? (i := 30) rfl)), z_max := He.free_ok X G (mem (f := .free "max") (List.mem_of_getElem? (i := 31) rfl)), z_min := He.free_ok X G (mem (f := .free "min") (List.mem_of_getElem? (i := 32) rfl)), z_range := He.free_ok X G (mem (f := .free "range") (List.mem_of_getElem? (i := 33) rfl)), z_sorted := He.free_ok X G (mem (f := .free "sorted") (List.mem_of_getElem? (i := 34) rfl)), z_sum := He.free_ok X G (mem (f := .free "sum") (List.mem_of_getElem? (i := 35) rfl)), told := told, tx := tx }, rfl, ?_, trivial⟩⟩
  exact fun s v => FunD.bindsA (ps := ["script"]) F_law (fun _ _ _ _ _ _ us hl => match us, hl with | [_], _ => rfl) s [v] rfl
end K03
end

/-! KaR -/
section
set_option Elab.async false
set_option linter.all false
set_option maxRecDepth 100000
set_option maxHeartbeats 0
namespace K03
open PySem PySem.Spec L2 Pk
abbrev RR : PySem.W.OpenRow := PySem.W.OpenLaw.row PySem.Challenge.rw_planstack_k03_guesses_of_lengths
abbrev hk : PySem.W.Hook := He.hookX 5 fa fn [] tf ex
def ob (s : PySem.W.SharedT) : He.AlX := He.obsX 5 fa fn [] tf ex (HandSHeadRun.getT s)
theorem ob_eq (s : PySem.W.SharedT) : ob s = hk.obs s.abs := He.obsX_eq (HandSHeadRun.getT_eq s)
def nms0 : List Str := ["__name__", "PlanError", "GuessError", "least", "check_guess", "mean_of", "spread_of", "sum_of", "chances", "chance_by", "day_for", "together", "later_of", "mean_in", "learned", "agreed", "_law_dice", "_law_roll", "_law_rounds", "_law_told", "_law_least", "_law_guess", "_law_weights", "_law_all", "_law_plain"]
abbrev nms : List Str := nms0
theorem run (w : World) : HandSHeadRun.RunEq RR (PySem.W.view RR.prog [27]) hk ob 2000 nms w := by
  intro os
  kernel_rfl
end K03
end

/-! KaE -/
section
set_option Elab.async false
set_option linter.all false
set_option maxRecDepth 100000
set_option maxHeartbeats 0
open PySem PySem.Spec L2 Pk
namespace K03
theorem noEx {P : Program} {w : World} {H : Hp} {s s' : Shared} {e : Value} (z : L2.CX P w [] H s (fun _ _ _ => False) e s') : False := by
  obtain ⟨_, _, _, _, _, _, _, _, _, _, _, _, f⟩ := z
  exact f
theorem atS {w : World} {K : PySem.W.Frag} {h : Heap} {mg : Str → Option Value} {fa_ : Addr} (X : K.In h) (G : h.Ns mainGlobals mg) (hmg : mg ("law" : PySem.Str) = some (.ref fa_)) (c : He.SaysX fa fn [] tf ex w h K)
    (pl : ∀ ns : List Int, ns.length ≤ 63 → ∃ h', f_law [.scr ns] Pk.h0 = .ok (.bl true) h') : LamX.LawAtS PySem.Challenge.rw_planstack_k03_guesses_of_lengths w K (L2.CX (PySem.Challenge.rw_planstack_k03_guesses_of_lengths).prog w) 8 63 "script" mg fa_ h := by
  have mem : ∀ {f : He.Fa}, f ∈ fa → f.ok K = true := fun h => (He.SaysT.d c.t).facts h
  have e := hmg.symm.trans (He.glo_ok X G (mem (f := .glo "law") (List.mem_of_getElem? (i := 22) rfl)))
  cases e
  obtain ⟨d, F⟩ := (He.SaysT.d c.t).defs (d := dd_law) (List.mem_of_getElem? (i := 22) rfl)
  refine ⟨d, tf.map (He.cT K), spM (Gm K) 1 f_law, ?_, ?_, ?_, ?_, ?_, ?_⟩
  · intro p hp
    obtain ⟨q, hq, rfl⟩ := List.mem_map.mp hp
    exact c.empty q hq
  · intro p hp
    obtain ⟨q, hq, rfl⟩ := List.mem_map.mp hp
    exact c.out q hq
  · intro p hp
    obtain ⟨q, hq, rfl⟩ := List.mem_map.mp hp
    exact PySem.W.codeHd_of_K X (c.hd q hq)
  · exact fun s v => FunD.bindsA (ps := ["script"]) F (fun _ _ _ _ _ _ us hl => match us, hl with | [_], _ => rfl) s [v] rfl
  · intro H a ns hl _ hT hS
    refine law_start (Γ := Gm K) (fun p hp => ?_) hS (pl ns hl)
    have hp2 := (List.of_mem_zip (show p ∈ (tf.map fun p => (He.cT K p).2).zip tq from hp)).1
    obtain ⟨q, hq, e⟩ := List.mem_map.mp hp2
    rw [← e]
    exact hT (He.cT K q) (List.mem_map.mpr ⟨q, hq, rfl⟩)
  · intro base XB GB tb
    obtain ⟨T, e1, _⟩ := fx (P := (PySem.Challenge.rw_planstack_k03_guesses_of_lengths).prog) (base := base) X G c tb
    have e2 : T.d_law = d := by
      obtain ⟨_, _, _, _, _, _, _, _, _, _, _, l1, _⟩ := T.F_law.ex
      obtain ⟨_, _, _, _, _, _, _, _, _, _, _, l2, _⟩ := F.ex
      have l1 : K.lookup (He.fAd K dd_law.at_) = _ := e1 ▸ l1
      rw [l2] at l1
      injection l1 with l1
      injection l1 with _ _ l1
      injection l1 with l1
      exact l1.symm
    have z := ok_law T
    rw [e2, show T.a_law = He.ga K "law" from e1] at z
    exact z
end K03
open PySem PySem.W PySem.Calls PyProof.Rows
theorem fin (pl : ∀ ns : List Int, ns.length ≤ 63 → ∃ h', K03.f_law [.scr ns] Pk.h0 = .ok (.bl true) h') : PySem.Challenge.rw_planstack_k03_guesses_of_lengths.Holds := by
  w_on; o_law
  refine HandSHeadRun.head_any (r := OpenLaw.row PySem.Challenge.rw_planstack_k03_guesses_of_lengths) (q := view (OpenLaw.row PySem.Challenge.rw_planstack_k03_guesses_of_lengths).prog [27]) (H := K03.hk) (ob := K03.ob) (M := 2000) (loose := K03.nms) (d := HandSHeadRun.topDef (OpenLaw.row PySem.Challenge.rw_planstack_k03_guesses_of_lengths).prog 27) (kwd := []) K03.ob_eq
    (by kernel_rfl) (fun s => by kernel_rfl) K03.run (by kernel_rfl) (by kernel_rfl) (by kernel_rfl) (by rfl) (by first | assumption | decide +kernel) (by decide +kernel) ⟨rfl, rfl, rfl, rfl, rfl, by decide +kernel⟩ ?hw ?hc
  case hw => w_witness2
  case hc =>
    refine LamX.walk_ofTsE (l := PySem.Challenge.rw_planstack_k03_guesses_of_lengths) (n := 63) (k := 8) (x := "script") (CX := fun w => L2.CX (PySem.Challenge.rw_planstack_k03_guesses_of_lengths).prog w) rfl (by decide) (by kernel_rfl) ⟨rfl, by decide, by decide⟩ ?F ?G
    case F =>
      intro w mg fa h Y G hmg0
      obtain ⟨K, KX, c⟩ := Y
      have hmg : mg ("law" : PySem.Str) = some (.ref fa) := by
        have e : (HandSHeadRun.topDef (OpenLaw.row PySem.Challenge.rw_planstack_k03_guesses_of_lengths).prog 27).name = ("law" : PySem.Str) := by kernel_rfl
        rw [← e]
        exact hmg0
      exact ⟨K, KX, K03.atS KX G hmg c pl⟩
    case G => exact fun w H s e s' z => K03.noEx z
end

/-! Kv0 -/
section
set_option Elab.async false
set_option linter.all false
set_option maxRecDepth 100000
namespace K03
open PySem PySem.Spec L2 Pk
def lw0 : Sx := (sAsg (eTup (aCons (eCall 1 f__law_guess [] (aCons (eVar 1) aNil)) (aCons (eLc false [16] (iR1 (aCons (eCall 2 (n__law_roll 4) [] (aCons (eVar 1) (aCons (eC (.int 4)) aNil))) aNil)) (gN 16) tYesx (eCall 1 f__law_guess [] (aCons (eVar 1) aNil))) aNil))) (gTupx (gConsx (gN 9) (gConsx (gN 10) gNilx))))
def lw1 : Sx := (sIf (tVal (eBin wNe (eCall 1 f_mean_of [] (aCons (eVar 9) aNil)) (eCall 2 f__law_least [] (aCons (eBin (wAdd false) (eBin (wAdd false) (eBin wIx (eVar 9) (eC (.int 0))) (eBin (wMul false) (eC (.int 4)) (eBin wIx (eVar 9) (eC (.int 1))))) (eBin wIx (eVar 9) (eC (.int 2)))) (aCons (eC (.int 6)) aNil))))) (sRet (eC (.bl false))) sNil)
def lw2 : Sx := (sIf (tVal (eBin wNe (eCall 1 f_spread_of [] (aCons (eVar 9) aNil)) (eCall 2 f__law_least [] (aCons (eBin (wMul false) (eBin wSub (eBin wIx (eVar 9) (eC (.int 2))) (eBin wIx (eVar 9) (eC (.int 0)))) (eBin wSub (eBin wIx (eVar 9) (eC (.int 2))) (eBin wIx (eVar 9) (eC (.int 0))))) (aCons (eC (.int 36)) aNil))))) (sRet (eC (.bl false))) sNil)
def lw3 : Sx := (sIf (tVal (eBin wIsN (eCall 1 f_check_guess [] (aCons (eVar 9) aNil)) (eC .non))) (sRet (eC (.bl false))) sNil)
def lw4 : Sx := (sPar 11 12 (aCons (eCallB m_sum (aCons (eLc false [17] (iSeq (eVar 10)) (gN 17) tYesx (eBin (wAdd false) (eBin (wAdd false) (eBin wIx (eVar 17) (eC (.int 0))) (eBin (wMul false) (eC (.int 4)) (eBin wIx (eVar 17) (eC (.int 1))))) (eBin wIx (eVar 17) (eC (.int 2))))) aNil)) (aCons (eCallB m_sum (aCons (eLc false [17] (iSeq (eVar 10)) (gN 17) tYesx (eBin (wMul false) (eBin wSub (eBin wIx (eVar 17) (eC (.int 2))) (eBin wIx (eVar 17) (eC (.int 0)))) (eBin wSub (eBin wIx (eVar 17) (eC (.int 2))) (eBin wIx (eVar 17) (eC (.int 0)))))) aNil)) aNil)))
def lw5 : Sx := (sIf (tVal (eBin wNe (eCall 1 f_sum_of [] (aCons (eVar 10) aNil)) (eTup (aCons (eCall 2 f__law_least [] (aCons (eVar 11) (aCons (eC (.int 6)) aNil))) (aCons (eCall 2 f__law_least [] (aCons (eVar 12) (aCons (eC (.int 36)) aNil))) aNil))))) (sRet (eC (.bl false))) sNil)
def lw6 : Sx := (sAsg (eTup (aCons (eCall 1 f__law_weights [] (aCons (eVar 9) aNil)) (aCons (eCall 2 (n__law_roll 4) [] (aCons (eVar 1) (aCons (eC (.int 30)) aNil))) (aCons (eBin (wAdd false) (eC (.int 1)) (eCall 2 (n__law_roll 4) [] (aCons (eVar 1) (aCons (eC (.int 100)) aNil)))) aNil)))) (gTupx (gConsx (gN 13) (gConsx (gN 14) (gConsx (gN 15) gNilx)))))
def lw7 : Sx := (sAsg (eCallB m_sum (aCons (eLc false [17, 18] (iSeq (eVar 13)) (gTupx (gConsx (gN 17) (gConsx (gN 18) gNilx))) tYesx (eVar 18)) aNil)) (gN 2))
def lw8 : Sx := (sIf (tVal (eBin wNe (eItemsL false (eCall 1 f_chances [] (aCons (eVar 9) aNil))) (eVar 13))) (sRet (eC (.bl false))) sNil)
def lw9 : Sx := (sIf (tVal (eBin wNe (eCall 2 f_chance_by [] (aCons (eVar 9) (aCons (eVar 14) aNil))) (eCall 2 f__law_least [] (aCons (eCallB m_sum (aCons (eLc false [17, 18] (iSeq (eVar 13)) (gTupx (gConsx (gN 17) (gConsx (gN 18) gNilx))) (tVal (eBin wLe (eVar 17) (eVar 14))) (eVar 18)) aNil)) (aCons (eVar 2) aNil))))) (sRet (eC (.bl false))) sNil)
def lw10 : Sx := (sIf (tVal (eBin wNe (eBin wIx (eLc false [17, 18] (iSeq (eVar 13)) (gTupx (gConsx (gN 17) (gConsx (gN 18) gNilx))) (tVal (eBin wEq (eVar 17) (eBin wIx (eVar 9) (eC (.int 1))))) (eVar 18)) (eC (.int 0))) (eCallB m_max1 (aCons (eLc false [17, 18] (iSeq (eVar 13)) (gTupx (gConsx (gN 17) (gConsx (gN 18) gNilx))) tYesx (eVar 18)) aNil)))) (sRet (eC (.bl false))) sNil)
def lw11 : Sx := (sIf (tVal (eBin wNe (eCall 2 f_day_for [] (aCons (eVar 9) (aCons (eVar 15) aNil))) (eBin wIx (eLc false [17, 18] (iSeq (eVar 13)) (gTupx (gConsx (gN 17) (gConsx (gN 18) gNilx))) (tVal (eBin wGe (eBin (wMul false) (eC (.int 100)) (eCallB m_sum (aCons (eLc false [19, 20] (iSeq (eVar 13)) (gTupx (gConsx (gN 19) (gConsx (gN 20) gNilx))) (tVal (eBin wLe (eVar 19) (eVar 17))) (eVar 20)) aNil))) (eBin (wMul false) (eVar 15) (eVar 2)))) (eVar 17)) (eC (.int 0))))) (sRet (eC (.bl false))) sNil)
def lw12 : Sx := (sIf (tVal (eBin wNe (eItemsL false (eCall 1 f_together [] (aCons (eVar 10) aNil))) (eCall 2 f__law_all [] (aCons (eVar 10) (aCons (eC (.bl true)) aNil))))) (sRet (eC (.bl false))) sNil)
def lw13 : Sx := (sIf (tVal (eBin wNe (eItemsL false (eCall 1 f_later_of [] (aCons (eVar 10) aNil))) (eCall 2 f__law_all [] (aCons (eVar 10) (aCons (eC (.bl false)) aNil))))) (sRet (eC (.bl false))) sNil)
def lw14 : Sx := (sAsg (eCallB (m_dict false) (aCons (eCall 2 f__law_all [] (aCons (eVar 10) (aCons (eC (.bl true)) aNil))) aNil)) (gN 3))
def lw15 : Sx := (sIf (tVal (eBin wNe (eCall 1 f_mean_in [] (aCons (eVar 3) aNil)) (eCall 2 f__law_least [] (aCons (eCallB m_sum (aCons (eLc false [17] (iKeys (eVar 3)) (gN 17) tYesx (eBin (wMul false) (eVar 17) (eBin wIx (eVar 3) (eVar 17)))) aNil)) (aCons (eVals (fun is => some is.sum) (eVar 3)) aNil))))) (sRet (eC (.bl false))) sNil)
def lw16 : Sx := (sAsg (eLc false [16] (iR1 (aCons (eBin (wAdd false) (eC (.int 1)) (eCall 2 (n__law_roll 4) [] (aCons (eVar 1) (aCons (eC (.int 5)) aNil)))) aNil)) (gN 16) tYesx (eBin (wAdd false) (eC (.int 1)) (eCall 2 (n__law_roll 4) [] (aCons (eVar 1) (aCons (eC (.int 9)) aNil))))) (gN 4))
def lw17 : Sx := (sAsg (eLc false [17] (iSeq (eVar 4)) (gN 17) tYesx (eCall 2 (n__law_roll 4) [] (aCons (eVar 1) (aCons (eC (.int 15)) aNil)))) (gN 5))
def lw18 : Sx := (sIf (tVal (eBin wNe (eCall 2 f_learned [] (aCons (eVar 4) (aCons (eVar 5) aNil))) (eCall 2 f__law_least [] (aCons (eCallB m_sum (aCons (eVar 5) aNil)) (aCons (eCallB m_sum (aCons (eVar 4) aNil)) aNil))))) (sRet (eC (.bl false))) sNil)
def lw19 : Sx := (sAsg (eLc false [16] (iR1 (aCons (eBin (wAdd false) (eC (.int 1)) (eCall 2 (n__law_roll 4) [] (aCons (eVar 1) (aCons (eC (.int 7)) aNil)))) aNil)) (gN 16) tYesx (eCall 2 (n__law_roll 4) [] (aCons (eVar 1) (aCons (eC (.int 6)) aNil)))) (gN 6))
def lw20 : Sx := (sAsg (eCallB m_max1 (aCons (eLc false [17] (iSeq (eVar 6)) (gN 17) tYesx (eLM l_count (eVar 6) (aCons (eVar 17) aNil))) aNil)) (gN 7))
def lw21 : Sx := (sAsg (eLc false [17] (iSeq (eVar 6)) (gN 17) (tVal (eBin wEq (eLM l_count (eVar 6) (aCons (eVar 17) aNil)) (eVar 7))) (eVar 17)) (gN 8))
def lw22 : Sx := (sIf (tOrx (tVal (eBin wNe (eCall 1 f_agreed [] (aCons (eVar 6) aNil)) (eTup (aCons (eCallB m_min1 (aCons (eVar 8) aNil)) (aCons (eCallB m_max1 (aCons (eVar 8) aNil)) aNil))))) (tVal (eBin wNe (eCall 2 f_least [] (aCons (eVar 2) (aCons (eC (.int 12)) aNil))) (eCall 2 f__law_least [] (aCons (eVar 2) (aCons (eC (.int 12)) aNil)))))) (sRet (eC (.bl false))) sNil)
def lw23 : Sx := (sIf (tVal (eBin wNe (eCall 2 f_least [] (aCons (eUn wNeg (eVar 2)) (aCons (eC (.int 12)) aNil))) (eCall 2 f__law_least [] (aCons (eUn wNeg (eVar 2)) (aCons (eC (.int 12)) aNil))))) (sRet (eC (.bl false))) sNil)
theorem b_law_eq : b_law = (sSeq (sFor (iSeq (eCall 2 f__law_rounds [] (aCons (eVar 0) (aCons (eC (.int 1)) aNil)))) (gN 1) (sSeq lw0 (sSeq lw1 (sSeq lw2 (sSeq lw3 (sSeq lw4 (sSeq lw5 (sSeq lw6 (sSeq lw7 (sSeq lw8 (sSeq lw9 (sSeq lw10 (sSeq lw11 (sSeq lw12 (sSeq lw13 (sSeq lw14 (sSeq lw15 (sSeq lw16 (sSeq lw17 (sSeq lw18 (sSeq lw19 (sSeq lw20 (sSeq lw21 (sSeq lw22 lw23)))))))))))))))))))))))) (sRet (ePad (eCall 0 f__law_plain [] aNil)))) := rfl
end K03
end

/-! Qc -/
section
set_option Elab.async false
set_option linter.all false
set_option maxRecDepth 100000
set_option maxHeartbeats 4000000
namespace Pk
open PySem PySem.Spec L2
section
variable {K : W → HS → Prop} {E : Nat → HS → Prop} {h h1 : HS} {sl s : Sl} {c : Nat} {w x y : W} {fo fk fx fa fb fc : Ex} {m m' : W → W → HS → R W}
theorem wp_get2 (p : Wp (fo sl h) (fun d h1 => (∃ q, dview h1 d = some q) ∧ Wp (fk sl h1) (fun k h2 => Wp (fx sl h2) (fun x h3 => ∃ r : Option W, dget h3 d k = some r ∧ K (r.getD x) h3) E) E) E) : Wp (eGet2 fo fk fx sl h) K E := by
  refine wp_bind (wp_mono p (fun d h1 ⟨⟨q, e⟩, z⟩ => ?_) fun _ _ q => q)
  rw [e]
  refine wp_bind (wp_mono z (fun k h2 z => wp_bind (wp_mono z (fun x h3 ⟨r, e2, z⟩ => ?_) fun _ _ q => q)) fun _ _ q => q)
  cases r with
  | none => rw [e2]; exact z
  | some v => rw [e2]; exact z
theorem wp_fld {cs : List Nat} {f : Str} {n k : Nat} {ks : List Str} {ws : List W} {w : W} (e : h.at_ n = some (.ins k ks ws)) (e1 : cs.contains k = true) (e2 : slook ks ws f = some w) (p : K w h) : Wp (wFld cs f (.box n) h) K E := by
  unfold wFld
  dsimp only
  rw [e]
  dsimp only
  rw [if_pos e1, e2]
  exact p
theorem wp_ixL {ws : List W} {i : Int} {w : W} (e : sview h x = some ws) (nx : ∀ z, x ≠ .str z) (e2 : atI ws i = some w) (p : K w h) : Wp (wIx x (.int i) h) K E := by
  unfold wIx
  split
  · exact absurd rfl (nx _)
  · rw [e]
    dsimp only
    rw [e2]
    exact p
theorem wp_ixD {k : W} {w : W} (e : dview h x ≠ none) (ns : sview h x = none) (nx : ∀ z, x ≠ .str z) (e2 : dget h x k = some (some w)) (p : K w h) : Wp (wIx x k h) K E := by
  unfold wIx
  split
  · exact absurd rfl (nx _)
  · rw [ns]
    dsimp only
    rw [e2]
    exact p
theorem sview_box {n : Nat} {ks : List DK} {ws : List W} (e : h.at_ n = some (.dic ks ws)) : sview h (.box n) = none := by
  show lview h (.box n) = none
  unfold lview; simp only [e]
theorem dview_box {n : Nat} {ks : List DK} {ws : List W} (e : h.at_ n = some (.dic ks ws)) : dview h (.box n) = some (ks, ws) := by
  unfold dview; simp only [e]
theorem lview_box {n : Nat} {ws : List W} (e : h.at_ n = some (.lst ws)) : lview h (.box n) = some ws := by
  unfold lview; simp only [e]
theorem sview_boxL {n : Nat} {ws : List W} (e : h.at_ n = some (.lst ws)) : sview h (.box n) = some ws := lview_box e
/-- a chain of two comparisons of whole numbers, the third a constant -/
theorem wp_chain_ll {c : Int} (p : Wp (fa sl h) (fun x h1 => Wp (fb sl h1) (fun y h2 => IsI x fun a => IsI y fun b => K (.bl (decide (a ≤ b ∧ b ≤ c))) h2) E) E) : Wp (eChain wLe wLe fa fb (eC (.int c)) sl h) K E := by
  refine wp_chain (wp_mono p (fun x h1 z => wp_mono z (fun y h2 ⟨a, e1, b, e2, zz⟩ => ?_) fun _ _ q => q) fun _ _ q => q)
  subst e1 e2
  have zz : K (.bl (decide (a ≤ b ∧ b ≤ c))) h2 := zz
  refine wp_le (wp_asB ?_)
  by_cases q : a ≤ b
  · rw [if_pos (by simpa using q)]
    refine wp_bind (wp_c (wp_le ?_))
    rwa [show decide (a ≤ b ∧ b ≤ c) = decide (b ≤ c) by simp [q]] at zz
  · rw [if_neg (by simpa using q)]
    refine wp_ok ?_
    rwa [show decide (a ≤ b ∧ b ≤ c) = false by simp [q]] at zz
/-- a chain of two comparisons of whole numbers, the third a constant -/
theorem wp_chain_tt {c : Int} (p : Wp (fa sl h) (fun x h1 => Wp (fb sl h1) (fun y h2 => IsI x fun a => IsI y fun b => K (.bl (decide (a < b ∧ b < c))) h2) E) E) : Wp (eChain wLt wLt fa fb (eC (.int c)) sl h) K E := by
  refine wp_chain (wp_mono p (fun x h1 z => wp_mono z (fun y h2 ⟨a, e1, b, e2, zz⟩ => ?_) fun _ _ q => q) fun _ _ q => q)
  subst e1 e2
  have zz : K (.bl (decide (a < b ∧ b < c))) h2 := zz
  refine wp_lt (wp_asB ?_)
  by_cases q : a < b
  · rw [if_pos (by simpa using q)]
    refine wp_bind (wp_c (wp_lt ?_))
    rwa [show decide (a < b ∧ b < c) = decide (b < c) by simp [q]] at zz
  · rw [if_neg (by simpa using q)]
    refine wp_ok ?_
    rwa [show decide (a < b ∧ b < c) = false by simp [q]] at zz
theorem wp_pow {a b : Int} (e : 0 ≤ b ∧ b ≤ 1000000 ∧ a.natAbs < 2 ^ 64) (p : K (.int (a ^ b.toNat)) h) : Wp (wPow (.int a) (.int b) h) K E := wp_pos e p
theorem insOf_of {n k : Nat} {nm : Str} {ks : List Str} {ws : List W} (e : h.at_ n = some (.ins k ks ws)) (e2 : ks.contains nm = false) : insOf k nm (.box n) h = true := by
  unfold insOf
  simp only [e]
  rw [e2]
  simp
theorem wp_mulL {bx : Bool} {a : List W} {k : Int} (e : -(2 ^ 63) ≤ k ∧ k < 2 ^ 63 ∧ a.length * k.toNat ≤ sizeLine) (p : Wp (mkL bx (List.replicate k.toNat a).flatten h) K E) : Wp (wMul bx (.lst a) (.int k) h) K E := wp_pos (P := -(2 ^ 63) ≤ k ∧ k < 2 ^ 63 ∧ a.length * k.toNat ≤ sizeLine) e p
theorem wp_cut {bx : Bool} {lo hi : Px} (p : Wp (fa sl h) (fun x h1 => Wp (lo sl h1) (fun l h2 => Wp (hi sl h2) (fun u h3 => Wp (wCut bx x l u h3) K E) E) E) E) : Wp (eCut bx fa lo hi sl h) K E := wp_bind (wp_mono p (fun _ _ q => wp_bind (wp_mono q (fun _ _ q => wp_bind q) fun _ _ q => q)) fun _ _ q => q)
theorem wp_pno {K : Option Int → HS → Prop} (p : K none h) : Wp (pNo sl h) K E := p
theorem wp_psome {K : Option Int → HS → Prop} (p : Wp (fa sl h) (fun x h1 => IsI x fun i => K (some i) h1) E) : Wp (pSome fa sl h) K E := wp_bind (wp_mono p (fun _ _ ⟨_, e, q⟩ => by subst e; exact q) fun _ _ q => q)
theorem wp_cutScr {bx : Bool} {ns : List Int} {lo hi : Option Int} (p : Wp (mkL bx (cutW (ns.map W.int) lo hi) h) K E) : Wp (wCut bx (.scr ns) lo hi h) K E := p
theorem wp_cutL {bx : Bool} {ws : List W} {lo hi : Option Int} (p : Wp (mkL bx (cutW ws lo hi) h) K E) : Wp (wCut bx (.lst ws) lo hi h) K E := p
theorem wp_cutT {bx : Bool} {ws : List W} {lo hi : Option Int} (p : K (.tup (cutW ws lo hi)) h) : Wp (wCut bx (.tup ws) lo hi h) K E := p
def TvI (w : W) (P : List W → Prop) : Prop := ∃ ws, tview w = some ws ∧ P ws
theorem tvT {P : List W → Prop} {ws : List W} (p : P ws) : TvI (.tup ws) P := ⟨_, rfl, p⟩
theorem tvK {P : List W → Prop} {ws : List W} (p : P ws) : TvI (.kt ws) P := ⟨_, rfl, p⟩
theorem wp_zipL {bx : Bool} {fr : Ax} (p : Wp (fr sl h) (fun xs h1 => Is2 xs fun x y => TvI x fun a => TvI y fun b => Wp (mkL bx ((a.zip b).map fun p => .tup [p.1, p.2]) h1) K E) E) : Wp (eZipL bx fr sl h) K E :=
  wp_bind (wp_mono p (fun _ _ ⟨_, _, e, a, ea, b, eb, q⟩ => by subst e; dsimp only; rw [ea, eb]; exact q) fun _ _ q => q)
theorem wp_tupR {fr : Ax} (p : Wp (fr sl h) (fun xs h1 => Is3 xs fun a b c => IsI a fun i => IsI b fun j => IsI c fun c => (rgOk i j c = true ∧ rgN i j c ≤ 2 ^ 24) ∧ K (.tup (rItems i c (rgN i j c))) h1) E) : Wp (eTupR fr sl h) K E :=
  wp_bind (wp_mono p (fun _ _ ⟨_, _, _, e, _, e1, _, e2, _, e3, b, q⟩ => by subst e e1 e2 e3; exact wp_pos (by rw [b.1, decide_eq_true b.2]; rfl) q) fun _ _ q => q)
theorem wp_tyes {KT : Bool → HS → Prop} (p : KT true h) : Wp (tYesx sl h) KT E := p
theorem wp_len {ws : List W} (e : sview h x = some ws) (nx : ∀ z, x ≠ .str z) (p : K (.int ws.length) h) : Wp (m_len [x] h) K E := by
  unfold m_len
  split
  · rename_i z q
    exact absurd (List.cons.inj q).1 (nx _)
  · rename_i y q1 q
    cases q
    rw [e]
    exact p
  · rename_i q1 q
    exact absurd rfl (q _)
theorem wp_lenL {ws : List W} (p : K (.int ws.length) h) : Wp (m_len [.lst ws] h) K E := wp_len rfl (fun _ q => by cases q) p
theorem wp_lenT {ws : List W} (p : K (.int ws.length) h) : Wp (m_len [.tup ws] h) K E := wp_len rfl (fun _ q => by cases q) p
theorem wp_intI {i : Int} (p : K (.int i) h) : Wp (m_int [.int i] h) K E := p
theorem wp_intB {b : Bool} (p : K (.int (if b then 1 else 0)) h) : Wp (m_int [.bl b] h) K E := p
theorem wp_absI {i : Int} (p : K (.int (if i < 0 then -i else i)) h) : Wp (m_abs [.int i] h) K E := p
theorem wp_listT {ws : List W} (p : K (.lst ws) h) : Wp (m_list false [.tup ws] h) K E := p
theorem wp_listL {ws : List W} (p : K (.lst ws) h) : Wp (m_list false [.lst ws] h) K E := p
theorem wp_tupleL {ws : List W} (p : K (.tup ws) h) : Wp (m_tuple [.lst ws] h) K E := p
theorem wp_tupleT {ws : List W} (p : K (.tup ws) h) : Wp (m_tuple [.tup ws] h) K E := p
theorem intsOf_map (ns : List Int) : intsOf (ns.map W.int) = some ns := by
  induction ns with
  | nil => rfl
  | cons n ns ih => show (intsOf (ns.map W.int)).map (n :: ·) = _; rw [ih]; rfl
theorem wp_sumL {ns : List Int} (p : K (.int ns.sum) h) : Wp (m_sum [.lst (ns.map W.int)] h) K E := by
  unfold m_sum
  show Wp (match intsOf (ns.map W.int) with | some ns => R.ok (.int ns.sum) h | none => .no) K E
  rw [intsOf_map]
  exact p
/-! dicts with whole numbers as keys, whole numbers as values -/
def lookI : List (Int × Int) → Int → Option Int
  | [], _ => none
  | p :: l, x => if p.1 = x then some p.2 else lookI l x
def kI (p : Int × Int) : DK := .k (.inl p.1)
def vI (p : Int × Int) : W := .int p.2
theorem dlook_I (sg : List (Int × Int)) (x : Int) : dlook (sg.map kI) (sg.map vI) (.k (.inl x)) = (lookI sg x).map W.int := by
  induction sg with
  | nil => rfl
  | cons p l ih =>
    show (if kI p = DK.k (.inl x) then some (vI p) else dlook (l.map kI) (l.map vI) (.k (.inl x))) = (if p.1 = x then some p.2 else lookI l x).map W.int
    by_cases e : p.1 = x
    · rw [if_pos e, if_pos (by unfold kI; rw [e])]; rfl
    · rw [if_neg e, if_neg (by unfold kI; simp [e]), ih]
theorem all_sameI (sg : List (Int × Int)) (x : Int) : (sg.map kI).all (sameK (.k (.inl x))) = true := by
  rw [List.all_map, List.all_eq_true]; intro _ _; rfl
theorem dget_I {d : W} {sg : List (Int × Int)} (e : dview h d = some (sg.map kI, sg.map vI)) (x : Int) : dget h d (.int x) = some ((lookI sg x).map W.int) := by
  unfold dget
  rw [e]
  show (if (sg.map kI).all (sameK (.k (.inl x))) = true then some (dlook (sg.map kI) (sg.map vI) (.k (.inl x))) else none) = _
  rw [if_pos (all_sameI sg x), dlook_I]
end
end Pk
end

/-! Qd -/
section
set_option Elab.async false
set_option linter.all false
set_option maxRecDepth 100000
set_option maxHeartbeats 4000000
/-! dicts of whole numbers, fields -/
namespace Pk
open PySem PySem.Spec L2
section
variable {K : W → HS → Prop} {E : Nat → HS → Prop} {h h1 : HS} {sl s : Sl} {c : Nat} {w x y : W} {fo fk fx fa fb fc : Ex}
theorem wp_setF {cs : List Nat} {f : Str} {n k : Nat} {ks ks' : List Str} {ws ws' : List W} {y : W} {N : HS → Prop} (e : h.at_ n = some (.ins k ks ws)) (e1 : cs.contains k = true) (l : ks.length < 1000) (ek : sputK ks f = ks') (ew : sputW ks ws f y = ws')
    (p : N (h.put n (.ins k ks' ws'))) : ∃ h3, setFld cs f (.box n) y h = some h3 ∧ N h3 := by
  refine ⟨_, ?_, p⟩
  unfold setFld
  simp only [e, e1, l, ek, ew, and_self, if_true]
def putI : List (Int × Int) → Int → Int → List (Int × Int)
  | [], d, x => [(d, x)]
  | p :: l, d, x => if p.1 = d then (d, x) :: l else p :: putI l d x
theorem putI_cons {p : Int × Int} {l : List (Int × Int)} {d x : Int} : putI (p :: l) d x = if p.1 = d then (d, x) :: l else p :: putI l d x := rfl
def delI (sg : List (Int × Int)) (d : Int) : List (Int × Int) := sg.filter fun p => decide (p.1 ≠ d)
def NdI (sg : List (Int × Int)) : Prop := (sg.map (·.1)).Nodup
theorem lookI_none {sg : List (Int × Int)} {d : Int} : lookI sg d = none ↔ ∀ p ∈ sg, p.1 ≠ d := by
  induction sg with
  | nil => simp [lookI]
  | cons p l ih =>
    unfold lookI
    by_cases e : p.1 = d
    · rw [if_pos e]; simp [e]
    · rw [if_neg e, ih]; simp [e]
theorem lookI_mem {sg : List (Int × Int)} {d x : Int} (h : lookI sg d = some x) : (d, x) ∈ sg := by
  induction sg with
  | nil => cases h
  | cons p l ih =>
    unfold lookI at h
    by_cases e : p.1 = d
    · rw [if_pos e] at h
      cases h
      rw [← e]
      exact List.mem_cons_self
    · rw [if_neg e] at h
      exact List.mem_cons_of_mem _ (ih h)
theorem lookI_of_mem {sg : List (Int × Int)} (nd : NdI sg) {d x : Int} (h : (d, x) ∈ sg) : lookI sg d = some x := by
  induction sg with
  | nil => cases h
  | cons p l ih =>
    have nd' := List.nodup_cons.mp (show (p.1 :: l.map (·.1)).Nodup from nd)
    unfold lookI
    rcases List.mem_cons.mp h with e | h
    · rw [← e, if_pos rfl]
    · rw [if_neg (fun z => nd'.1 (by rw [z]; exact List.mem_map.mpr ⟨_, h, rfl⟩))]
      exact ih nd'.2 h
theorem putI_keys {sg : List (Int × Int)} {d x : Int} : (putI sg d x).map (·.1) = if d ∈ sg.map (·.1) then sg.map (·.1) else sg.map (·.1) ++ [d] := by
  induction sg with
  | nil => rfl
  | cons p l ih =>
    unfold putI
    by_cases e : p.1 = d
    · rw [if_pos e, if_pos (by rw [← e]; exact List.mem_cons_self), List.map_cons, List.map_cons, e]
    · rw [if_neg e, List.map_cons, List.map_cons, ih]
      by_cases m : d ∈ l.map (·.1)
      · rw [if_pos m, if_pos (List.mem_cons_of_mem _ m)]
      · rw [if_neg m, if_neg (by rw [List.mem_cons]; rintro (z | z); exact e z.symm; exact m z)]; rfl
theorem putI_nd {sg : List (Int × Int)} {d x : Int} (nd : NdI sg) : NdI (putI sg d x) := by
  unfold NdI
  rw [putI_keys]
  split
  · exact nd
  · rename_i m
    exact List.nodup_append.mpr ⟨nd, by simp, fun a ha b hb => by rw [List.mem_singleton.mp hb]; exact fun z => m (by rw [← z]; exact ha)⟩
theorem putI_mem {sg : List (Int × Int)} {d x : Int} {p : Int × Int} (h : p ∈ putI sg d x) : p = (d, x) ∨ p ∈ sg := by
  induction sg with
  | nil => exact .inl (List.mem_singleton.mp h)
  | cons q l ih =>
    unfold putI at h
    split at h
    · rcases List.mem_cons.mp h with e | h
      · exact .inl e
      · exact .inr (List.mem_cons_of_mem _ h)
    · rcases List.mem_cons.mp h with e | h
      · exact .inr (by rw [e]; exact List.mem_cons_self)
      · rcases ih h with e | h
        · exact .inl e
        · exact .inr (List.mem_cons_of_mem _ h)
theorem putI_length {sg : List (Int × Int)} {d x : Int} : (putI sg d x).length ≤ sg.length + 1 := by
  induction sg with
  | nil => simp [putI]
  | cons q l ih =>
    unfold putI
    split
    · simp
    · simp only [List.length_cons]; omega
theorem delI_nd {sg : List (Int × Int)} {d : Int} (nd : NdI sg) : NdI (delI sg d) := by
  unfold NdI delI
  exact List.Sublist.nodup ((List.filter_sublist).map _) nd
theorem dput_I (sg : List (Int × Int)) (nd : NdI sg) (d x : Int) : dputK (sg.map kI) (.k (.inl d)) = (putI sg d x).map kI ∧ dputW (sg.map kI) (sg.map vI) (.k (.inl d)) (.int x) = (putI sg d x).map vI := by
  have hh : ∀ l : List (Int × Int), dhas (l.map kI) (.k (.inl d)) = decide (d ∈ l.map (·.1)) := by
    intro l
    unfold dhas
    induction l with
    | nil => rfl
    | cons p l ih =>
      rw [List.map_cons, List.any_cons, ih]
      by_cases e : p.1 = d
      · simp [kI, e]
      · have : d ≠ p.1 := fun z => e z.symm
        simp [kI, e, this]
  have pk : (putI sg d x).map kI = ((putI sg d x).map (·.1)).map fun k => DK.k (.inl k) := by rw [List.map_map]; rfl
  have sk : sg.map kI = (sg.map (·.1)).map fun k => DK.k (.inl k) := by rw [List.map_map]; rfl
  constructor
  · unfold dputK
    rw [hh, pk, putI_keys]
    by_cases m : d ∈ sg.map (·.1)
    · rw [if_pos (by simpa using m), if_pos m, sk]
    · rw [if_neg (by simpa using m), if_neg m, List.map_append, sk]; rfl
  · unfold dputW
    rw [hh]
    have rp : ∀ l : List (Int × Int), NdI l → drepl (l.map kI) (l.map vI) (.k (.inl d)) (.int x) = if d ∈ l.map (·.1) then (putI l d x).map vI else l.map vI := by
      intro l
      induction l with
      | nil => intro _; rfl
      | cons p l ih =>
        intro nd
        have nd' := List.nodup_cons.mp (show (p.1 :: l.map (·.1)).Nodup from nd)
        show (if kI p = DK.k (.inl d) then W.int x else vI p) :: drepl (l.map kI) (l.map vI) (.k (.inl d)) (.int x) = _
        rw [ih nd'.2]
        by_cases e : p.1 = d
        · rw [if_pos (by unfold kI; rw [e]), if_neg (by rw [← e]; exact nd'.1), if_pos (by rw [← e]; exact List.mem_cons_self)]
          rw [putI_cons, if_pos e]
          rfl
        · rw [if_neg (by unfold kI; simp [e]), putI_cons, if_neg e]
          by_cases m : d ∈ l.map (·.1)
          · rw [if_pos m, if_pos (by rw [List.map_cons]; exact List.mem_cons_of_mem _ m)]; rfl
          · rw [if_neg m, if_neg (by rw [List.map_cons, List.mem_cons]; rintro (z | z); exact e z.symm; exact m z)]; rfl
    by_cases m : d ∈ sg.map (·.1)
    · rw [if_pos (by simpa using m), rp sg nd, if_pos m]
    · rw [if_neg (by simpa using m)]
      clear rp pk sk nd
      induction sg with
      | nil => rfl
      | cons p l ih =>
        rw [List.map_cons, List.mem_cons] at m
        have m1 : p.1 ≠ d := fun z => m (.inl z.symm)
        rw [putI_cons, if_neg m1, List.map_cons, List.map_cons, List.cons_append, ih (fun z => m (.inr z))]
theorem wp_setI {n : Nat} {sg : List (Int × Int)} {d x : Int} {N : HS → Prop} (e : h.at_ n = some (.dic (sg.map kI) (sg.map vI))) (nd : NdI sg) (l : sg.length < sizeLine) (p : N (h.put n (.dic ((putI sg d x).map kI) ((putI sg d x).map vI)))) :
    ∃ h4, setIx (.box n) (.int d) (.int x) h = some h4 ∧ N h4 := by
  refine ⟨_, ?_, p⟩
  obtain ⟨a, b⟩ := dput_I sg nd d x
  unfold setIx
  simp only [e, kOf, all_sameI, List.length_map, l, and_self, if_true, a, b]
theorem win_I {d : W} {sg : List (Int × Int)} (e : dview h d = some (sg.map kI, sg.map vI)) (x : Int) : win h (.int x) d = some (lookI sg x).isSome := by
  unfold win
  rw [dget_I e]
  cases lookI sg x <;> rfl
theorem ddel_I (sg : List (Int × Int)) (d : Int) : ddelK (sg.map kI) (.k (.inl d)) = (delI sg d).map kI ∧ ddelW (sg.map kI) (sg.map vI) (.k (.inl d)) = (delI sg d).map vI := by
  constructor
  · unfold ddelK delI
    rw [List.filter_map]
    congr 1
    refine List.filter_congr fun p _ => ?_
    simp [kI]
  · induction sg with
    | nil => rfl
    | cons p l ih =>
      show (if kI p ≠ DK.k (.inl d) then vI p :: ddelW (l.map kI) (l.map vI) (.k (.inl d)) else ddelW (l.map kI) (l.map vI) (.k (.inl d))) = _
      rw [ih]
      unfold delI
      by_cases e : p.1 = d
      · rw [if_neg (by simp [kI, e]), List.filter_cons_of_neg (by simp [e])]
      · rw [if_pos (by simp [kI, e]), List.filter_cons_of_pos (by simp [e])]; rfl
theorem isK_I (sg : List (Int × Int)) : (sg.map kI).all isK = true := by rw [List.all_map, List.all_eq_true]; intro _ _; rfl
theorem wp_delI {n : Nat} {sg : List (Int × Int)} {d : Int} {N : HS → Prop} (e : h.at_ n = some (.dic (sg.map kI) (sg.map vI))) (hm : (lookI sg d).isSome = true) (p : N (h.put n (.dic ((delI sg d).map kI) ((delI sg d).map vI)))) :
    ∃ h4, delIx (.box n) (.int d) h = some h4 ∧ N h4 := by
  refine ⟨_, ?_, p⟩
  obtain ⟨a, b⟩ := ddel_I sg d
  unfold delIx
  have z : (dlook (sg.map kI) (sg.map vI) (.k (.inl d))).isSome = true := by rw [dlook_I]; cases q : lookI sg d with
    | none => rw [q] at hm; cases hm
    | some v => rfl
  simp only [e, kOf, isK_I, z, and_self, if_true, a, b]
/-! dict(pairs), list(d.items()) -/
def prI (p : Int × Int) : W := .tup [.int p.1, .int p.2]
theorem pairsOf_I (l : List (Int × Int)) : pairsOf (l.map prI) = some (l.map fun p => (.inl p.1, .int p.2)) := by
  induction l with
  | nil => rfl
  | cons p l ih =>
    show (match kOf (.int p.1), pairsOf (l.map prI) with
      | some (.k j), some ps => some ((j, W.int p.2) :: ps)
      | _, _ => none) = _
    rw [ih]
    rfl
theorem mergeP_I : ∀ (l sg : List (Int × Int)), NdI sg → mergeP (l.map fun p => (.inl p.1, .int p.2)) (sg.map kI, sg.map vI) = ((l.foldl (fun s p => putI s p.1 p.2) sg).map kI, (l.foldl (fun s p => putI s p.1 p.2) sg).map vI)
  | [], _, _ => rfl
  | p :: l, sg, nd => by
    show mergeP (l.map fun p => (.inl p.1, .int p.2)) (putP (sg.map kI, sg.map vI) (.k (.inl p.1)) (.int p.2)) = _
    unfold putP
    obtain ⟨a, b⟩ := dput_I sg nd p.1 p.2
    rw [a, b, mergeP_I l _ (putI_nd nd)]
    rfl
theorem putI_new {sg : List (Int × Int)} {d x : Int} (h : d ∉ sg.map (·.1)) : putI sg d x = sg ++ [(d, x)] := by
  induction sg with
  | nil => rfl
  | cons p l ih =>
    rw [List.map_cons, List.mem_cons] at h
    unfold putI
    rw [if_neg (fun z => h (.inl z.symm)), ih (fun z => h (.inr z))]
    rfl
theorem fold_self : ∀ (l sg : List (Int × Int)), NdI (sg ++ l) → l.foldl (fun s p => putI s p.1 p.2) sg = sg ++ l
  | [], sg, _ => by simp
  | p :: l, sg, nd => by
    have e : putI sg p.1 p.2 = sg ++ [p] := putI_new (by
      have nd : ((sg.map (·.1)) ++ (p.1 :: l.map (·.1))).Nodup := by simpa [NdI] using nd
      intro z
      exact (List.nodup_append.mp nd).2.2 p.1 z p.1 List.mem_cons_self rfl)
    rw [List.foldl_cons, e, fold_self l _ (by rw [List.append_assoc]; exact nd), List.append_assoc]
    rfl
theorem wp_dictI {l sg : List (Int × Int)} (e : l.foldl (fun s p => putI s p.1 p.2) [] = sg) (p : K (.dic (sg.map kI) (sg.map vI)) h) : Wp (m_dict false [.lst (l.map prI)] h) K E := by
  unfold m_dict
  show Wp (match pairsOf (l.map prI) with | some ps => mkD false (mergeP ps ([], [])).1 (mergeP ps ([], [])).2 h | none => .no) K E
  rw [pairsOf_I]
  have z := mergeP_I l [] (by simp [NdI])
  dsimp only
  rw [show (([] : List DK), ([] : List W)) = (([] : List (Int × Int)).map kI, ([] : List (Int × Int)).map vI) from rfl, z, e]
  exact p
theorem wp_itemsI {bx : Bool} {sg : List (Int × Int)} (p : Wp (fa sl h) (fun w h1 => dview h1 w = some (sg.map kI, sg.map vI) ∧ Wp (mkL bx (sg.map prI) h1) K E) E) : Wp (eItemsL bx fa sl h) K E := by
  refine wp_bind (wp_mono p (fun w h1 ⟨e, q⟩ => ?_) fun _ _ q => q)
  rw [e]
  have f : flatK (sg.map kI) = true := by unfold flatK; rw [List.all_map, List.all_eq_true]; intro _ _; rfl
  have z : (((sg.map kI).zip (sg.map vI)).map fun p => W.tup [dkW p.1, p.2]) = sg.map prI := by
    rw [List.zip_map', List.map_map]
    rfl
  dsimp only
  rw [if_pos f, z]
  exact q
theorem weq_dicI {x y : W} {sg : List (Int × Int)} (nd : NdI sg) (ex : dview h x = some (sg.map kI, sg.map vI)) (ey : dview h y = some (sg.map kI, sg.map vI)) : weq h x y = some true := by
  have t : ∀ l : List (Int × Int), (∀ p ∈ l, p ∈ sg) → dEqT (sg.map kI) (sg.map vI) (l.map kI) (l.map vI) = true := by
    intro l
    induction l with
    | nil => intro _; rfl
    | cons p l ih =>
      intro hl
      show (isK (kI p) && (match flV (vI p), dlook (sg.map kI) (sg.map vI) (kI p) with
        | some v, some w' => decide (flV w' = some v)
        | _, _ => false) && dEqT (sg.map kI) (sg.map vI) (l.map kI) (l.map vI)) = true
      rw [ih fun q hq => hl q (List.mem_cons_of_mem _ hq)]
      have e := lookI_of_mem nd (hl p List.mem_cons_self)
      have e2 : dlook (sg.map kI) (sg.map vI) (kI p) = some (.int p.2) := by
        show dlook (sg.map kI) (sg.map vI) (.k (.inl p.1)) = _
        rw [dlook_I, e]
        rfl
      rw [e2]
      simp [isK, kI, vI, flV]
  unfold weq
  split
  · cases ex
  · cases ex
  · cases ex
  · rw [ex, ey]
    dsimp only
    rw [if_pos ⟨rfl, isK_I sg, t sg fun _ h => h⟩]
end
end Pk
end

/-! Qe -/
section
set_option Elab.async false
set_option linter.all false
set_option maxRecDepth 100000
set_option maxHeartbeats 4000000
/-! texts -/
namespace Pk
open PySem PySem.Spec L2
open PySem.StrLaws Builtin.Str
theorem txt_ext {a b : Str} (e : a.cps.toList = b.cps.toList) : a = b := by
  cases a; cases b
  congr 1
  exact Array.toList_inj.mp e
theorem occ_first {x : Str} {c : Nat} {p q : List Nat} (e : x.cps.toList = p ++ c :: q) (hp : c ∉ p) : occurrences x ⟨#[c]⟩ 0 x.length 1 = [p.length] := by
  rw [occ_eq]
  have at_ : ∀ i : Nat, (i + (⟨#[c]⟩ : Str).length ≤ x.length ∧ subAt x ⟨#[c]⟩ i = true) ↔ x.cps.toList[i]? = some c := fun i => subAt_one x c i
  have before : ∀ i : Nat, i < p.length → x.cps.toList[i]? ≠ some c := fun i hi z => by
    rw [e, List.getElem?_append_left hi] at z
    exact hp (List.mem_of_getElem? z)
  have here : x.cps.toList[p.length]? = some c := by rw [e]; simp
  have stay : ∀ (l : List Nat) (a : Nat) (f : Nat), (forIn l ((#[a] : Array Nat), f) (occBody x ⟨#[c]⟩ x.length 1)).run.fst = #[a] := by
    intro l
    induction l with
    | nil => intro a f; rfl
    | cons i l ih =>
      intro a f
      rw [List.forIn_cons]
      unfold occBody
      rw [if_neg (by simp)]
      exact ih a f
  have run : ∀ (n i : Nat), i ≤ p.length → p.length < i + n → (forIn (List.range' i n) ((#[] : Array Nat), 0) (occBody x ⟨#[c]⟩ x.length 1)).run.fst = #[p.length] := by
    intro n
    induction n with
    | zero => intro i h1 h2; omega
    | succ n ih =>
      intro i h1 h2
      rw [List.range'_succ, List.forIn_cons]
      unfold occBody
      by_cases hi : i = p.length
      · subst hi
        have z := (at_ p.length).mpr here
        rw [if_pos ⟨⟨⟨by simp, Nat.zero_le _⟩, z.1⟩, z.2⟩]
        exact stay _ _ _
      · rw [if_neg (fun z => before i (by omega) ((at_ i).mp ⟨z.1.2, z.2⟩))]
        exact ih (i + 1) (by omega) (by omega)
  have hl : p.length < x.length := by
    have : x.cps.toList.length = x.length := Array.length_toList
    rw [← this, e]
    simp
  rw [run (x.length + 1 - 0) 0 (Nat.zero_le _) (by omega)]
theorem partition_one {x : Str} {c : Nat} {p q : List Nat} (e : x.cps.toList = p ++ c :: q) (hp : c ∉ p) : Txt.partition x ⟨#[c]⟩ = (⟨p.toArray⟩, ⟨#[c]⟩, ⟨q.toArray⟩) := by
  unfold Txt.partition
  rw [occ_first e hp]
  have hl : x.length = p.length + 1 + q.length := by
    have : x.cps.toList.length = x.length := Array.length_toList
    rw [← this, e]
    simp
    omega
  have z : (⟨#[c]⟩ : Str).length = 1 := rfl
  simp only [z]
  congr 1
  · refine txt_ext ?_
    unfold strSub
    simp [e]
  · congr 1
    refine txt_ext ?_
    unfold strSub
    simp [e, hl]
theorem startswith_one {x : Str} {c : Nat} {q : List Nat} (e : x.cps.toList = c :: q) : Txt.startswith x ⟨#[c]⟩ = true := by
  unfold Txt.startswith
  have := (subAt_one x c 0).mpr (by rw [e]; rfl)
  rw [Bool.and_eq_true, decide_eq_true_eq]
  exact this
theorem toList_app (a b : Str) : (a ++ b).cps.toList = a.cps.toList ++ b.cps.toList := by
  show (a.cps ++ b.cps).toList = _
  simp
theorem str_len (a : Str) : a.length = a.cps.toList.length := by simp [Str.length]
section
variable {K : W → HS → Prop} {E : Nat → HS → Prop} {h h1 : HS} {sl s : Sl} {c : Nat} {w x y : W} {fo fk fx fa fb fc f : Ex}
theorem wp_jsN {acc : Str} (p : K (.str acc) h) : Wp (eJs [] acc sl h) K E := p
theorem wp_jsC {fs : List Ex} {acc : Str} (p : Wp (f sl h) (fun x h1 => IsS x fun y => (acc ++ y).length ≤ sizeLine ∧ Wp (eJs fs (acc ++ y) sl h1) K E) E) : Wp (eJs (f :: fs) acc sl h) K E :=
  wp_bind (wp_mono p (fun _ _ ⟨_, e, l, q⟩ => by subst e; exact wp_pos l q) fun _ _ q => q)
theorem wp_fmt (p : Wp (fa sl h) (fun x h1 => Wp (fmtW x h1) K E) E) : Wp (eFmt fa sl h) K E := wp_bind p
theorem wp_fmtI {i : Int} (l : i.natAbs < 2 ^ 1920) (p : K (.str (toString i)) h) : Wp (fmtW (.int i) h) K E := by
  refine wp_pos (P := i.natAbs.log2 < 1920) ?_ p
  by_cases z : i.natAbs = 0
  · rw [z]; decide
  · exact (Nat.log2_lt z).mpr l
theorem wp_strI {i : Int} (l : i.natAbs < 2 ^ 1920) (p : K (.str (toString i)) h) : Wp (m_str [.int i] h) K E := by
  refine wp_pos (P := i.natAbs.log2 < 1920) ?_ p
  by_cases z : i.natAbs = 0
  · rw [z]; decide
  · exact (Nat.log2_lt z).mpr l
theorem wp_s1 {m : Str → W → HS → R W} {fe : Ex} (p : Wp (fo sl h) (fun x h1 => IsS x fun a => Wp (fe sl h1) (fun y h2 => Wp (m a y h2) K E) E) E) : Wp (eS1 m fo fe sl h) K E :=
  wp_bind (wp_mono p (fun _ _ ⟨_, e, q⟩ => by subst e; exact wp_bind q) fun _ _ q => q)
theorem wp_partition {a b : Str} (e : b.length ≠ 0 ∧ a.length ≤ sizeLine) (p : K (.tup [.str (Txt.partition a b).1, .str (Txt.partition a b).2.1, .str (Txt.partition a b).2.2]) h) : Wp (m_partition a (.str b) h) K E := wp_pos e p
theorem wp_starts {a b : Str} (p : K (.bl (Txt.startswith a b)) h) : Wp (m_startswith a (.str b) h) K E := p
theorem wp_cutStr {bx : Bool} {z : Str} {lo hi : Option Int} (e : z.length ≤ sizeLine) (p : K (.str (cutS z lo hi)) h) : Wp (wCut bx (.str z) lo hi h) K E := wp_pos e p
theorem wp_lenS {z : Str} (e : z.length ≤ sizeLine) (p : K (.int z.length) h) : Wp (m_len [.str z] h) K E := wp_pos e p
theorem wp_intS {a : Str} {n : Int} (e : PySem.intText? a = some n) (l : a.length ≤ 640) (p : K (.int n) h) : Wp (m_int [.str a] h) K E := by
  unfold m_int
  dsimp only
  rw [e]
  exact wp_pos l p
theorem wp_ixS {z : Str} {i : Int} {c : Nat} (e : z.length ≤ sizeLine) (e2 : atI z.cps.toList i = some c) (p : K (.str ⟨#[c]⟩) h) : Wp (wIx (.str z) (.int i) h) K E := by
  unfold wIx
  dsimp only
  rw [if_pos e, e2]
  exact p
theorem wp_tx {fr : Ax} {ys : List Str} (p : Wp (fr sl h) (fun ws h1 => strsOf ws = some ys ∧ ys.length ≤ sizeLine ∧ K (.tx ys) h1) E) : Wp (eTx fr sl h) K E :=
  wp_bind (wp_mono p (fun _ _ ⟨e, l, q⟩ => by rw [e]; exact wp_pos l q) fun _ _ q => q)
theorem wp_txIx {fe : Ex} (p : Wp (fo sl h) (fun x h1 => ∃ ys, x = .tx ys ∧ Wp (fe sl h1) (fun y h2 => ∃ z j, y = .str z ∧ ixOf z ys = some j ∧ K (.int (j : Nat)) h2) E) E) : Wp (eTxIx fo fe sl h) K E :=
  wp_bind (wp_mono p (fun _ _ ⟨_, e, q⟩ => by subst e; exact wp_bind (wp_mono q (fun _ _ ⟨_, _, e1, e2, q⟩ => by subst e1; unfold txIx; dsimp only; rw [e2]; exact q) fun _ _ q => q)) fun _ _ q => q)
theorem win_sign {c : Nat} {j : Str} : win h (.str ⟨#[c]⟩) (.str j) = some (decide (c ∈ j.cps.toList)) := rfl
end
end Pk
end

/-! Qf -/
section
set_option Elab.async false
set_option linter.all false
set_option maxRecDepth 100000
set_option maxHeartbeats 4000000
namespace Pk
open PySem PySem.Spec L2
section
variable {h : HS} {x y : W} {sl : Sl} {K : W → HS → Prop} {E : Nat → HS → Prop} {fo fe fk fx fa fb : Ex} {g : Gx} {sb : Sx} {N : Sl → HS → Prop} {T : W → HS → Prop} {B C : Sl → HS → Prop} {tt : Tx} {te : Ex} {own : List Nat} {KI : List W → (HS → Bool) → HS → Prop} {src : Ix}
/-- a loop over known things, told by those that are done -/
theorem ws_forP {γ : Type} {kp : HS → Bool} {ns : List γ} (ex : γ → W) (I : List γ → Sl → HS → Prop) (h0 : I [] sl h) (hk : ∀ d sl h, I d sl h → kp h = true)
    (hs : ∀ d n r sl h, ns = d ++ n :: r → I d sl h → Gp (g (ex n) sl h) (fun s h1 => Ws (sb s h1) (I (d ++ [n])) T N (I (d ++ [n])) E)) (hd : ∀ sl h, I ns sl h → N sl h) : Ws (forL kp g sb (ns.map ex) sl h) N T B C E := by
  refine ws_forL (fun i sl h => I (ns.take i) sl h) (by simpa using h0) (fun i sl h _ q => hk _ sl h q) (fun i w sl h e q => ?_) (fun sl h q => ?_)
  · rw [List.getElem?_map] at e
    cases e2 : ns[i]? with
    | none => rw [e2] at e; cases e
    | some n =>
      rw [e2] at e
      cases e
      have tk : ns.take (i + 1) = ns.take i ++ [n] := by rw [List.take_add_one, e2]; rfl
      have sp : ns = ns.take i ++ n :: ns.drop (i + 1) := by
        have hi := (List.getElem?_eq_some_iff.mp e2)
        obtain ⟨hi, e3⟩ := hi
        rw [← e3, ← List.drop_eq_getElem_cons hi, List.take_append_drop]
      rw [tk]
      exact hs _ n _ sl h sp q
  · rw [List.length_map, List.take_length] at q
    exact hd sl h q
theorem wp_lcP {γ : Type} {kp : HS → Bool} {ns : List γ} {KA : List W → HS → Prop} (ex : γ → W) (I : List γ → List W → HS → Prop) (hl : ns.length ≤ sizeLine) (h0 : I [] [] h) (hk : ∀ d acc h, I d acc h → kp h = true)
    (hs : ∀ d n r acc h, ns = d ++ n :: r → I d acc h → Gp (g (ex n) (wipeS sl own) h) (fun s h1 => Wp (tt s h1) (fun b h2 => (b = true → Wp (te s h2) (fun y h3 => I (d ++ [n]) (acc ++ [y]) h3) NoE) ∧ (b = false → I (d ++ [n]) acc h2)) NoE))
    (hd : ∀ acc h, I ns acc h → KA acc h) : Wp (lcLoop own kp g tt te sl (ns.map ex) [] h) KA E := by
  refine wp_lcLoopI (fun i acc h => I (ns.take i) acc h) (by simpa using h0) (by simpa using hl) (fun i acc h _ q => hk _ acc h q) (fun i w acc h e q => ?_) (fun acc h q => ?_)
  · rw [List.getElem?_map] at e
    cases e2 : ns[i]? with
    | none => rw [e2] at e; cases e
    | some n =>
      rw [e2] at e
      cases e
      have tk : ns.take (i + 1) = ns.take i ++ [n] := by rw [List.take_add_one, e2]; rfl
      have sp : ns = ns.take i ++ n :: ns.drop (i + 1) := by
        obtain ⟨hi, e3⟩ := (List.getElem?_eq_some_iff.mp e2)
        rw [← e3, ← List.drop_eq_getElem_cons hi, List.take_append_drop]
      rw [tk]
      exact hs _ n _ acc h sp q
  · rw [List.length_map, List.take_length] at q
    exact hd acc h q
/-- a dict of ints by ints -/
def Dv (h : HS) (w : W) (sg : List (Int × Int)) : Prop := dview h w = some (sg.map kI, sg.map vI)
theorem zip_kv (sg : List (Int × Int)) : ((sg.map kI).zip (sg.map vI)).map (fun p => W.tup [dkW p.1, p.2]) = sg.map prI := by
  rw [List.zip_map', List.map_map]; rfl
theorem flat_I (sg : List (Int × Int)) : flatK (sg.map kI) = true := by unfold flatK; rw [List.all_map, List.all_eq_true]; intro _ _; rfl
theorem unKs_I : ∀ sg : List (Int × Int), unKs (sg.map kI) = some ((sg.map (·.1)).map W.int)
  | [] => rfl
  | p :: sg => by rw [List.map_cons]; unfold unKs; rw [unKs_I sg]; rfl
theorem ints_vI (sg : List (Int × Int)) : intsOf (sg.map vI) = some (sg.map (·.2)) := by
  have := intsOf_map (sg.map (·.2))
  rwa [List.map_map] at this
theorem ip_items {sg : List (Int × Int)} (p : Wp (fa sl h) (fun w h1 => Dv h1 w sg ∧ KI (sg.map prI) (fun _ => true) (lkW w h1)) E) : Ip (iItems fa sl h) KI E := by
  refine wp_bind (wp_mono p (fun w h1 ⟨d, q⟩ => ?_) fun _ _ q => q)
  unfold Dv at d
  simp only [d, flat_I, if_true, zip_kv]
  exact q
theorem ip_vals {sg : List (Int × Int)} (p : Wp (fa sl h) (fun w h1 => Dv h1 w sg ∧ KI ((sg.map (·.2)).map W.int) (fun _ => true) (lkW w h1)) E) : Ip (iVals fa sl h) KI E := by
  refine wp_bind (wp_mono p (fun w h1 ⟨d, q⟩ => ?_) fun _ _ q => q)
  unfold Dv at d
  simp only [d, flat_I, if_true]
  rw [List.map_map] at q
  exact q
theorem ip_keysI {sg : List (Int × Int)} (p : Wp (fa sl h) (fun w h1 => Dv h1 w sg ∧ KI ((sg.map (·.1)).map W.int) (fun _ => true) (lkW w h1)) E) : Ip (iKeys fa sl h) KI E := by
  refine ip_keys (wp_mono p (fun w h1 ⟨d, q⟩ => ⟨_, _, d, ?_⟩) fun _ _ q => q)
  rw [List.map_map] at q ⊢
  exact q
theorem wp_vals {m : List Int → Option Int} {sg : List (Int × Int)} (p : Wp (fa sl h) (fun w h1 => Dv h1 w sg ∧ ∃ i, m (sg.map (·.2)) = some i ∧ K (.int i) h1) E) : Wp (eVals m fa sl h) K E := by
  refine wp_bind (wp_mono p (fun w h1 ⟨d, i, e, q⟩ => ?_) fun _ _ q => q)
  unfold Dv at d
  simp only [d, flat_I, if_true, ints_vI, e]
  exact q
theorem wp_lenD {sg : List (Int × Int)} (d : Dv h x sg) (nx : ∀ z, x ≠ .str z) (ns : sview h x = none) (ne : sg ≠ []) (p : K (.int sg.length) h) : Wp (m_len [x] h) K E := by
  have e : m_len [x] h = .ok (.int sg.length) h := by
    unfold Dv at d
    unfold m_len
    split
    · rename_i z e
      cases e
      exact absurd rfl (nx _)
    · rename_i y e
      cases e
      rw [ns, d]
      have : sg.map kI ≠ [] := fun z => ne (List.map_eq_nil_iff.mp z)
      simp only [isK_I, this, ne_eq, not_false_eq_true, and_self, if_true, List.length_map]
    · rename_i e
      exact absurd rfl (e x)
  rw [e]
  exact p
theorem wp_min1 {ns : List Int} {m : Int} (e : minI ns = some m) (p : K (.int m) h) : Wp (m_min1 [.lst (ns.map W.int)] h) K E := by
  have e2 : m_min1 [.lst (ns.map W.int)] h = .ok (.int m) h := by
    show (match lview h (.lst (ns.map W.int)) with
      | some ws => match intsOf ws with
        | some is => match minI is with
          | some m => R.ok (W.int m) h
          | none => .no
        | none => .no
      | none => .no) = _
    rw [show lview h (.lst (ns.map W.int)) = some (ns.map W.int) from rfl]
    simp only [intsOf_map, e]
  rw [e2]
  exact p
theorem wp_max1 {ns : List Int} {m : Int} (e : maxI ns = some m) (p : K (.int m) h) : Wp (m_max1 [.lst (ns.map W.int)] h) K E := by
  have e2 : m_max1 [.lst (ns.map W.int)] h = .ok (.int m) h := by
    show (match lview h (.lst (ns.map W.int)) with
      | some ws => match intsOf ws with
        | some is => match maxI is with
          | some m => R.ok (W.int m) h
          | none => .no
        | none => .no
      | none => .no) = _
    rw [show lview h (.lst (ns.map W.int)) = some (ns.map W.int) from rfl]
    simp only [intsOf_map, e]
  rw [e2]
  exact p
theorem wp_count {ns : List Int} {k : Int} (p : K (.int (ns.count k : Nat)) h) : Wp (l_count (.lst (ns.map W.int)) [.int k] h) K E := by
  have e : l_count (.lst (ns.map W.int)) [.int k] h = .ok (.int (ns.count k : Nat)) h := by
    unfold l_count
    simp only [show lview h (.lst (ns.map W.int)) = some (ns.map W.int) from rfl, intsOf_map]
  rw [e]
  exact p
theorem wp_lm {m : W → List W → HS → R W} {fr : Ax} (p : Wp (fo sl h) (fun x h1 => (lview h1 x).isSome = true ∧ Wp (fr sl h1) (fun xs h2 => Wp (m x xs h2) K E) E) E) : Wp (eLM m fo fr sl h) K E := by
  refine wp_bind (wp_mono p (fun x h1 ⟨e, q⟩ => ?_) fun _ _ q => q)
  exact wp_pos e (wp_bind q)
theorem wp_chain3l {fc fd : Ex} (p : Wp (fa sl h) (fun x h1 => Wp (fb sl h1) (fun y h2 => IsI x fun a => IsI y fun b => Wp (if a ≤ b then (fc sl h2).bind fun w h4 => (wLe y w h4).bind fun z h5 => (asB z h5).bind fun k h5 => if k then (fd sl h5).bind fun u h6 => wLe w u h6 else .ok (.bl false) h5 else .ok (.bl false) h2) K E) E) E) :
    Wp (eChain3 wLe wLe wLe fa fb fc fd sl h) K E := by
  refine wp_bind (wp_mono p (fun x h1 q => wp_bind (wp_mono q (fun y h2 ⟨a, e1, b, e2, q⟩ => ?_) fun _ _ q => q)) fun _ _ q => q)
  subst e1; subst e2
  refine wp_bind (wp_le (wp_bind (wp_asB ?_)))
  by_cases c : a ≤ b
  · rw [if_pos c] at q
    exact wp_pos (by simpa using c) q
  · rw [if_neg c] at q
    exact wp_neg (by simpa using c) q

theorem wp_dnewT (p : K (.box h.nx) (h.new (.dic [] []))) : Wp (eDnew true sl h) K E := p
theorem wp_dnewF (p : K (.dic [] []) h) : Wp (eDnew false sl h) K E := p
/-! ### dict comprehensions -/
theorem wp_dc {bx : Bool} {tk : Ex} (p : Ip (src sl h) (fun ws kp h1 => Wp (dcLoop own kp g tt tk te sl ws ([], []) h1) (fun acc h2 => Wp (mkD bx acc.1 acc.2 h2) K E) E) E) : Wp (eDc bx own src g tt tk te sl h) K E := wp_bind (wp_mono p (fun _ _ q => wp_bind q) fun _ _ q => q)
theorem wp_dcP {γ : Type} {kp : HS → Bool} {ns : List γ} {tk : Ex} {KA : List DK × List W → HS → Prop} (ex : γ → W) (f : γ → Int × Int) (hl : ns.length ≤ sizeLine) (nd : NdI (ns.map f)) (hk : kp h = true)
    (hs : ∀ n ∈ ns, Gp (g (ex n) (wipeS sl own) h) (fun s h1 => Wp (tt s h1) (fun b h2 => b = true ∧ Wp (tk s h2) (fun k h3 => k = .int (f n).1 ∧ Wp (te s h3) (fun y h4 => y = .int (f n).2 ∧ h4 = h) NoE) NoE) NoE))
    (hd : KA ((ns.map f).map kI, (ns.map f).map vI) h) : Wp (dcLoop own kp g tt tk te sl (ns.map ex) ([], []) h) KA E := by
  have key : ∀ (r d : List γ), ns = d ++ r → Wp (dcLoop own kp g tt tk te sl (r.map ex) ((d.map f).map kI, (d.map f).map vI) h) KA E := by
    intro r
    induction r with
    | nil =>
      intro d e
      rw [List.append_nil] at e
      subst e
      unfold dcLoop
      exact wp_pos hk hd
    | cons n r ih =>
      intro d e
      rw [List.map_cons]
      unfold dcLoop
      refine wp_pos hk ?_
      have z := hs n (by rw [e]; simp)
      cases q : g (ex n) (wipeS sl own) h with
      | none => rw [q] at z; exact z.elim
      | some sp =>
        obtain ⟨s, h1⟩ := sp
        rw [q] at z
        refine wp_bind (wp_noX (wp_mono z (fun b h2 ⟨e1, z⟩ => ?_) fun _ _ q => q))
        subst e1
        refine wp_pos rfl (wp_bind (wp_noX (wp_mono z (fun k h3 ⟨e1, z⟩ => ?_) fun _ _ q => q)))
        subst e1
        refine wp_bind (wp_noX (wp_mono z (fun y h4 ⟨e1, e2⟩ => ?_) fun _ _ q => q))
        subst e1; subst e2
        have nd2 : NdI (d.map f) := by
          have : NdI ((d ++ n :: r).map f) := by rw [← e]; exact nd
          unfold NdI at this ⊢
          rw [List.map_append, List.map_append] at this
          exact (List.nodup_append.mp this).1
        have nin : (f n).1 ∉ (d.map f).map (·.1) := by
          have : NdI ((d ++ n :: r).map f) := by rw [← e]; exact nd
          unfold NdI at this
          rw [List.map_append, List.map_append] at this
          intro c
          exact (List.nodup_append.mp this).2.2 _ c _ (by simp) rfl
        have hlen : (d.map f).length < sizeLine := by
          rw [List.length_map]
          have : d.length + (r.length + 1) = ns.length := by rw [e]; simp
          omega
        have ed : dcPut ((d.map f).map kI, (d.map f).map vI) (.int (f n).1) (.int (f n).2) = some (((d ++ [n]).map f).map kI, ((d ++ [n]).map f).map vI) := by
          unfold dcPut
          simp only [show kOf (.int (f n).1) = some (.k (.inl (f n).1)) from rfl]
          rw [if_pos (by rw [List.length_map]; exact hlen)]
          unfold putP
          obtain ⟨p1, p2⟩ := dput_I (d.map f) nd2 (f n).1 (f n).2
          rw [p1, p2, putI_new nin]
          simp
        rw [ed]
        exact ih (d ++ [n]) (by rw [e]; simp)
  exact key ns [] rfl

/-! ### what a lock leaves, what a new box leaves -/
def dvc : Option Ct → Option (List DK × List W)
  | some (.dic ks ws) => some (ks, ws)
  | some (.lck ks ws) => some (ks, ws)
  | _ => none
theorem dview_b (h : HS) (m : Nat) : dview h (.box m) = dvc (h.at_ m) := rfl
theorem dview_lk {w w' : W} : dview (lkW w' h) w = dview h w := by
  unfold lkW
  split
  · rename_i n
    split
    · rename_i ks ws e
      cases w with
      | box m =>
        by_cases c : m = n
        · subst c
          rw [dview_b, dview_b, show (h.put m (.lck ks ws)).at_ m = some (.lck ks ws) from if_pos rfl, e]
          rfl
        · rw [dview_b, dview_b]
          rw [show (h.put n (.lck ks ws)).at_ m = h.at_ m from if_neg c]
      | _ => rfl
    · rfl
  · rfl
theorem at_lk {w : W} {n : Nat} (c : w ≠ .box n) : (lkW w h).at_ n = h.at_ n := by
  unfold lkW
  split
  · rename_i m
    split
    · exact if_neg fun z => c (by rw [z])
    · rfl
  · rfl
theorem nx_lk {w : W} : (lkW w h).nx = h.nx := by
  unfold lkW
  split
  · split <;> rfl
  · rfl
theorem dview_put {w : W} {n : Nat} {c : Ct} (e : w ≠ .box n) : dview (h.put n c) w = dview h w := by
  cases w with
  | box m =>
    rw [dview_b, dview_b, show (h.put n c).at_ m = h.at_ m from if_neg fun z => e (by rw [z])]
  | _ => rfl
/-- the boxes below stay as they were -/
def Ext (h h' : HS) : Prop := h.nx ≤ h'.nx ∧ ∀ m, m < h.nx → h'.at_ m = h.at_ m
theorem Ext.refl (h : HS) : Ext h h := ⟨Nat.le_refl _, fun _ _ => rfl⟩
theorem Ext.trans {a b c : HS} (x : Ext a b) (y : Ext b c) : Ext a c := ⟨Nat.le_trans x.1 y.1, fun m hm => (y.2 m (Nat.lt_of_lt_of_le hm x.1)).trans (x.2 m hm)⟩
theorem Ext.new (h : HS) (c : Ct) : Ext h (h.new c) := ⟨Nat.le_succ _, fun m hm => if_neg (Nat.ne_of_lt hm)⟩
theorem Ext.put {h h' : HS} (x : Ext h h') {n : Nat} (c : Ct) (hn : h.nx ≤ n) : Ext h (h'.put n c) := ⟨x.1, fun m hm => (if_neg (Nat.ne_of_lt (Nat.lt_of_lt_of_le hm hn))).trans (x.2 m hm)⟩
theorem Ext.lk {h h' : HS} (x : Ext h h') {w : W} (hn : ∀ n, w = .box n → h.nx ≤ n) : Ext h (lkW w h') := ⟨by rw [nx_lk]; exact x.1, fun m hm => (at_lk (fun z => absurd hm (Nat.not_lt.mpr (hn m z)))).trans (x.2 m hm)⟩
end
end Pk
end

/-! Qg -/
section
set_option Elab.async false
set_option linter.all false
set_option maxRecDepth 100000
set_option maxHeartbeats 4000000
namespace Pk
open PySem PySem.Spec L2
/-! ### sums told by keys -/
def addI (sg : List (Int × Int)) (k v : Int) : List (Int × Int) := putI sg k ((lookI sg k).getD 0 + v)
def accI (L : List (Int × Int)) : List (Int × Int) := L.foldl (fun s p => addI s p.1 p.2) []
def totI (L : List (Int × Int)) (k : Int) : Int := ((L.filter fun p => decide (p.1 = k)).map (·.2)).sum
theorem lookI_cons (p : Int × Int) (l : List (Int × Int)) (k : Int) : lookI (p :: l) k = if p.1 = k then some p.2 else lookI l k := by
  obtain ⟨a, b⟩ := p
  rfl
theorem lookI_putI : ∀ (sg : List (Int × Int)) (d x k : Int), lookI (putI sg d x) k = if d = k then some x else lookI sg k
  | [], d, x, k => by
    show lookI [(d, x)] k = _
    rw [lookI_cons]
  | p :: sg, d, x, k => by
    rw [putI_cons]
    by_cases c : p.1 = d
    · rw [if_pos c, lookI_cons, lookI_cons]
      by_cases e : d = k
      · rw [if_pos e, if_pos e]
      · rw [if_neg e, if_neg e, if_neg (fun z => e (c.symm.trans z))]
    · rw [if_neg c, lookI_cons, lookI_putI sg d x k, lookI_cons]
      by_cases e : d = k
      · rw [if_pos e, if_pos e, if_neg (fun z => c (z.trans e.symm))]
      · rw [if_neg e, if_neg e]
theorem lookI_isSome {sg : List (Int × Int)} {k : Int} : (lookI sg k).isSome = true ↔ k ∈ sg.map (·.1) := by
  induction sg with
  | nil => simp [lookI]
  | cons p sg ih =>
    rw [lookI_cons, List.map_cons, List.mem_cons]
    by_cases c : p.1 = k
    · rw [if_pos c]; simp [c]
    · rw [if_neg c, ih]
      constructor
      · exact .inr
      · rintro (e | e)
        · exact absurd e.symm c
        · exact e
theorem totI_cons (p : Int × Int) (L : List (Int × Int)) (k : Int) : totI (p :: L) k = (if p.1 = k then p.2 else 0) + totI L k := by
  unfold totI
  rw [List.filter_cons]
  by_cases c : p.1 = k
  · rw [if_pos (by simpa using c), if_pos c, List.map_cons, List.sum_cons]
  · rw [if_neg (by simpa using c), if_neg c, Int.zero_add]
theorem fold_look : ∀ (L sg : List (Int × Int)) (k : Int), lookI (L.foldl (fun s p => addI s p.1 p.2) sg) k = if k ∈ sg.map (·.1) ∨ k ∈ L.map (·.1) then some ((lookI sg k).getD 0 + totI L k) else none
  | [], sg, k => by
    show lookI sg k = _
    by_cases c : k ∈ sg.map (·.1)
    · rw [if_pos (.inl c)]
      obtain ⟨v, e⟩ := Option.isSome_iff_exists.mp (lookI_isSome.mpr c)
      rw [e]
      simp [totI]
    · rw [if_neg (by simpa using c)]
      cases e : lookI sg k with
      | none => rfl
      | some v => exact absurd (lookI_isSome.mp (by rw [e]; rfl)) c
  | p :: L, sg, k => by
    rw [List.foldl_cons, fold_look L, totI_cons]
    have e1 : (k ∈ (addI sg p.1 p.2).map (·.1)) ↔ (k ∈ sg.map (·.1) ∨ k = p.1) := by
      rw [← lookI_isSome, ← lookI_isSome]
      unfold addI
      rw [lookI_putI]
      by_cases c : p.1 = k
      · rw [if_pos c]; simp [c]
      · rw [if_neg c]
        constructor
        · exact .inl
        · rintro (e | e)
          · exact e
          · exact absurd e.symm c
    have e2 : (lookI (addI sg p.1 p.2) k).getD 0 = (lookI sg k).getD 0 + (if p.1 = k then p.2 else 0) := by
      unfold addI
      rw [lookI_putI]
      by_cases c : p.1 = k
      · rw [if_pos c, if_pos c, c]; rfl
      · rw [if_neg c, if_neg c, Int.add_zero]
    rw [e2, Int.add_assoc]
    by_cases c : k ∈ sg.map (·.1) ∨ k ∈ (p :: L).map (·.1)
    · rw [if_pos c, if_pos]
      rw [e1]
      rcases c with c | c
      · exact .inl (.inl c)
      · rw [List.map_cons] at c
        rcases List.mem_cons.mp c with c | c
        · exact .inl (.inr c)
        · exact .inr c
    · rw [if_neg c, if_neg]
      rw [e1]
      intro z
      refine c ?_
      rw [List.map_cons, List.mem_cons]
      rcases z with (z | z) | z
      · exact .inl z
      · exact .inr (.inl z)
      · exact .inr (.inr z)
theorem fold_nd : ∀ (L sg : List (Int × Int)), NdI sg → NdI (L.foldl (fun s p => addI s p.1 p.2) sg)
  | [], _, h => h
  | p :: L, sg, h => fold_nd L _ (putI_nd h)
theorem accI_nd (L : List (Int × Int)) : NdI (accI L) := fold_nd L [] .nil
theorem accI_look (L : List (Int × Int)) (k : Int) : lookI (accI L) k = if k ∈ L.map (·.1) then some (totI L k) else none := by
  unfold accI
  rw [fold_look]
  have e : (lookI [] k).getD 0 = 0 := rfl
  rw [e, Int.zero_add]
  by_cases c : k ∈ L.map (·.1)
  · rw [if_pos c, if_pos (.inr c)]
  · rw [if_neg c, if_neg (fun z => z.elim (fun z => nomatch z) c)]
theorem mem_acc {L : List (Int × Int)} {p : Int × Int} : p ∈ accI L ↔ p.1 ∈ L.map (·.1) ∧ p.2 = totI L p.1 := by
  have e := accI_look L p.1
  constructor
  · intro h
    have h2 := lookI_of_mem (accI_nd L) (d := p.1) (x := p.2) h
    rw [e] at h2
    split at h2
    · rename_i c
      exact ⟨c, (Option.some.inj h2).symm⟩
    · cases h2
  · rintro ⟨h1, h2⟩
    rw [if_pos h1, ← h2] at e
    exact lookI_mem e
theorem sum_perm {l m : List Int} (p : l.Perm m) : l.sum = m.sum := by
  induction p with
  | nil => rfl
  | cons x _ ih => rw [List.sum_cons, List.sum_cons, ih]
  | swap x y l => rw [List.sum_cons, List.sum_cons, List.sum_cons, List.sum_cons]; omega
  | trans _ _ a b => exact a.trans b
theorem totI_perm {L M : List (Int × Int)} (p : L.Perm M) (k : Int) : totI L k = totI M k := sum_perm ((p.filter _).map _)
theorem nodup_of_nd {sg : List (Int × Int)} (h : NdI sg) : sg.Nodup := by
  unfold NdI at h
  exact (List.pairwise_map.mp h).imp fun {a b} z e => z (congrArg (fun x : Int × Int => x.1) e)
theorem accI_perm {L M : List (Int × Int)} (p : L.Perm M) : (accI L).Perm (accI M) := by
  refine (List.perm_ext_iff_of_nodup (nodup_of_nd (accI_nd L)) (nodup_of_nd (accI_nd M))).mpr fun q => ?_
  rw [mem_acc, mem_acc, totI_perm p, (p.map (·.1)).mem_iff]
theorem putI_sum : ∀ {sg : List (Int × Int)}, NdI sg → ∀ (d x : Int), ((putI sg d x).map (·.2)).sum = (sg.map (·.2)).sum - (lookI sg d).getD 0 + x
  | [], _, d, x => by
    show ([(d, x)].map (·.2)).sum = _
    simp [lookI]
  | p :: sg, nd, d, x => by
    unfold NdI at nd
    rw [List.map_cons, List.nodup_cons] at nd
    rw [putI_cons, lookI_cons]
    by_cases c : p.1 = d
    · rw [if_pos c, if_pos c, List.map_cons, List.sum_cons, List.map_cons, List.sum_cons]
      show x + _ = p.2 + _ - p.2 + x
      omega
    · rw [if_neg c, if_neg c, List.map_cons, List.sum_cons, putI_sum nd.2, List.map_cons, List.sum_cons]
      omega
theorem fold_sum : ∀ (L sg : List (Int × Int)), NdI sg → ((L.foldl (fun s p => addI s p.1 p.2) sg).map (·.2)).sum = (sg.map (·.2)).sum + (L.map (·.2)).sum
  | [], sg, _ => by simp
  | p :: L, sg, nd => by
    rw [List.foldl_cons, fold_sum L (addI sg p.1 p.2) (putI_nd nd), List.map_cons, List.sum_cons]
    unfold addI
    rw [putI_sum nd]
    omega
theorem accI_sum (L : List (Int × Int)) : ((accI L).map (·.2)).sum = (L.map (·.2)).sum := by
  unfold accI
  rw [fold_sum L [] .nil]
  simp
theorem totI_pos {L : List (Int × Int)} (h : ∀ p ∈ L, 1 ≤ p.2) {k : Int} : 0 ≤ totI L k ∧ (k ∈ L.map (·.1) → 1 ≤ totI L k) := by
  induction L with
  | nil => exact ⟨Int.le_refl _, fun z => nomatch z⟩
  | cons p L ih =>
    obtain ⟨a, b⟩ := ih fun q hq => h q (List.mem_cons_of_mem _ hq)
    have hp := h p List.mem_cons_self
    rw [totI_cons]
    refine ⟨by split <;> omega, fun z => ?_⟩
    rw [List.map_cons] at z
    rcases List.mem_cons.mp z with e | e
    · rw [if_pos e.symm]; omega
    · have := b e
      split <;> omega
theorem accI_pos {L : List (Int × Int)} (h : ∀ p ∈ L, 1 ≤ p.2) : ∀ p ∈ accI L, 1 ≤ p.2 := fun p hp => by
  obtain ⟨a, b⟩ := mem_acc.mp hp
  rw [b]
  exact (totI_pos h).2 a
theorem le_sum : ∀ {l : List Int}, (∀ x ∈ l, 0 ≤ x) → ∀ x ∈ l, x ≤ l.sum
  | [], _, _, h => nomatch h
  | y :: l, h, x, hx => by
    have ih := le_sum (l := l) fun z hz => h z (List.mem_cons_of_mem _ hz)
    have hy := h y List.mem_cons_self
    have hs : 0 ≤ l.sum := by
      clear ih hx
      induction l with
      | nil => exact Int.le_refl _
      | cons z l ih =>
        rw [List.sum_cons]
        have h1 := h z (by simp)
        have h2 := ih fun w hw => h w (by rcases List.mem_cons.mp hw with e | e <;> simp [e])
        omega
    rw [List.sum_cons]
    rcases List.mem_cons.mp hx with e | e
    · omega
    · have := ih x e
      omega
/-- so many keys as fit between -/
theorem nd_len {sg : List (Int × Int)} (nd : NdI sg) {lo : Int} {n : Nat} (h : ∀ p ∈ sg, lo ≤ p.1 ∧ p.1 < lo + n) : sg.length ≤ n := by
  have := List.Nodup.length_le_of_subset (l₁ := sg.map (·.1)) (l₂ := iota lo n) (show (sg.map (·.1)).Nodup from nd) fun k hk => by
    obtain ⟨p, hp, rfl⟩ := List.mem_map.mp hk
    exact mem_iota.mpr (h p hp)
  rw [List.length_map] at this
  simpa [iota] using this
/-- all with all -/
def cmb (op : Int → Int → Int) (ps tb : List (Int × Int)) : List (Int × Int) := ps.flatMap fun p => tb.map fun q => (op p.1 q.1, p.2 * q.2)
theorem cmb_perm {op : Int → Int → Int} {ps qs tb : List (Int × Int)} (p : ps.Perm qs) : (cmb op ps tb).Perm (cmb op qs tb) := p.flatMap_right _
theorem cmb_sum (op : Int → Int → Int) (tb : List (Int × Int)) : ∀ ps : List (Int × Int), ((cmb op ps tb).map (·.2)).sum = (ps.map (·.2)).sum * (tb.map (·.2)).sum
  | [] => by simp [cmb]
  | p :: ps => by
    have ih := cmb_sum op tb ps
    have e1 : ∀ t : List (Int × Int), ((t.map fun q => (op p.1 q.1, p.2 * q.2)).map (·.2)).sum = p.2 * (t.map (·.2)).sum := by
      intro t
      induction t with
      | nil => simp
      | cons q t ih2 => rw [List.map_cons, List.map_cons, List.sum_cons, ih2, List.map_cons, List.sum_cons, Int.mul_add]
    unfold cmb at ih ⊢
    rw [List.flatMap_cons, List.map_append, List.sum_append, ih, e1, List.map_cons, List.sum_cons, Int.add_mul]
theorem mem_cmb {op : Int → Int → Int} {ps tb : List (Int × Int)} {x : Int × Int} (h : x ∈ cmb op ps tb) : ∃ p ∈ ps, ∃ q ∈ tb, x = (op p.1 q.1, p.2 * q.2) := by
  unfold cmb at h
  obtain ⟨p, hp, h⟩ := List.mem_flatMap.mp h
  obtain ⟨q, hq, rfl⟩ := List.mem_map.mp h
  exact ⟨p, hp, q, hq, rfl⟩
theorem cmb_pos {op : Int → Int → Int} {ps tb : List (Int × Int)} (h1 : ∀ p ∈ ps, 1 ≤ p.2) (h2 : ∀ p ∈ tb, 1 ≤ p.2) : ∀ p ∈ cmb op ps tb, 1 ≤ p.2 := fun x hx => by
  obtain ⟨p, hp, q, hq, rfl⟩ := mem_cmb hx
  have a := h1 p hp
  have b := h2 q hq
  show 1 ≤ p.2 * q.2
  have := Int.mul_le_mul a b (by decide) (by omega)
  omega
theorem fold_cmb {op : Int → Int → Int} {ps tb : List (Int × Int)} (d : List (Int × Int)) (p : Int × Int) (r : List (Int × Int)) (e : ps = d ++ p :: r) : True := trivial

/-! ### sorted -/
theorem isort_map {α β : Type} (lt : β → β → Bool) (f : α → β) : ∀ l : List α, isort lt (l.map f) = (isort (fun a b => lt (f a) (f b)) l).map f
  | [] => rfl
  | x :: l => by
    have i : ∀ m : List α, ins lt (f x) (m.map f) = (ins (fun a b => lt (f a) (f b)) x m).map f := by
      intro m
      induction m with
      | nil => rfl
      | cons y m ih =>
        rw [List.map_cons]
        unfold ins
        split
        · rw [List.map_cons, ih]
        · rfl
    show ins lt (f x) (isort lt (l.map f)) = _
    rw [isort_map lt f l, i]
    rfl
def ltI (a b : Int) : Bool := ltW (.int a) (.int b)
def ltP (p q : Int × Int) : Bool := ltW (prI p) (prI q)
theorem ltI_is {a b : Int} : ltI a b = decide (a < b) := ltL_int
theorem ltP_is {p q : Int × Int} : ltP p q = if p.1 = q.1 then decide (p.2 < q.2) else decide (p.1 < q.1) := by
  show ltL [.inl p.1, .inl p.2] [.inl q.1, .inl q.2] = _
  unfold ltL
  by_cases c : p.1 = q.1
  · rw [if_pos (congrArg Sum.inl c), if_pos c, ltL_int]
  · rw [if_neg (fun z => c (Sum.inl.inj z)), if_neg c]
    rfl
theorem swoI : SrtO.Swo ltI := swo_on ltL_swo fun a : Int => kW (.int a)
theorem swoP : SrtO.Swo ltP := swo_on ltL_swo fun a : Int × Int => kW (prI a)
def srtI (l : List Int) : List Int := isort ltI l
def srtP (l : List (Int × Int)) : List (Int × Int) := isort ltP l
theorem sort_ints (l : List Int) : isort ltW (l.map W.int) = (srtI l).map W.int := isort_map ltW W.int l
theorem sort_prs (l : List (Int × Int)) : isort ltW (l.map prI) = (srtP l).map prI := isort_map ltW prI l
theorem srtP_perm (l : List (Int × Int)) : (srtP l).Perm l := isort_perm _ l
theorem srtP_eq {l m : List (Int × Int)} (p : l.Perm m) : srtP l = srtP m := by
  refine List.Perm.eq_of_pairwise (le := fun x y => ltP y x = false) (fun a b _ _ h1 h2 => ?_) (isort_srtd swoP l) (isort_srtd swoP m) ((srtP_perm l).trans (p.trans (srtP_perm m).symm))
  rw [ltP_is] at h1 h2
  obtain ⟨a1, a2⟩ := a
  obtain ⟨b1, b2⟩ := b
  simp only at h1 h2
  by_cases c : a1 = b1
  · rw [if_pos c.symm] at h1
    rw [if_pos c] at h2
    have := of_decide_eq_false h1
    have := of_decide_eq_false h2
    rw [c, show a2 = b2 by omega]
  · rw [if_neg (fun z => c z.symm)] at h1
    rw [if_neg c] at h2
    have := of_decide_eq_false h1
    have := of_decide_eq_false h2
    omega
theorem srt_keys {l : List (Int × Int)} (nd : NdI l) : (srtP l).map (·.1) = srtI (l.map (·.1)) := by
  refine List.Perm.eq_of_pairwise (le := fun x y => ltI y x = false) (fun a b _ _ h1 h2 => ?_) (List.pairwise_map.mpr ((isort_srtd swoP l).imp fun {x y} h => ?_)) (isort_srtd swoI _) (((srtP_perm l).map _).trans (isort_perm _ _).symm)
  · rw [ltI_is] at h1 h2
    have := of_decide_eq_false h1
    have := of_decide_eq_false h2
    omega
  · rw [ltI_is]
    rw [ltP_is] at h
    refine decide_eq_false ?_
    by_cases c : y.1 = x.1
    · omega
    · rw [if_neg c] at h
      exact of_decide_eq_false h
theorem srtP_nd {l : List (Int × Int)} (nd : NdI l) : NdI (srtP l) := ((srtP_perm l).map (fun p : Int × Int => p.1)).nodup_iff.mpr (show (l.map (·.1)).Nodup from nd)
theorem lookI_perm {l m : List (Int × Int)} (nd : NdI l) (p : m.Perm l) {q : Int × Int} (h : q ∈ m) : lookI l q.1 = some q.2 := lookI_of_mem nd (p.mem_iff.mp h)
theorem isInt_all (l : List Int) : (l.map W.int).all isInt = true := by rw [List.all_map, List.all_eq_true]; intro _ _; rfl
theorem sh_prs : ∀ l : List (Int × Int), sameSh (l.map prI) = true
  | [] => rfl
  | p :: l => by
    show ((p :: l).map prI).tail.all (fun v => shOf v == some [true, true]) = true
    rw [List.map_cons, List.tail_cons, List.all_map, List.all_eq_true]
    intro _ _
    rfl
theorem ok_ints (l : List Int) : okSort (l.map W.int) = true := by unfold okSort; rw [isInt_all]; rfl
theorem ok_prs (l : List (Int × Int)) : okSort (l.map prI) = true := by unfold okSort; rw [sh_prs]; simp
section
variable {h : HS} {x : W} {sl : Sl} {K : W → HS → Prop} {E : Nat → HS → Prop} {fa : Ex}
theorem wp_sortDI {sg : List (Int × Int)} (d : Dv h x sg) (ns : sview h x = none) (l : sg.length ≤ sizeLine) (p : K (.lst ((srtI (sg.map (·.1))).map W.int)) h) : Wp (m_sorted false [x] h) K E := by
  have e : m_sorted false [x] h = .ok (.lst ((srtI (sg.map (·.1))).map W.int)) h := by
    unfold Dv at d
    unfold m_sorted
    simp only [ns, d, unKs_I]
    unfold mSort
    rw [ok_ints, if_pos (by simpa using l), sort_ints]
    rfl
  rw [e]
  exact p
theorem wp_sortItems {sg : List (Int × Int)} (p : Wp (fa sl h) (fun w h1 => Dv h1 w sg ∧ sg.length ≤ sizeLine ∧ K (.lst ((srtP sg).map prI)) h1) E) : Wp (eSortItems false fa sl h) K E := by
  refine wp_bind (wp_mono p (fun w h1 ⟨d, l, q⟩ => ?_) fun _ _ q => q)
  unfold Dv at d
  simp only [d, flat_I, if_true, zip_kv]
  unfold mSort
  rw [ok_prs, if_pos (by simpa using l), sort_prs]
  exact q
end

/-! ### what goes into all -/
def gcI (a b : Int) : Int := (Int.gcd a b : Nat)
theorem gcI_nonneg (a b : Int) : 0 ≤ gcI a b := Int.natCast_nonneg _
theorem gcI_zero (a : Int) (h : 0 ≤ a) : gcI a 0 = a := by unfold gcI; simp [Int.gcd]; omega
theorem gcI_step {a b : Int} (h : 0 ≤ a) (hb : 0 < b) : gcI b (a % b) = gcI a b := by
  unfold gcI
  congr 1
  obtain ⟨m, rfl⟩ := Int.eq_ofNat_of_zero_le h
  obtain ⟨n, rfl⟩ := Int.eq_ofNat_of_zero_le (Int.le_of_lt hb)
  show Int.gcd (n : Int) ((m : Int) % (n : Int)) = Int.gcd m n
  rw [← Int.natCast_emod]
  show Nat.gcd n (m % n) = Nat.gcd m n
  rw [Nat.gcd_comm m n, Nat.gcd_rec n m, Nat.gcd_comm]
def gcs (l : List Int) : Int := l.foldl gcI 0
theorem gcs_perm {l m : List Int} (p : l.Perm m) : gcs l = gcs m := by
  unfold gcs
  refine p.foldl_eq' (fun x _ y _ z => ?_) 0
  unfold gcI
  congr 1
  simp only [Int.gcd, Int.natAbs_natCast]
  rw [Nat.gcd_assoc, Nat.gcd_comm x.natAbs, ← Nat.gcd_assoc]
theorem gcI_dvd {a b : Int} : gcI a b ∣ a ∧ gcI a b ∣ b := ⟨Int.gcd_dvd_left a b, Int.gcd_dvd_right a b⟩
end Pk
end

/-! Km2 -/
section
set_option Elab.async false
set_option linter.all false
set_option maxRecDepth 100000
set_option maxHeartbeats 4000000
namespace K03
open PySem PySem.Spec L2 Pk
local macro_rules | `(tactic| walk_at "ev1") => `(tactic| with_reducible first
  | refine wp_var rfl ?_ | refine wp_c ?_ | refine wp_bin ?_ | refine wp_un ?_ | refine wp_asB ?_ | refine wp_tval ?_ | refine wp_chain_ll ?_ | refine wp_chain_tt ?_ | refine wp_chain ?_ | refine wp_tand ?_ | refine wp_tor ?_ | refine wp_tnot ?_
  | refine wp_and ?_ | refine wp_or ?_ | refine wp_not ?_ | refine wp_if ?_ | refine wp_anil ?_ | refine wp_acons ?_ | refine wp_tup ?_ | refine wp_lst ?_ | refine wp_mkLf ?_ | refine wp_mkLt ?_ | refine wp_mkDf ?_ | refine wp_mkDt ?_
  | refine wp_add ?_ | refine wp_sub ?_ | refine wp_neg' ?_ | refine wp_kadd ?_ | refine wp_ksub ?_ | refine wp_lt ?_ | refine wp_le ?_ | refine wp_gt ?_ | refine wp_ge ?_ | refine wp_eqi ?_ | refine wp_nei ?_ | refine wp_eqs ?_ | refine wp_nes ?_ | refine wp_eqb ?_ | refine wp_neb ?_
  | refine wp_is ?_ | refine wp_isN ?_ | refine wp_callB ?_ | refine wp_call ?_ | refine wp_go rfl ?_ | refine wp_meth ?_ | refine wp_make ?_ | refine wp_told ?_ | refine wp_get2 ?_
  | refine ws_nil ?_ | refine ws_seq ?_ | refine ws_expr ?_ | refine ws_ret ?_ | refine ws_retN ?_ | refine ws_if ?_ | refine ws_raise ?_ | refine ws_asgN ?_ | refine ws_asg ?_ | refine gp_n ?_ | refine gp_tup rfl ?_ | refine gp_cons ?_ | refine gp_nil ?_
  | refine ws_par ?_ | refine ws_par3 ?_ | refine ws_aug rfl ?_ | refine ws_fld ?_ | refine ws_sub ?_ | refine ws_del ?_ | refine ws_for ?_ | refine wp_lc ?_ | refine ip_seq ?_ | refine ip_r1 ?_ | refine ip_r2 ?_ | refine ip_r3 ?_
  | refine wp_tyes ?_ | refine wp_ok ?_ | refine wp_tupR ?_ | refine wp_zipL ?_ | refine tvT ?_ | refine tvK ?_ | refine wp_cut ?_ | refine wp_pno ?_ | refine wp_psome ?_ | refine wp_cutScr ?_ | refine wp_cutL ?_ | refine wp_cutT ?_ | refine wp_lenL ?_ | refine wp_lenT ?_ | refine wp_intI ?_ | refine wp_intB ?_ | refine wp_absI ?_ | refine wp_listT ?_ | refine wp_listL ?_ | refine wp_tupleL ?_ | refine wp_tupleT ?_ | refine wp_sumL ?_ | refine wp_any ?_ | refine wp_all ?_ | refine wp_sumG ?_ | refine wp_tupG ?_ | refine wp_bind ?_ | refine is1 ?_ | refine is2 ?_ | refine is3 ?_ | refine isI ?_ | refine isS ?_ | refine svL ?_ | refine svT ?_ | refine svK ?_ | refine lvL ?_ | refine wp_lm ?_ | refine wp_dc ?_ | refine wp_count ?_ | refine wp_chain3l ?_ | refine ip_items ?_ | refine ip_vals ?_ | refine ip_keysI ?_ | refine wp_vals ?_ | refine wp_sortItems ?_ | refine ip_enum ?_ | refine ip_txt ?_)
local macro_rules | `(tactic| walk_at "ev") => `(tactic| repeat walk_at "ev1")
variable {h : HS}
theorem ws_gcdB {i j : Nat} {sl : Sl} {a b : Int} {bd : Sx} {N : Sl → HS → Prop} {T : W → HS → Prop} {B C : Sl → HS → Prop} {E : Nat → HS → Prop} (hi : sl[i]? = some (some (.int a))) (hj : sl[j]? = some (some (.int b))) (hij : i ≠ j) (ha : 0 ≤ a) (hb : 0 ≤ b) (hl : b < 1073741824)
    (hbd : ∀ (s : Sl) (x y : Int) (N' C' : Sl → HS → Prop), s[i]? = some (some (.int x)) → s[j]? = some (some (.int y)) → 0 < y → y < 1073741824 → N' ((s.set i (some (.int y))).set j (some (.int (x % y)))) h → Ws (bd s h) N' T N C' E)
    (p : N ((sl.set i (some (.int (gcI a b)))).set j (some (.int 0))) h) : Ws (sWhile (tVal (eBin wNe (eVar j) (eC (.int 0)))) bd sl h) N T B C E := by
  have hil := (List.getElem?_eq_some_iff.mp hi).1
  have hjl := (List.getElem?_eq_some_iff.mp hj).1
  refine ws_while (fun n s h' => h' = h ∧ ∃ x y : Int, 0 ≤ x ∧ 0 ≤ y ∧ y < 1073741824 ∧ y.toNat ≤ n ∧ gcI x y = gcI a b ∧ s = (sl.set i (some (.int x))).set j (some (.int y))) b.toNat ⟨rfl, a, b, ha, hb, hl, Nat.le_refl _, rfl, ?_⟩ (by unfold fuel; omega) ?_
  · refine List.ext_getElem? fun k => ?_
    by_cases kj : j = k
    · subst kj; rw [List.getElem?_set_self (by simpa using hjl)]; exact hj
    · rw [List.getElem?_set_ne kj]
      by_cases ki : i = k
      · subst ki; rw [List.getElem?_set_self hil]; exact hi
      · rw [List.getElem?_set_ne ki]
  · rintro n s h' ⟨rfl, x, y, hx, hy, hy2, hn, e, rfl⟩
    have gi : ((sl.set i (some (W.int x))).set j (some (W.int y)))[i]? = some (some (.int x)) := by
      rw [List.getElem?_set_ne (fun z => hij z.symm), List.getElem?_set_self hil]
    have gj : ((sl.set i (some (W.int x))).set j (some (W.int y)))[j]? = some (some (.int y)) := List.getElem?_set_self (by simpa using hjl)
    refine wp_tval (wp_bin (wp_var gj (wp_c (wp_nei (wp_asB ⟨fun c => ?_, fun c => ?_⟩)))))
    · have c : y ≠ 0 := by simpa using c
      have y0 : 0 < y := by omega
      refine ⟨n - 1, by omega, hbd _ x y _ _ gi gj y0 hy2 ?_⟩
      have hm := Int.emod_lt_of_pos x y0
      have hm0 := Int.emod_nonneg x (show y ≠ 0 by omega)
      refine ⟨rfl, y, x % y, hy, hm0, by omega, by omega, (gcI_step hx y0).trans e, ?_⟩
      rw [List.set_comm _ _ (fun z => hij z.symm), List.set_set, List.set_set]
      
    · have c : y = 0 := by simpa using c
      subst c
      rw [gcI_zero x hx] at e
      rw [e]
      exact p
theorem ws_gcd {i j : Nat} {sl : Sl} {a b : Int} {N : Sl → HS → Prop} {T : W → HS → Prop} {B C : Sl → HS → Prop} {E : Nat → HS → Prop} (hi : sl[i]? = some (some (.int a))) (hj : sl[j]? = some (some (.int b))) (hij : i ≠ j) (ha : 0 ≤ a) (hb : 0 ≤ b) (hl : b < 1073741824)
    (p : N ((sl.set i (some (.int (gcI a b)))).set j (some (.int 0))) h) : Ws (sWhile (tVal (eBin wNe (eVar j) (eC (.int 0)))) (sPar i j (aCons (eVar j) (aCons (eBin wMod (eVar i) (eVar j)) aNil))) sl h) N T B C E :=
  ws_gcdB hi hj hij ha hb hl (fun s x y N' C' gi gj y0 _ q => ws_par (wp_acons (wp_var gj (wp_acons (wp_bin (wp_var gi (wp_var gj (wp_mod y0 (wp_anil (is2 q)))))))))) p
theorem ws_gcdL {i j : Nat} {sl : Sl} {a b : Int} {N : Sl → HS → Prop} {T : W → HS → Prop} {B C : Sl → HS → Prop} {E : Nat → HS → Prop} (hi : sl[i]? = some (some (.int a))) (hj : sl[j]? = some (some (.int b))) (hij : i ≠ j) (ha : 0 ≤ a) (hb : 0 ≤ b) (hl : b < 1073741824)
    (p : N ((sl.set i (some (.int (gcI a b)))).set j (some (.int 0))) h) : Ws (sWhile (tVal (eBin wNe (eVar j) (eC (.int 0)))) (sPar i j (aCons (eVar j) (aCons (eBin wSub (eVar i) (eBin (wMul false) (eBin wDiv (eVar i) (eVar j)) (eVar j))) aNil))) sl h) N T B C E :=
  ws_gcdB hi hj hij ha hb hl (fun s x y N' C' gi gj y0 y1 q => ws_par (wp_acons (wp_var gj (wp_acons (wp_bin (wp_var gi (wp_bin (wp_bin (wp_var gi (wp_var gj (wp_div ⟨y0, y1⟩ (wp_var gj (wp_mul (.inr (by omega)) (wp_sub (wp_anil (is2 (by
    have e : x - x / y * y = x % y := by rw [Int.emod_def, Int.mul_comm]
    rw [e]
    exact q))))))))))))))))) p
def abI (t : Int) : Int := if t < 0 then -t else t
theorem abI_nn (t : Int) : 0 ≤ abI t := by unfold abI; split <;> omega
theorem gc_pos {a b : Int} (h : 0 < b) : 0 < gcI a b ∧ gcI a b ≤ b := by
  have h1 := gcI_nonneg a b
  have h2 := (gcI_dvd (a := a) (b := b)).2
  have h3 : gcI a b ≠ 0 := fun z => by
    rw [z] at h2
    have := Int.zero_dvd.mp h2
    omega
  exact ⟨by omega, Int.le_of_dvd h h2⟩
def lst2 (t b : Int) : W := .tup [.int (t / gcI (abI t) b), .int (b / gcI (abI t) b)]
theorem least_eq {t b : Int} (hb : 0 < b) (hl : b < 1073741824) : f_least [.int t, .int b] h = .ok (lst2 t b) h := by
  have hg := gc_pos (a := if t < 0 then -t else t) hb
  refine eq_wp (wp_body ?_)
  unfold b_least
  walk_at "ev"
  refine ws_gcd rfl rfl (by decide) (abI_nn t) (by omega) hl ?_
  walk_at "ev"
  refine wp_div ⟨hg.1, by omega⟩ ?_
  walk_at "ev"
  refine wp_div ⟨hg.1, by omega⟩ ?_
  walk_at "ev"
  refine wp_sz (by simp [sizeLine]) ?_
  rfl
theorem law_least_eq {t b : Int} (hb : 0 < b) (hl : b < 1073741824) : f__law_least [.int t, .int b] h = .ok (lst2 t b) h := by
  have hg := gc_pos (a := if t < 0 then -t else t) hb
  refine eq_wp (wp_body ?_)
  unfold b__law_least
  walk_at "ev"
  refine ws_gcdL rfl rfl (by decide) (abI_nn t) (by omega) hl ?_
  walk_at "ev"
  refine wp_div ⟨hg.1, by omega⟩ ?_
  walk_at "ev"
  refine wp_div ⟨hg.1, by omega⟩ ?_
  walk_at "ev"
  refine wp_sz (by simp [sizeLine]) ?_
  rfl

end K03
end

/-! Km3 -/
section
set_option Elab.async false
set_option linter.all false
set_option maxRecDepth 100000
set_option maxHeartbeats 4000000
namespace K03
open PySem PySem.Spec L2 Pk
local macro_rules | `(tactic| walk_at "ev1") => `(tactic| with_reducible first
  | refine wp_var rfl ?_ | refine wp_c ?_ | refine wp_bin ?_ | refine wp_un ?_ | refine wp_asB ?_ | refine wp_tval ?_ | refine wp_chain_ll ?_ | refine wp_chain_tt ?_ | refine wp_chain ?_ | refine wp_tand ?_ | refine wp_tor ?_ | refine wp_tnot ?_
  | refine wp_and ?_ | refine wp_or ?_ | refine wp_not ?_ | refine wp_if ?_ | refine wp_anil ?_ | refine wp_acons ?_ | refine wp_tup ?_ | refine wp_lst ?_ | refine wp_mkLf ?_ | refine wp_mkLt ?_ | refine wp_mkDf ?_ | refine wp_mkDt ?_
  | refine wp_add ?_ | refine wp_sub ?_ | refine wp_neg' ?_ | refine wp_kadd ?_ | refine wp_ksub ?_ | refine wp_lt ?_ | refine wp_le ?_ | refine wp_gt ?_ | refine wp_ge ?_ | refine wp_eqi ?_ | refine wp_nei ?_ | refine wp_eqs ?_ | refine wp_nes ?_ | refine wp_eqb ?_ | refine wp_neb ?_
  | refine wp_is ?_ | refine wp_isN ?_ | refine wp_callB ?_ | refine wp_call ?_ | refine wp_go rfl ?_ | refine wp_meth ?_ | refine wp_make ?_ | refine wp_told ?_ | refine wp_get2 ?_
  | refine ws_nil ?_ | refine ws_seq ?_ | refine ws_expr ?_ | refine ws_ret ?_ | refine ws_retN ?_ | refine ws_if ?_ | refine ws_raise ?_ | refine ws_asgN ?_ | refine ws_asg ?_ | refine gp_n ?_ | refine gp_tup rfl ?_ | refine gp_cons ?_ | refine gp_nil ?_
  | refine ws_par ?_ | refine ws_par3 ?_ | refine ws_aug rfl ?_ | refine ws_fld ?_ | refine ws_sub ?_ | refine ws_del ?_ | refine ws_for ?_ | refine wp_lc ?_ | refine ip_seq ?_ | refine ip_r1 ?_ | refine ip_r2 ?_ | refine ip_r3 ?_
  | refine wp_tyes ?_ | refine wp_ok ?_ | refine wp_tupR ?_ | refine wp_zipL ?_ | refine tvT ?_ | refine tvK ?_ | refine wp_cut ?_ | refine wp_pno ?_ | refine wp_psome ?_ | refine wp_cutScr ?_ | refine wp_cutL ?_ | refine wp_cutT ?_ | refine wp_lenL ?_ | refine wp_lenT ?_ | refine wp_intI ?_ | refine wp_intB ?_ | refine wp_absI ?_ | refine wp_listT ?_ | refine wp_listL ?_ | refine wp_tupleL ?_ | refine wp_tupleT ?_ | refine wp_sumL ?_ | refine wp_any ?_ | refine wp_all ?_ | refine wp_sumG ?_ | refine wp_tupG ?_ | refine wp_bind ?_ | refine is1 ?_ | refine is2 ?_ | refine is3 ?_ | refine isI ?_ | refine isS ?_ | refine svL ?_ | refine svT ?_ | refine svK ?_ | refine lvL ?_ | refine wp_dnewT ?_ | refine wp_dnewF ?_ | refine wp_lm ?_ | refine wp_dc ?_ | refine wp_count ?_ | refine wp_chain3l ?_ | refine ip_items ?_ | refine ip_vals ?_ | refine ip_keysI ?_ | refine wp_vals ?_ | refine wp_sortItems ?_ | refine ip_enum ?_ | refine ip_txt ?_)
local macro_rules | `(tactic| walk_at "ev") => `(tactic| repeat walk_at "ev1")
variable {h : HS}
abbrev Gs := Int × Int × Int
def gW (g : Gs) : W := .tup [.int g.1, .int g.2.1, .int g.2.2]
structure Gd (g : Gs) : Prop where
  a : 0 ≤ g.1
  a8 : g.1 ≤ 8
  b : g.1 ≤ g.2.1
  b5 : g.2.1 ≤ g.1 + 5
  c : g.2.1 ≤ g.2.2
  c7 : g.2.2 ≤ g.2.1 + 7
def wt (g : Gs) (d : Int) : Int := if d ≤ g.2.1 then (d - g.1 + 1) * (g.2.2 - g.2.1 + 1) else (g.2.2 - d + 1) * (g.2.1 - g.1 + 1)
def gLen (g : Gs) : Nat := (g.2.2 + 1 - g.1).toNat
def wl (g : Gs) : List (Int × Int) := (iota g.1 (gLen g)).map fun d => (d, wt g d)
theorem mul_le8 {x y a b : Int} (hx : 0 ≤ x) (hxa : x ≤ a) (hy : 0 ≤ y) (hyb : y ≤ b) : x * y ≤ a * b := Int.mul_le_mul hxa hyb hy (by omega)
theorem wt_bd {g : Gs} (G : Gd g) {d : Int} (h1 : g.1 ≤ d) (h2 : d ≤ g.2.2) : 1 ≤ wt g d ∧ wt g d ≤ 48 := by
  obtain ⟨a, a8, b, b5, c, c7⟩ := G
  unfold wt
  split
  · have l := Int.mul_le_mul (a := 1) (b := 1) (c := d - g.1 + 1) (d := g.2.2 - g.2.1 + 1) (by omega) (by omega) (by decide) (by omega)
    have u := mul_le8 (x := d - g.1 + 1) (y := g.2.2 - g.2.1 + 1) (a := 6) (b := 8) (by omega) (by omega) (by omega) (by omega)
    omega
  · have l := Int.mul_le_mul (a := 1) (b := 1) (c := g.2.2 - d + 1) (d := g.2.1 - g.1 + 1) (by omega) (by omega) (by decide) (by omega)
    have u := mul_le8 (x := g.2.2 - d + 1) (y := g.2.1 - g.1 + 1) (a := 8) (b := 6) (by omega) (by omega) (by omega) (by omega)
    omega
theorem gLen_le {g : Gs} (G : Gd g) : gLen g ≤ 13 ∧ 1 ≤ gLen g ∧ (gLen g : Int) = g.2.2 + 1 - g.1 := by
  obtain ⟨a, a8, b, b5, c, c7⟩ := G
  unfold gLen
  omega
theorem wl_mem {g : Gs} (G : Gd g) {p : Int × Int} (hp : p ∈ wl g) : g.1 ≤ p.1 ∧ p.1 ≤ g.2.2 ∧ p.2 = wt g p.1 ∧ 1 ≤ p.2 ∧ p.2 ≤ 48 := by
  obtain ⟨d, hd, rfl⟩ := List.mem_map.mp hp
  have hd := mem_iota.mp hd
  have l := (gLen_le G).2.2
  have := wt_bd G (d := d) hd.1 (by omega)
  exact ⟨hd.1, by show d ≤ _; omega, rfl, this⟩
theorem wl_nd (g : Gs) : NdI (wl g) := by
  unfold NdI wl
  rw [List.map_map]
  have : ((fun x : Int × Int => x.1) ∘ fun d => (d, wt g d)) = id := rfl
  rw [this, List.map_id]
  unfold iota
  refine List.pairwise_map.mpr (List.nodup_range.imp fun {a b} h => ?_)
  omega
theorem wl_len (g : Gs) : (wl g).length = gLen g := by simp [wl, iota]
theorem wl_ne {g : Gs} (G : Gd g) : wl g ≠ [] := fun z => by
  have := congrArg List.length z
  rw [wl_len] at this
  have := (gLen_le G).2.1
  simp at *
  omega
theorem wl_sum {g : Gs} (G : Gd g) : 1 ≤ ((wl g).map (·.2)).sum ∧ ((wl g).map (·.2)).sum ≤ 624 := by
  have ub : ∀ l : List Int, (∀ x ∈ l, x ≤ 48) → l.sum ≤ 48 * l.length := by
    intro l
    induction l with
    | nil => intro _; simp
    | cons x l ih =>
      intro hl
      have := ih fun y hy => hl y (List.mem_cons_of_mem _ hy)
      have := hl x List.mem_cons_self
      rw [List.sum_cons, List.length_cons]
      omega
  have u := ub ((wl g).map (·.2)) fun x hx => by
    obtain ⟨p, hp, rfl⟩ := List.mem_map.mp hx
    exact (wl_mem G hp).2.2.2.2
  rw [List.length_map, wl_len] at u
  have l13 := (gLen_le G).1
  refine ⟨?_, by omega⟩
  cases e : wl g with
  | nil => exact absurd e (wl_ne G)
  | cons p r =>
    have := le_sum (l := (wl g).map (·.2)) (fun x hx => by
      obtain ⟨q, hq, rfl⟩ := List.mem_map.mp hx
      have := (wl_mem G hq).2.2.2.1
      show 0 ≤ q.2
      omega) p.2 (List.mem_map.mpr ⟨p, by rw [e]; exact List.mem_cons_self, rfl⟩)
    have := (wl_mem G (p := p) (by rw [e]; exact List.mem_cons_self)).2.2.2.1
    rw [e] at *
    omega
theorem ixg {g : Gs} {K : W → HS → Prop} {E : Nat → HS → Prop} {i : Int} {w : W} (e2 : atI [.int g.1, .int g.2.1, .int g.2.2] i = some w) (p : K w h) : Wp (wIx (gW g) (.int i) h) K E := wp_ixL rfl (fun _ q => by cases q) e2 p
theorem check_eq {g : Gs} (G : Gd g) : f_check_guess [gW g] h = .ok .non h := by
  obtain ⟨a, a8, b, b5, c, c7⟩ := G
  refine eq_wp (wp_body ?_)
  unfold b_check_guess
  walk_at "ev"
  refine wp_lenT ?_
  walk_at "ev"
  refine wp_neg (by simp) ?_
  walk_at "ev"
  refine ixg rfl ?_
  walk_at "ev"
  refine wp_pos a ?_
  walk_at "ev"
  refine ixg rfl ?_
  walk_at "ev"
  refine wp_pos (by simpa using b) ?_
  walk_at "ev"
  refine ixg rfl ?_
  walk_at "ev"
  refine ws_neg (by simpa using c) ?_
  rfl
def s1 (g : Gs) : Int := g.1 + 4 * g.2.1 + g.2.2
def s2 (g : Gs) : Int := (g.2.2 - g.1) * (g.2.2 - g.1)
theorem mean_eq {g : Gs} (G : Gd g) : f_mean_of [gW g] h = .ok (lst2 (s1 g) 6) h := by
  refine eq_wp (wp_body ?_)
  unfold b_mean_of
  walk_at "ev"
  refine wp_eq (check_eq G) ?_
  walk_at "ev"
  refine ixg rfl ?_
  walk_at "ev"
  refine ixg rfl ?_
  walk_at "ev"
  refine wp_mul (.inl (by decide)) ?_
  walk_at "ev"
  refine ixg rfl ?_
  walk_at "ev"
  refine wp_eq (least_eq (by decide) (by decide)) ?_
  rfl
theorem s2_bd {g : Gs} (G : Gd g) : -(2 ^ 64) < g.2.2 - g.1 ∧ g.2.2 - g.1 < 2 ^ 64 := by
  obtain ⟨a, a8, b, b5, c, c7⟩ := G
  omega
theorem spread_eq {g : Gs} (G : Gd g) : f_spread_of [gW g] h = .ok (lst2 (s2 g) 36) h := by
  refine eq_wp (wp_body ?_)
  unfold b_spread_of
  walk_at "ev"
  refine wp_eq (check_eq G) ?_
  walk_at "ev"
  refine ixg rfl ?_
  walk_at "ev"
  refine ixg rfl ?_
  walk_at "ev"
  refine ixg rfl ?_
  walk_at "ev"
  refine ixg rfl ?_
  walk_at "ev"
  refine wp_mul (.inl (s2_bd G)) ?_
  walk_at "ev"
  refine wp_eq (least_eq (by decide) (by decide)) ?_
  rfl
theorem sum_of_eq {gs : List Gs} (G : ∀ g ∈ gs, Gd g) : f_sum_of [.lst (gs.map gW)] h = .ok (.tup [lst2 ((gs.map s1).sum) 6, lst2 ((gs.map s2).sum) 36]) h := by
  refine eq_wp (wp_body ?_)
  unfold b_sum_of
  walk_at "ev"
  refine wp_sz (by simp [sizeLine]) ?_
  walk_at "ev"
  refine ws_forP gW (fun d sl h' => h' = h ∧ ∃ t, sl = [some (.lst (gs.map gW)), t, some (.int (d.map s1).sum), some (.int (d.map s2).sum)]) ⟨rfl, none, rfl⟩ (fun _ _ _ _ => rfl) ?_ ?_
  · rintro d g r sl h' e ⟨rfl, t, rfl⟩
    have Gg := G g (by rw [e]; simp)
    walk_at "ev"
    refine wp_eq (check_eq Gg) ?_
    walk_at "ev"
    refine ixg rfl ?_
    walk_at "ev"
    refine ixg rfl ?_
    walk_at "ev"
    refine wp_mul (.inl (by decide)) ?_
    walk_at "ev"
    refine ixg rfl ?_
    walk_at "ev"
    refine ixg rfl ?_
    walk_at "ev"
    refine ixg rfl ?_
    walk_at "ev"
    refine ixg rfl ?_
    walk_at "ev"
    refine ixg rfl ?_
    walk_at "ev"
    refine wp_mul (.inl (s2_bd Gg)) ?_
    walk_at "ev"
    refine ⟨rfl, some (gW g), ?_⟩
    simp only [List.map_append, List.sum_append, List.map_cons, List.map_nil, List.sum_cons, List.sum_nil, Int.add_zero]
    rfl
  · rintro sl h' ⟨rfl, t, rfl⟩
    walk_at "ev"
    refine wp_eq (least_eq (by decide) (by decide)) ?_
    refine wp_ok ?_
    walk_at "ev"
    refine wp_eq (least_eq (by decide) (by decide)) ?_
    refine wp_ok ?_
    walk_at "ev"
    refine wp_sz (by simp [sizeLine]) ?_
    rfl

theorem wl_snoc (g : Gs) (d : List Int) (n : Int) : ((d ++ [n]).map fun d => (d, wt g d)) = (d.map fun d => (d, wt g d)) ++ [(n, wt g n)] := by simp
theorem wp_chances {g : Gs} (G : Gd g) {K : W → HS → Prop} {E : Nat → HS → Prop} (p : ∀ h', Ext h h' → h'.nx = h.nx + 1 → h'.at_ h.nx = some (.dic ((wl g).map kI) ((wl g).map vI)) → K (.box h.nx) h') : Wp (f_chances [gW g] h) K E := by
  have G0 := G
  obtain ⟨a, a8, b, b5, c, c7⟩ := G
  refine wp_body ?_
  unfold b_chances
  walk_at "ev"
  refine wp_eq (check_eq G0) ?_
  walk_at "ev"
  refine ws_neg (by simp; omega) ?_
  walk_at "ev"
  refine ⟨by omega, ?_⟩
  rw [rItems_one]
  refine ws_forP W.int (fun d sl h' => Ext h h' ∧ h'.nx = h.nx + 1 ∧ h'.at_ h.nx = some (.dic ((d.map fun d => (d, wt g d)).map kI) ((d.map fun d => (d, wt g d)).map vI)) ∧ ∃ t, sl = [some (gW g), some (.box h.nx), t, some (.int g.1), some (.int g.2.1), some (.int g.2.2)]) ⟨Ext.new h _, rfl, if_pos rfl, none, rfl⟩ (fun _ _ _ _ => rfl) ?_ ?_
  · rintro d n r sl h' e ⟨x, x2, x3, t, rfl⟩
    have hn := mem_iota.mp (show n ∈ iota g.1 (g.2.2 + 1 - g.1).toNat by rw [e]; simp)
    have nin : n ∉ ((d.map fun d => (d, wt g d)).map (·.1)) := by
      have nd : (iota g.1 (g.2.2 + 1 - g.1).toNat).Nodup := by
        unfold iota
        exact List.pairwise_map.mpr (List.nodup_range.imp fun {a b} h => by omega)
      rw [e] at nd
      rw [List.map_map]
      intro z
      have z : n ∈ d := by simpa using z
      exact (List.nodup_append.mp nd).2.2 _ z _ (by simp) rfl
    have nd0 : NdI (d.map fun d => (d, wt g d)) := by
      have nd := wl_nd g
      unfold wl gLen at nd
      rw [e, List.map_append] at nd
      unfold NdI at nd ⊢
      rw [List.map_append] at nd
      exact (List.nodup_append.mp nd).1
    have hl : (d.map fun d => (d, wt g d)).length < sizeLine := by
      have := congrArg List.length e
      simp only [iota, List.length_map, List.length_range, List.length_append, List.length_cons] at this
      rw [List.length_map]
      unfold sizeLine
      omega
    walk_at "ev"
    refine wp_mono (K := fun w h1 => w = .int (wt g n) ∧ h1 = h') (E := NoE) ?_ (fun w h1 ⟨e1, e2⟩ => ?_) (fun _ _ z => z.elim)
    · by_cases q : n ≤ g.2.1
      · refine wp_pos (by simpa using q) ?_
        walk_at "ev"
        refine wp_mul (.inl (by omega)) ⟨?_, rfl⟩
        exact congrArg W.int (if_pos q).symm
      · refine wp_neg (by simpa using q) ?_
        walk_at "ev"
        refine wp_mul (.inl (by omega)) ⟨?_, rfl⟩
        exact congrArg W.int (if_neg q).symm
    · subst e1; subst e2
      walk_at "ev"
      refine wp_setI x3 nd0 hl ?_
      refine ⟨x.put _ (Nat.le_refl _), x2, ?_, some (.int n), rfl⟩
      rw [putI_new nin, ← wl_snoc]
      exact if_pos rfl
  · rintro sl h' ⟨x, x2, x3, t, rfl⟩
    walk_at "ev"
    exact p h' x x2 x3
theorem weights_eq {g : Gs} (G : Gd g) : f__law_weights [gW g] h = .ok (.lst ((wl g).map prI)) h := by
  obtain ⟨a, a8, b, b5, c, c7⟩ := G
  refine eq_wp (wp_body ?_)
  unfold b__law_weights
  walk_at "ev"
  refine wp_sz (by simp [sizeLine]) ?_
  walk_at "ev"
  refine ⟨by omega, ?_⟩
  rw [rItems_one]
  refine ws_forP W.int (fun d sl h' => h' = h ∧ ∃ t, sl = [some (gW g), some (.lst ((d.map fun d => (d, wt g d)).map prI)), t, some (.int g.1), some (.int g.2.1), some (.int g.2.2)]) ⟨rfl, none, rfl⟩ (fun _ _ _ _ => rfl) ?_ ?_
  · rintro d n r sl h' e ⟨rfl, t, rfl⟩
    have hn := mem_iota.mp (show n ∈ iota g.1 (g.2.2 + 1 - g.1).toNat by rw [e]; simp)
    have hl : d.length < 14 := by
      have := congrArg List.length e
      simp only [iota, List.length_map, List.length_range, List.length_append, List.length_cons] at this
      omega
    walk_at "ev"
    refine wp_mono (K := fun w h1 => w = .int (wt g n) ∧ h1 = h') (E := NoE) ?_ (fun w h1 ⟨e1, e2⟩ => ?_) (fun _ _ z => z.elim)
    · by_cases q : n ≤ g.2.1
      · refine wp_pos (by simpa using q) ?_
        walk_at "ev"
        refine wp_mul (.inl (by omega)) ⟨?_, rfl⟩
        exact congrArg W.int (if_pos q).symm
      · refine wp_neg (by simpa using q) ?_
        walk_at "ev"
        refine wp_mul (.inl (by omega)) ⟨?_, rfl⟩
        exact congrArg W.int (if_neg q).symm
    · subst e1; subst e2
      walk_at "ev"
      refine wp_sz (by simp [sizeLine]) ?_
      walk_at "ev"
      refine wp_sz (by simp [sizeLine]) ?_
      walk_at "ev"
      refine wp_addL (by simp [sizeLine]; omega) ?_
      walk_at "ev"
      refine ⟨rfl, some (.int n), ?_⟩
      rw [wl_snoc, List.map_append]
      rfl
  · rintro sl h' ⟨rfl, t, rfl⟩
    walk_at "ev"
    rfl

end K03
end

/-! Km4 -/
section
set_option Elab.async false
set_option linter.all false
set_option maxRecDepth 100000
set_option maxHeartbeats 4000000
namespace K03
open PySem PySem.Spec L2 Pk
local macro_rules | `(tactic| walk_at "ev1") => `(tactic| with_reducible first
  | refine wp_var rfl ?_ | refine wp_c ?_ | refine wp_bin ?_ | refine wp_un ?_ | refine wp_asB ?_ | refine wp_tval ?_ | refine wp_chain_ll ?_ | refine wp_chain_tt ?_ | refine wp_chain ?_ | refine wp_tand ?_ | refine wp_tor ?_ | refine wp_tnot ?_
  | refine wp_and ?_ | refine wp_or ?_ | refine wp_not ?_ | refine wp_if ?_ | refine wp_anil ?_ | refine wp_acons ?_ | refine wp_tup ?_ | refine wp_lst ?_ | refine wp_mkLf ?_ | refine wp_mkLt ?_ | refine wp_mkDf ?_ | refine wp_mkDt ?_
  | refine wp_add ?_ | refine wp_sub ?_ | refine wp_neg' ?_ | refine wp_kadd ?_ | refine wp_ksub ?_ | refine wp_lt ?_ | refine wp_le ?_ | refine wp_gt ?_ | refine wp_ge ?_ | refine wp_eqi ?_ | refine wp_nei ?_ | refine wp_eqs ?_ | refine wp_nes ?_ | refine wp_eqb ?_ | refine wp_neb ?_
  | refine wp_is ?_ | refine wp_isN ?_ | refine wp_callB ?_ | refine wp_call ?_ | refine wp_go rfl ?_ | refine wp_meth ?_ | refine wp_make ?_ | refine wp_told ?_ | refine wp_get2 ?_
  | refine ws_nil ?_ | refine ws_seq ?_ | refine ws_expr ?_ | refine ws_ret ?_ | refine ws_retN ?_ | refine ws_if ?_ | refine ws_raise ?_ | refine ws_asgN ?_ | refine ws_asg ?_ | refine gp_n ?_ | refine gp_tup rfl ?_ | refine gp_cons ?_ | refine gp_nil ?_
  | refine ws_par ?_ | refine ws_par3 ?_ | refine ws_aug rfl ?_ | refine ws_fld ?_ | refine ws_sub ?_ | refine ws_del ?_ | refine ws_for ?_ | refine wp_lc ?_ | refine ip_seq ?_ | refine ip_r1 ?_ | refine ip_r2 ?_ | refine ip_r3 ?_
  | refine wp_tyes ?_ | refine wp_ok ?_ | refine wp_tupR ?_ | refine wp_zipL ?_ | refine tvT ?_ | refine tvK ?_ | refine wp_cut ?_ | refine wp_pno ?_ | refine wp_psome ?_ | refine wp_cutScr ?_ | refine wp_cutL ?_ | refine wp_cutT ?_ | refine wp_lenL ?_ | refine wp_lenT ?_ | refine wp_intI ?_ | refine wp_intB ?_ | refine wp_absI ?_ | refine wp_listT ?_ | refine wp_listL ?_ | refine wp_tupleL ?_ | refine wp_tupleT ?_ | refine wp_sumL ?_ | refine wp_any ?_ | refine wp_all ?_ | refine wp_sumG ?_ | refine wp_tupG ?_ | refine wp_bind ?_ | refine is1 ?_ | refine is2 ?_ | refine is3 ?_ | refine isI ?_ | refine isS ?_ | refine svL ?_ | refine svT ?_ | refine svK ?_ | refine lvL ?_ | refine wp_dnewT ?_ | refine wp_dnewF ?_ | refine wp_lm ?_ | refine wp_dc ?_ | refine wp_count ?_ | refine wp_chain3l ?_ | refine ip_items ?_ | refine ip_vals ?_ | refine ip_keysI ?_ | refine wp_vals ?_ | refine wp_sortItems ?_ | refine ip_enum ?_ | refine ip_txt ?_)
local macro_rules | `(tactic| walk_at "ev") => `(tactic| repeat walk_at "ev1")
variable {h : HS}
def foundG (op : Int → Int → Int) (gs : List Gs) : List (Int × Int) := gs.foldl (fun ps g => accI (cmb op ps (wl g))) [(0, 1)]
def rowsG (op : Int → Int → Int) (gs : List Gs) : List (Int × Int) := gs.foldl (fun ps g => srtP (accI (cmb op ps (wl g)))) [(0, 1)]
def finP (ps : List (Int × Int)) : List (Int × Int) := (srtP ps).map fun p => (p.1, p.2 / gcs (ps.map (·.2)))
def opS (a b : Int) : Int := a + b
def opM (a b : Int) : Int := if b > a then b else a
def Hop (op : Int → Int → Int) : Prop := ∀ a b, 0 ≤ a → 0 ≤ b → 0 ≤ op a b ∧ op a b ≤ a + b
theorem hopS : Hop opS := fun a b h1 h2 => by unfold opS; omega
theorem hopM : Hop opM := fun a b h1 h2 => by unfold opM; split <;> omega
structure Fg (n : Nat) (ps : List (Int × Int)) : Prop where
  nd : NdI ps
  pos : ∀ p ∈ ps, 1 ≤ p.2
  key : ∀ p ∈ ps, 0 ≤ p.1 ∧ p.1 ≤ 20 * n
  sum : (ps.map (·.2)).sum ≤ 624 ^ n
  ne : ps ≠ []
theorem fg0 : Fg 0 [(0, 1)] := ⟨by unfold NdI; simp, fun p hp => by rw [List.mem_singleton.mp hp]; decide, fun p hp => by rw [List.mem_singleton.mp hp]; decide, by decide, by simp⟩
theorem cmb_key {op : Int → Int → Int} (ho : Hop op) {n : Nat} {ps : List (Int × Int)} {g : Gs} (G : Gd g) (F : ∀ p ∈ ps, 0 ≤ p.1 ∧ p.1 ≤ 20 * n) : ∀ x ∈ cmb op ps (wl g), 0 ≤ x.1 ∧ x.1 ≤ 20 * (n + 1 : Nat) := fun x hx => by
  obtain ⟨p, hp, q, hq, rfl⟩ := mem_cmb hx
  obtain ⟨a, b, _⟩ := wl_mem G hq
  obtain ⟨a1, a8, b1, b5, c1, c7⟩ := G
  have := F p hp
  have := ho p.1 q.1 (by omega) (by omega)
  show 0 ≤ op p.1 q.1 ∧ op p.1 q.1 ≤ _
  omega
theorem acc_key {P : Int → Prop} {L : List (Int × Int)} (h : ∀ x ∈ L, P x.1) : ∀ p ∈ accI L, P p.1 := fun p hp => by
  obtain ⟨a, _⟩ := mem_acc.mp hp
  obtain ⟨x, hx, e⟩ := List.mem_map.mp a
  rw [← e]
  exact h x hx
theorem acc_ne {L : List (Int × Int)} (h : L ≠ []) : accI L ≠ [] := fun z => by
  cases L with
  | nil => exact h rfl
  | cons p L =>
    have : (p.1, totI (p :: L) p.1) ∈ accI (p :: L) := mem_acc.mpr ⟨by simp, rfl⟩
    rw [z] at this
    cases this
theorem cmb_ne {op : Int → Int → Int} {ps tb : List (Int × Int)} (h1 : ps ≠ []) (h2 : tb ≠ []) : cmb op ps tb ≠ [] := by
  cases ps with
  | nil => exact absurd rfl h1
  | cons p ps =>
    cases tb with
    | nil => exact absurd rfl h2
    | cons q tb => simp [cmb]
theorem sum_nn {ps : List (Int × Int)} (h : ∀ p ∈ ps, 1 ≤ p.2) : 0 ≤ (ps.map (·.2)).sum := by
  induction ps with
  | nil => exact Int.le_refl _
  | cons p ps ih =>
    rw [List.map_cons, List.sum_cons]
    have := h p List.mem_cons_self
    have := ih fun q hq => h q (List.mem_cons_of_mem _ hq)
    omega
theorem fg_step {op : Int → Int → Int} (ho : Hop op) {n : Nat} {ps : List (Int × Int)} {g : Gs} (G : Gd g) (F : Fg n ps) : Fg (n + 1) (accI (cmb op ps (wl g))) := by
  refine ⟨accI_nd _, accI_pos (cmb_pos F.pos fun p hp => (wl_mem G hp).2.2.2.1), acc_key (P := fun k => 0 ≤ k ∧ k ≤ 20 * ((n + 1 : Nat) : Int)) (cmb_key ho G F.key), ?_, acc_ne (cmb_ne F.ne (wl_ne G))⟩
  rw [accI_sum, cmb_sum, Int.pow_succ]
  have s := wl_sum G
  exact Int.mul_le_mul F.sum s.2 (by omega) (Int.pow_nonneg (by decide))
theorem fg_perm {n : Nat} {ps qs : List (Int × Int)} (p : qs.Perm ps) (F : Fg n ps) : Fg n qs :=
  ⟨(p.map (fun x : Int × Int => x.1)).nodup_iff.mpr (show (ps.map (·.1)).Nodup from F.nd), fun x hx => F.pos x (p.mem_iff.mp hx), fun x hx => F.key x (p.mem_iff.mp hx), by rw [sum_perm (p.map (·.2))]; exact F.sum, fun z => F.ne (by rw [z] at p; exact (List.Perm.nil_eq p).symm)⟩
theorem foldl_fg {op : Int → Int → Int} (ho : Hop op) : ∀ (gs : List Gs) (n : Nat) (ps : List (Int × Int)), (∀ g ∈ gs, Gd g) → Fg n ps → Fg (n + gs.length) (gs.foldl (fun ps g => accI (cmb op ps (wl g))) ps)
  | [], _, _, _, F => F
  | g :: gs, n, ps, G, F => by
    have := foldl_fg ho gs (n + 1) _ (fun x hx => G x (List.mem_cons_of_mem _ hx)) (fg_step ho (G g List.mem_cons_self) F)
    rw [List.foldl_cons, List.length_cons, show n + (gs.length + 1) = n + 1 + gs.length by omega]
    exact this
theorem foundG_fg {op : Int → Int → Int} (ho : Hop op) {gs : List Gs} (G : ∀ g ∈ gs, Gd g) : Fg gs.length (foundG op gs) := by
  have := foldl_fg ho gs 0 _ G fg0
  rwa [Nat.zero_add] at this
theorem rows_foldl (op : Int → Int → Int) : ∀ (gs : List Gs) (ps qs : List (Int × Int)), qs = srtP ps → gs.foldl (fun ps g => srtP (accI (cmb op ps (wl g)))) qs = srtP (gs.foldl (fun ps g => accI (cmb op ps (wl g))) ps)
  | [], _, _, e => e
  | g :: gs, ps, qs, e => by
    rw [List.foldl_cons, List.foldl_cons]
    refine rows_foldl op gs _ _ (srtP_eq (accI_perm (cmb_perm ?_)))
    rw [e]
    exact srtP_perm ps
theorem rowsG_eq (op : Int → Int → Int) (gs : List Gs) : rowsG op gs = srtP (foundG op gs) := rows_foldl op gs _ _ rfl
theorem fg_len {n : Nat} {ps : List (Int × Int)} (F : Fg n ps) : ps.length ≤ 20 * n + 1 := nd_len (lo := 0) F.nd fun p hp => by
  have := F.key p hp
  omega
theorem gcs_bd {n : Nat} {ps : List (Int × Int)} (F : Fg n ps) (hn : n ≤ 3) : 0 < gcs (ps.map (·.2)) ∧ gcs (ps.map (·.2)) < 1073741824 ∧ ∀ p ∈ ps, p.2 < 1073741824 := by
  have nn : ∀ x ∈ ps.map (·.2), 0 ≤ x := fun x hx => by
    obtain ⟨p, hp, rfl⟩ := List.mem_map.mp hx
    have := F.pos p hp
    show 0 ≤ p.2
    omega
  have pw : (624 : Int) ^ n ≤ 624 ^ 3 := by
    rcases n with _ | _ | _ | _ | n
    · decide
    · decide
    · decide
    · decide
    · omega
  have all : ∀ p ∈ ps, p.2 < 1073741824 := fun p hp => by
    have := le_sum nn p.2 (List.mem_map.mpr ⟨p, hp, rfl⟩)
    have := F.sum
    omega
  refine ⟨?_, ?_, all⟩
  all_goals
    cases e : ps with
    | nil => exact absurd e F.ne
    | cons p r =>
      have hp := F.pos p (by rw [e]; exact List.mem_cons_self)
      have hq := all p (by rw [e]; exact List.mem_cons_self)
      have dv : ∀ (l : List Int) (a : Int), l.foldl gcI a ∣ a := by
        intro l
        induction l with
        | nil => intro a; exact Int.dvd_refl a
        | cons x l ih => intro a; exact Int.dvd_trans (ih _) gcI_dvd.1
      have nn2 : ∀ (l : List Int) (a : Int), 0 ≤ a → 0 ≤ l.foldl gcI a := by
        intro l
        induction l with
        | nil => intro a ha; exact ha
        | cons x l ih => intro a _; exact ih _ (gcI_nonneg _ _)
      have d1 : gcs ((p :: r).map (·.2)) ∣ p.2 := Int.dvd_trans (dv (r.map (·.2)) (gcI 0 p.2)) gcI_dvd.2
      have d2 : 0 ≤ gcs ((p :: r).map (·.2)) := nn2 _ _ (Int.le_refl 0)
      have d3 := Int.le_of_dvd (by omega) d1
      have d4 : gcs ((p :: r).map (·.2)) ≠ 0 := fun z => by
        rw [z] at d1
        have := Int.zero_dvd.mp d1
        omega
      omega
theorem finP_eq {ps : List (Int × Int)} (nd : NdI ps) : finP ps = (srtI (ps.map (·.1))).map fun k => (k, (lookI ps k).getD 0 / gcs (ps.map (·.2))) := by
  rw [← srt_keys nd, List.map_map]
  refine List.map_congr_left fun p hp => ?_
  show _ = (p.1, (lookI ps p.1).getD 0 / _)
  rw [lookI_perm nd (srtP_perm ps) hp]
  rfl
theorem finP_nd {ps : List (Int × Int)} (nd : NdI ps) : NdI (finP ps) := by
  have := srtP_nd nd
  unfold NdI at this ⊢
  unfold finP
  rw [List.map_map]
  exact this
theorem accI_snoc (L : List (Int × Int)) (x : Int × Int) : accI (L ++ [x]) = addI (accI L) x.1 x.2 := by unfold accI; rw [List.foldl_append]; rfl
theorem cmb_snoc (op : Int → Int → Int) (d : List (Int × Int)) (p : Int × Int) (tb : List (Int × Int)) : cmb op (d ++ [p]) tb = cmb op d tb ++ tb.map fun q => (op p.1 q.1, p.2 * q.2) := by
  unfold cmb; rw [List.flatMap_append]; simp
/-- a prefix of all with all -/
theorem pre_key {op : Int → Int → Int} {n : Nat} {ps tb d r e r2 : List (Int × Int)} {p : Int × Int} (k : ∀ x ∈ cmb op ps tb, 0 ≤ x.1 ∧ x.1 ≤ 20 * (n : Int)) (e1 : ps = d ++ p :: r) (e2 : tb = e ++ r2) :
    NdI (accI (cmb op d tb ++ e.map fun q => (op p.1 q.1, p.2 * q.2))) ∧ (accI (cmb op d tb ++ e.map fun q => (op p.1 q.1, p.2 * q.2))).length ≤ 20 * n + 1 := by
  refine ⟨accI_nd _, nd_len (lo := 0) (accI_nd _) fun q hq => ?_⟩
  have := acc_key (P := fun k => 0 ≤ k ∧ k ≤ 20 * (n : Int)) (L := cmb op d tb ++ e.map fun q => (op p.1 q.1, p.2 * q.2)) (fun x hx => k x (by
    rw [e1]
    unfold cmb at hx ⊢
    rw [List.flatMap_append, List.flatMap_cons]
    rcases List.mem_append.mp hx with hx | hx
    · exact List.mem_append.mpr (.inl hx)
    · refine List.mem_append.mpr (.inr (List.mem_append.mpr (.inl ?_)))
      rw [e2, List.map_append]
      exact List.mem_append.mpr (.inl hx))) q hq
  omega
theorem getD_int (o : Option Int) : (o.map W.int).getD (.int 0) = .int (o.getD 0) := by cases o <;> rfl
theorem dv_sview {w : W} {sg : List (Int × Int)} (d : Dv h w sg) : sview h w = none := by
  unfold Dv at d
  cases w with
  | dic ks ws => rfl
  | box n =>
    rw [dview_b] at d
    unfold sview lview
    cases e : h.at_ n with
    | none => rw [e] at d; cases d
    | some c =>
      rw [e] at d
      cases c with
      | lst _ => cases d
      | ins _ _ _ => cases d
      | dic _ _ => simp only [e]
      | lck _ _ => simp only [e]
  | _ => cases d
theorem dv_str {w : W} {sg : List (Int × Int)} (d : Dv h w sg) : ∀ z, w ≠ .str z := fun z e => by
  subst e
  cases d

end K03
end

/-! Km5 -/
section
set_option Elab.async false
set_option linter.all false
set_option maxRecDepth 100000
set_option maxHeartbeats 4000000
namespace K03
open PySem PySem.Spec L2 Pk
local macro_rules | `(tactic| walk_at "ev1") => `(tactic| with_reducible first
  | refine wp_var rfl ?_ | refine wp_c ?_ | refine wp_bin ?_ | refine wp_un ?_ | refine wp_asB ?_ | refine wp_tval ?_ | refine wp_chain_ll ?_ | refine wp_chain_tt ?_ | refine wp_chain ?_ | refine wp_tand ?_ | refine wp_tor ?_ | refine wp_tnot ?_
  | refine wp_and ?_ | refine wp_or ?_ | refine wp_not ?_ | refine wp_if ?_ | refine wp_anil ?_ | refine wp_acons ?_ | refine wp_tup ?_ | refine wp_lst ?_ | refine wp_mkLf ?_ | refine wp_mkLt ?_ | refine wp_mkDf ?_ | refine wp_mkDt ?_
  | refine wp_add ?_ | refine wp_sub ?_ | refine wp_neg' ?_ | refine wp_kadd ?_ | refine wp_ksub ?_ | refine wp_lt ?_ | refine wp_le ?_ | refine wp_gt ?_ | refine wp_ge ?_ | refine wp_eqi ?_ | refine wp_nei ?_ | refine wp_eqs ?_ | refine wp_nes ?_ | refine wp_eqb ?_ | refine wp_neb ?_
  | refine wp_is ?_ | refine wp_isN ?_ | refine wp_callB ?_ | refine wp_call ?_ | refine wp_go rfl ?_ | refine wp_meth ?_ | refine wp_make ?_ | refine wp_told ?_ | refine wp_get2 ?_
  | refine ws_nil ?_ | refine ws_seq ?_ | refine ws_expr ?_ | refine ws_ret ?_ | refine ws_retN ?_ | refine ws_if ?_ | refine ws_raise ?_ | refine ws_asgN ?_ | refine ws_asg ?_ | refine gp_n ?_ | refine gp_tup rfl ?_ | refine gp_cons ?_ | refine gp_nil ?_
  | refine ws_par ?_ | refine ws_par3 ?_ | refine ws_aug rfl ?_ | refine ws_fld ?_ | refine ws_sub ?_ | refine ws_del ?_ | refine ws_for ?_ | refine wp_lc ?_ | refine ip_seq ?_ | refine ip_r1 ?_ | refine ip_r2 ?_ | refine ip_r3 ?_
  | refine wp_tyes ?_ | refine wp_ok ?_ | refine wp_tupR ?_ | refine wp_zipL ?_ | refine tvT ?_ | refine tvK ?_ | refine wp_cut ?_ | refine wp_pno ?_ | refine wp_psome ?_ | refine wp_cutScr ?_ | refine wp_cutL ?_ | refine wp_cutT ?_ | refine wp_lenL ?_ | refine wp_lenT ?_ | refine wp_intI ?_ | refine wp_intB ?_ | refine wp_absI ?_ | refine wp_listT ?_ | refine wp_listL ?_ | refine wp_tupleL ?_ | refine wp_tupleT ?_ | refine wp_sumL ?_ | refine wp_any ?_ | refine wp_all ?_ | refine wp_sumG ?_ | refine wp_tupG ?_ | refine wp_bind ?_ | refine is1 ?_ | refine is2 ?_ | refine is3 ?_ | refine isI ?_ | refine isS ?_ | refine svL ?_ | refine svT ?_ | refine svK ?_ | refine lvL ?_ | refine wp_dnewT ?_ | refine wp_dnewF ?_ | refine wp_lm ?_ | refine wp_dc ?_ | refine wp_count ?_ | refine wp_chain3l ?_ | refine ip_items ?_ | refine ip_vals ?_ | refine ip_keysI ?_ | refine wp_vals ?_ | refine wp_sortItems ?_ | refine ip_enum ?_ | refine ip_txt ?_)
local macro_rules | `(tactic| walk_at "ev") => `(tactic| repeat walk_at "ev1")
variable {h : HS}
/-- what stands while all are put together -/
structure Cx0 (h0 h : HS) (F : W) (ps : List (Int × Int)) (t n : Nat) (tb L : List (Int × Int)) : Prop where
  ext : Ext h0 h
  f : Dv h F ps
  fn : ∀ m, F = .box m → h0.nx ≤ m ∧ m < h.nx ∧ m ≠ n
  td : Dv h (.box t) tb
  tn : h0.nx ≤ t ∧ t < h.nx ∧ t ≠ n
  na : h.at_ n = some (.dic ((accI L).map kI) ((accI L).map vI))
  nn : h0.nx ≤ n ∧ n < h.nx
theorem Cx0.lkF {h0 h : HS} {F : W} {ps : List (Int × Int)} {t n : Nat} {tb L : List (Int × Int)} (x : Cx0 h0 h F ps t n tb L) : Cx0 h0 (lkW F h) F ps t n tb L := by
  refine ⟨x.ext.lk fun m e => (x.fn m e).1, dview_lk.trans x.f, ?_, dview_lk.trans x.td, ?_, (at_lk fun z => (x.fn n z).2.2 rfl).trans x.na, ?_⟩
  · rw [nx_lk]; exact x.fn
  · rw [nx_lk]; exact x.tn
  · rw [nx_lk]; exact x.nn
theorem Cx0.lkT {h0 h : HS} {F : W} {ps : List (Int × Int)} {t n : Nat} {tb L : List (Int × Int)} (x : Cx0 h0 h F ps t n tb L) : Cx0 h0 (lkW (.box t) h) F ps t n tb L := by
  refine ⟨x.ext.lk fun m e => by cases e; exact x.tn.1, dview_lk.trans x.f, ?_, dview_lk.trans x.td, ?_, (at_lk fun z => by cases z; exact x.tn.2.2 rfl).trans x.na, ?_⟩
  · rw [nx_lk]; exact x.fn
  · rw [nx_lk]; exact x.tn
  · rw [nx_lk]; exact x.nn
theorem Cx0.add {h0 h : HS} {F : W} {ps : List (Int × Int)} {t n : Nat} {tb L : List (Int × Int)} (x : Cx0 h0 h F ps t n tb L) (k v : Int) : Cx0 h0 (h.put n (.dic ((putI (accI L) k ((lookI (accI L) k).getD 0 + v)).map kI) ((putI (accI L) k ((lookI (accI L) k).getD 0 + v)).map vI))) F ps t n tb (L ++ [(k, v)]) := by
  refine ⟨x.ext.put _ x.nn.1, (dview_put fun z => (x.fn n z).2.2 rfl).trans x.f, x.fn, (dview_put fun z => by cases z; exact x.tn.2.2 rfl).trans x.td, x.tn, ?_, x.nn⟩
  rw [accI_snoc]
  exact if_pos rfl
theorem wp_together {gs : List Gs} (G : ∀ g ∈ gs, Gd g) (hn : gs.length ≤ 3) {K : W → HS → Prop} {E : Nat → HS → Prop} (p : ∀ h', Ext h h' → h'.nx ≤ h.nx + 6 → K (.dic ((finP (foundG opS gs)).map kI) ((finP (foundG opS gs)).map vI)) h') : Wp (f_together [.lst (gs.map gW)] h) K E := by
  refine wp_body ?_
  unfold b_together
  refine ws_seq (ws_asgN (wp_eq (show eDisp false [((eC (.int 0)), (eC (.int 1)))] _ h = .ok (.dic ([(0, 1)].map kI) ([(0, 1)].map vI)) h from rfl) (wp_ok ?_)))
  walk_at "ev"
  refine ws_forP gW (fun d sl h' => Ext h h' ∧ ∃ F t2 t4 t5 t6 t7 t10 t11, sl = [some (.lst (gs.map gW)), some F, t2, none, t4, t5, t6, t7, none, none, t10, t11] ∧ Dv h' F (foundG opS d) ∧ (∀ m, F = .box m → h.nx ≤ m ∧ m < h'.nx) ∧ h'.nx = h.nx + 2 * d.length) ?_ (fun _ _ _ _ => rfl) ?_ ?_
  · exact ⟨Ext.refl h, _, none, none, none, none, none, none, none, rfl, rfl, (fun m e => by cases e), rfl⟩
  · rintro d g r sl h1 e ⟨x1, F, t2, t4, t5, t6, t7, t10, t11, rfl, fd, fb, fx⟩
    have Gg := G g (by rw [e]; simp)
    have Gd' : ∀ x ∈ d, Gd x := fun x hx => G x (by rw [e]; simp [hx])
    have FF := foundG_fg hopS Gd'
    have dl : d.length + 1 ≤ 3 := by
      have := congrArg List.length e
      rw [List.length_append, List.length_cons] at this
      omega
    have kk := cmb_key hopS Gg FF.key
    walk_at "ev"
    refine wp_chances Gg fun h2 x2 n2 a2 => ?_
    walk_at "ev"
    refine ip_items (sg := foundG opS d) ?_
    walk_at "ev"
    have c0 : Cx0 h (h2.new (.dic [] [])) F (foundG opS d) h1.nx h2.nx (wl g) [] := by
      have b1 : ∀ m, m < h2.nx → (h2.new (.dic [] [])).at_ m = h2.at_ m := fun m hm => if_neg (Nat.ne_of_lt hm)
      have dvo : ∀ m, m < h1.nx → dview (h2.new (.dic [] [])) (.box m) = dview h1 (.box m) := fun m hm => by
        rw [dview_b, dview_b, b1 m (by omega), x2.2 m hm]
      refine ⟨x1.trans (x2.trans (Ext.new h2 _)), ?_, fun m e => ?_, ?_, ?_, if_pos rfl, ?_⟩
      · cases F with
        | box m => exact (dvo m (fb m rfl).2).trans fd
        | dic ks ws => exact fd
        | _ => cases fd
      · have := fb m e
        have := x1.1
        show _ ∧ m < h2.nx + 1 ∧ _
        omega
      · unfold Dv
        rw [dview_b, b1 _ (by omega), a2]
        rfl
      · have := x1.1
        show _ ∧ h1.nx < h2.nx + 1 ∧ _
        omega
      · have := x1.1
        show _ ∧ h2.nx < h2.nx + 1
        omega
    refine ⟨c0.f, ?_⟩
    refine ws_forP prI (fun dd sl h' => Cx0 h h' F (foundG opS d) h1.nx h2.nx (wl g) (cmb opS dd (wl g)) ∧ h'.nx = h2.nx + 1 ∧ ∃ t4 t7 t10 t11, sl = [some (.lst (gs.map gW)), some F, some (gW g), none, t4, some (.box h1.nx), some (.box h2.nx), t7, none, none, t10, t11]) ⟨c0.lkF, nx_lk, t4, t7, t10, t11, rfl⟩ (fun _ _ _ _ => rfl) ?_ ?_
    · rintro dd q rr sl h3 e3 ⟨c3, x3, t4, t7, t10, t11, rfl⟩
      obtain ⟨q1, q2⟩ := q
      walk_at "ev"
      refine ip_items (sg := wl g) ?_
      walk_at "ev"
      refine ⟨c3.td, ?_⟩
      refine ws_forP prI (fun ee sl h' => Cx0 h h' F (foundG opS d) h1.nx h2.nx (wl g) (cmb opS dd (wl g) ++ ee.map fun z => (opS q1 z.1, q2 * z.2)) ∧ h'.nx = h2.nx + 1 ∧ ∃ t10 t11, sl = [some (.lst (gs.map gW)), some F, some (gW g), none, some (.int q2), some (.box h1.nx), some (.box h2.nx), some (.int q1), none, none, t10, t11]) ⟨by rw [List.map_nil, List.append_nil]; exact c3.lkT, nx_lk.trans x3, t10, t11, rfl⟩ (fun _ _ _ _ => rfl) ?_ ?_
      · rintro ee z r2 sl h4 e4 ⟨c4, x4, t10, t11, rfl⟩
        obtain ⟨z1, z2⟩ := z
        have hz := wl_mem Gg (p := (z1, z2)) (by rw [e4]; simp)
        obtain ⟨nd4, l4⟩ := pre_key (n := d.length + 1) (p := (q1, q2)) kk e3 e4
        have l4 : (accI (cmb opS dd (wl g) ++ ee.map fun z => (opS q1 z.1, q2 * z.2))).length ≤ 20 * (d.length + 1) + 1 := l4
        walk_at "ev"
        refine ⟨⟨_, dview_box c4.na⟩, ?_⟩
        walk_at "ev"
        refine ⟨_, dget_I (dview_box c4.na) (q1 + z1), ?_⟩
        rw [getD_int]
        walk_at "ev"
        refine wp_mul (.inr (by have := hz.2.2.2; simp only at this; omega)) ?_
        walk_at "ev"
        refine wp_setI c4.na nd4 (by unfold sizeLine; omega) ?_
        refine ⟨?_, x4, some (.int z1), some (.int z2), rfl⟩
        have := c4.add (q1 + z1) (q2 * z2)
        rw [List.append_assoc] at this
        rw [List.map_append]
        exact this
      · rintro sl h4 ⟨c4, x4, t10, t11, rfl⟩
        refine ⟨?_, x4, some (.int q2), some (.int q1), t10, t11, rfl⟩
        rw [cmb_snoc]
        exact c4
    · rintro sl h3 ⟨c3, x3, t4, t7, t10, t11, rfl⟩
      have FS := fg_step hopS Gg FF
      have fl := fg_len FS
      have ef : foundG opS (d ++ [g]) = accI (cmb opS (foundG opS d) (wl g)) := by unfold foundG; rw [List.foldl_append]; rfl
      walk_at "ev"
      refine wp_lenD (dview_box c3.na) (fun z e => by cases e) (dv_sview (sg := accI (cmb opS (foundG opS d) (wl g))) (dview_box c3.na)) FS.ne ?_
      walk_at "ev"
      refine ws_neg (by simp; omega) (ws_nil ?_)
      walk_at "ev"
      refine ⟨c3.ext, .box h2.nx, _, _, _, _, _, _, _, rfl, by rw [ef]; exact dview_box c3.na, (fun m e => ?_), ?_⟩
      · cases e
        exact c3.nn
      · rw [List.length_append, x3, n2, fx]
        simp
        omega
  · rintro sl h1 ⟨x1, F, t2, t4, t5, t6, t7, t10, t11, rfl, fd, fb, fx⟩
    have FF := foundG_fg hopS G
    have gb := gcs_bd FF hn
    walk_at "ev"
    refine ip_vals (sg := foundG opS gs) ?_
    walk_at "ev"
    refine ⟨fd, ?_⟩
    have xl : Ext h (lkW F h1) := x1.lk fun m e => (fb m e).1
    have fl : Dv (lkW F h1) F (foundG opS gs) := dview_lk.trans fd
    have nl : (lkW F h1).nx = h.nx + 2 * gs.length := nx_lk.trans fx
    generalize lkW F h1 = h2 at xl fl nl
    refine ws_forP W.int (fun dd sl h' => h' = h2 ∧ ∃ t4 t8 t9, sl = [some (.lst (gs.map gW)), some F, t2, some (.int (gcs dd)), t4, t5, t6, t7, t8, t9, t10, t11]) ⟨rfl, t4, none, none, rfl⟩ (fun _ _ _ _ => rfl) ?_ ?_
    · rintro dd m rr sl h3 e3 ⟨rfl, t4, t8, t9, rfl⟩
      have hm : m ∈ (foundG opS gs).map (·.2) := by rw [e3]; simp
      obtain ⟨pm, hpm, em⟩ := List.mem_map.mp hm
      have h1m := FF.pos pm hpm
      have h2m := gb.2.2 pm hpm
      have em : pm.2 = m := em
      have nn : ∀ (l : List Int), 0 ≤ gcs l := by
        have : ∀ (l : List Int) (a : Int), 0 ≤ a → 0 ≤ l.foldl gcI a := by
          intro l
          induction l with
          | nil => intro a ha; exact ha
          | cons x l ih => intro a _; exact ih _ (gcI_nonneg _ _)
        exact fun l => this l 0 (Int.le_refl 0)
      walk_at "ev"
      refine ws_gcd rfl rfl (by decide) (nn dd) (by omega) (by omega) ?_
      walk_at "ev"
      refine ⟨rfl, some (.int m), some (.int (gcI (gcs dd) m)), some (.int 0), ?_⟩
      have : gcs (dd ++ [m]) = gcI (gcs dd) m := by unfold gcs; rw [List.foldl_append]; rfl
      rw [this]
      rfl
    · rintro sl h3 ⟨rfl, t4, t8, t9, rfl⟩
      walk_at "ev"
      refine wp_sortDI fl (dv_sview fl) (by have := fg_len FF; unfold sizeLine; omega) ?_
      walk_at "ev"
      refine wp_dcP W.int (fun k => (k, (lookI (foundG opS gs) k).getD 0 / gcs ((foundG opS gs).map (·.2)))) ?_ ?_ rfl (fun k hk => ?_) ?_
      · show (isort ltI ((foundG opS gs).map (·.1))).length ≤ _
        rw [(isort_perm ltI _).length_eq, List.length_map]
        have := fg_len FF
        unfold sizeLine; omega
      · rw [← finP_eq FF.nd]
        exact finP_nd FF.nd
      · have hk : k ∈ (foundG opS gs).map (·.1) := (isort_perm ltI _).mem_iff.mp hk
        obtain ⟨v, ev⟩ := Option.isSome_iff_exists.mp (lookI_isSome.mpr hk)
        walk_at "ev"
        refine ⟨rfl, ?_⟩
        walk_at "ev"
        refine ⟨rfl, ?_⟩
        walk_at "ev"
        refine wp_ixD (by rw [fl]; intro z; cases z) (dv_sview fl) (dv_str fl) (by rw [dget_I fl, ev]; rfl) ?_
        walk_at "ev"
        refine wp_div ⟨gb.1, gb.2.1⟩ ?_
        rw [ev]
        exact ⟨rfl, rfl⟩
      · rw [← finP_eq FF.nd]
        walk_at "ev"
        exact p h3 xl (by omega)

end K03
end

/-! Km6 -/
section
set_option Elab.async false
set_option linter.all false
set_option maxRecDepth 100000
set_option maxHeartbeats 4000000
namespace K03
open PySem PySem.Spec L2 Pk
local macro_rules | `(tactic| walk_at "ev1") => `(tactic| with_reducible first
  | refine wp_var rfl ?_ | refine wp_c ?_ | refine wp_bin ?_ | refine wp_un ?_ | refine wp_asB ?_ | refine wp_tval ?_ | refine wp_chain_ll ?_ | refine wp_chain_tt ?_ | refine wp_chain ?_ | refine wp_tand ?_ | refine wp_tor ?_ | refine wp_tnot ?_
  | refine wp_and ?_ | refine wp_or ?_ | refine wp_not ?_ | refine wp_if ?_ | refine wp_anil ?_ | refine wp_acons ?_ | refine wp_tup ?_ | refine wp_lst ?_ | refine wp_mkLf ?_ | refine wp_mkLt ?_ | refine wp_mkDf ?_ | refine wp_mkDt ?_
  | refine wp_add ?_ | refine wp_sub ?_ | refine wp_neg' ?_ | refine wp_kadd ?_ | refine wp_ksub ?_ | refine wp_lt ?_ | refine wp_le ?_ | refine wp_gt ?_ | refine wp_ge ?_ | refine wp_eqi ?_ | refine wp_nei ?_ | refine wp_eqs ?_ | refine wp_nes ?_ | refine wp_eqb ?_ | refine wp_neb ?_
  | refine wp_is ?_ | refine wp_isN ?_ | refine wp_callB ?_ | refine wp_call ?_ | refine wp_go rfl ?_ | refine wp_meth ?_ | refine wp_make ?_ | refine wp_told ?_ | refine wp_get2 ?_
  | refine ws_nil ?_ | refine ws_seq ?_ | refine ws_expr ?_ | refine ws_ret ?_ | refine ws_retN ?_ | refine ws_if ?_ | refine ws_raise ?_ | refine ws_asgN ?_ | refine ws_asg ?_ | refine gp_n ?_ | refine gp_tup rfl ?_ | refine gp_cons ?_ | refine gp_nil ?_
  | refine ws_par ?_ | refine ws_par3 ?_ | refine ws_aug rfl ?_ | refine ws_fld ?_ | refine ws_sub ?_ | refine ws_del ?_ | refine ws_for ?_ | refine wp_lc ?_ | refine ip_seq ?_ | refine ip_r1 ?_ | refine ip_r2 ?_ | refine ip_r3 ?_
  | refine wp_tyes ?_ | refine wp_ok ?_ | refine wp_tupR ?_ | refine wp_zipL ?_ | refine tvT ?_ | refine tvK ?_ | refine wp_cut ?_ | refine wp_pno ?_ | refine wp_psome ?_ | refine wp_cutScr ?_ | refine wp_cutL ?_ | refine wp_cutT ?_ | refine wp_lenL ?_ | refine wp_lenT ?_ | refine wp_intI ?_ | refine wp_intB ?_ | refine wp_absI ?_ | refine wp_listT ?_ | refine wp_listL ?_ | refine wp_tupleL ?_ | refine wp_tupleT ?_ | refine wp_sumL ?_ | refine wp_any ?_ | refine wp_all ?_ | refine wp_sumG ?_ | refine wp_tupG ?_ | refine wp_bind ?_ | refine is1 ?_ | refine is2 ?_ | refine is3 ?_ | refine isI ?_ | refine isS ?_ | refine svL ?_ | refine svT ?_ | refine svK ?_ | refine lvL ?_ | refine wp_dnewT ?_ | refine wp_dnewF ?_ | refine wp_lm ?_ | refine wp_dc ?_ | refine wp_count ?_ | refine wp_chain3l ?_ | refine ip_items ?_ | refine ip_vals ?_ | refine ip_keysI ?_ | refine wp_vals ?_ | refine wp_sortItems ?_ | refine ip_enum ?_ | refine ip_txt ?_)
local macro_rules | `(tactic| walk_at "ev") => `(tactic| repeat walk_at "ev1")
variable {h : HS}
theorem wp_max2 {a b : Int} {K : W → HS → Prop} {E : Nat → HS → Prop} (p : K (.int (opM a b)) h) : Wp (m_max2 [.int a, .int b] h) K E := p
theorem wp_later {gs : List Gs} (G : ∀ g ∈ gs, Gd g) (hn : gs.length ≤ 3) {K : W → HS → Prop} {E : Nat → HS → Prop} (p : ∀ h', Ext h h' → h'.nx ≤ h.nx + 6 → K (.dic ((finP (foundG opM gs)).map kI) ((finP (foundG opM gs)).map vI)) h') : Wp (f_later_of [.lst (gs.map gW)] h) K E := by
  refine wp_body ?_
  unfold b_later_of
  refine ws_seq (ws_asgN (wp_eq (show eDisp false [((eC (.int 0)), (eC (.int 1)))] _ h = .ok (.dic ([(0, 1)].map kI) ([(0, 1)].map vI)) h from rfl) (wp_ok ?_)))
  walk_at "ev"
  refine ws_forP gW (fun d sl h' => Ext h h' ∧ ∃ F t2 t4 t5 t6 t7 t10 t11 t12, sl = [some (.lst (gs.map gW)), some F, t2, none, t4, t5, t6, t7, none, none, t10, t11, t12] ∧ Dv h' F (foundG opM d) ∧ (∀ m, F = .box m → h.nx ≤ m ∧ m < h'.nx) ∧ h'.nx = h.nx + 2 * d.length) ?_ (fun _ _ _ _ => rfl) ?_ ?_
  · exact ⟨Ext.refl h, _, none, none, none, none, none, none, none, none, rfl, rfl, (fun m e => by cases e), rfl⟩
  · rintro d g r sl h1 e ⟨x1, F, t2, t4, t5, t6, t7, t10, t11, t12, rfl, fd, fb, fx⟩
    have Gg := G g (by rw [e]; simp)
    have Gd' : ∀ x ∈ d, Gd x := fun x hx => G x (by rw [e]; simp [hx])
    have FF := foundG_fg hopM Gd'
    have dl : d.length + 1 ≤ 3 := by
      have := congrArg List.length e
      rw [List.length_append, List.length_cons] at this
      omega
    have kk := cmb_key hopM Gg FF.key
    walk_at "ev"
    refine wp_chances Gg fun h2 x2 n2 a2 => ?_
    walk_at "ev"
    refine ip_items (sg := foundG opM d) ?_
    walk_at "ev"
    have c0 : Cx0 h (h2.new (.dic [] [])) F (foundG opM d) h1.nx h2.nx (wl g) [] := by
      have b1 : ∀ m, m < h2.nx → (h2.new (.dic [] [])).at_ m = h2.at_ m := fun m hm => if_neg (Nat.ne_of_lt hm)
      have dvo : ∀ m, m < h1.nx → dview (h2.new (.dic [] [])) (.box m) = dview h1 (.box m) := fun m hm => by
        rw [dview_b, dview_b, b1 m (by omega), x2.2 m hm]
      refine ⟨x1.trans (x2.trans (Ext.new h2 _)), ?_, fun m e => ?_, ?_, ?_, if_pos rfl, ?_⟩
      · cases F with
        | box m => exact (dvo m (fb m rfl).2).trans fd
        | dic ks ws => exact fd
        | _ => cases fd
      · have := fb m e
        have := x1.1
        show _ ∧ m < h2.nx + 1 ∧ _
        omega
      · unfold Dv
        rw [dview_b, b1 _ (by omega), a2]
        rfl
      · have := x1.1
        show _ ∧ h1.nx < h2.nx + 1 ∧ _
        omega
      · have := x1.1
        show _ ∧ h2.nx < h2.nx + 1
        omega
    refine ⟨c0.f, ?_⟩
    refine ws_forP prI (fun dd sl h' => Cx0 h h' F (foundG opM d) h1.nx h2.nx (wl g) (cmb opM dd (wl g)) ∧ h'.nx = h2.nx + 1 ∧ ∃ t4 t7 t10 t11 t12, sl = [some (.lst (gs.map gW)), some F, some (gW g), none, t4, some (.box h1.nx), some (.box h2.nx), t7, none, none, t10, t11, t12]) ⟨c0.lkF, nx_lk, t4, t7, t10, t11, t12, rfl⟩ (fun _ _ _ _ => rfl) ?_ ?_
    · rintro dd q rr sl h3 e3 ⟨c3, x3, t4, t7, t10, t11, t12, rfl⟩
      obtain ⟨q1, q2⟩ := q
      walk_at "ev"
      refine ip_items (sg := wl g) ?_
      walk_at "ev"
      refine ⟨c3.td, ?_⟩
      refine ws_forP prI (fun ee sl h' => Cx0 h h' F (foundG opM d) h1.nx h2.nx (wl g) (cmb opM dd (wl g) ++ ee.map fun z => (opM q1 z.1, q2 * z.2)) ∧ h'.nx = h2.nx + 1 ∧ ∃ t10 t11 t12, sl = [some (.lst (gs.map gW)), some F, some (gW g), none, some (.int q2), some (.box h1.nx), some (.box h2.nx), some (.int q1), none, none, t10, t11, t12]) ⟨by rw [List.map_nil, List.append_nil]; exact c3.lkT, nx_lk.trans x3, t10, t11, t12, rfl⟩ (fun _ _ _ _ => rfl) ?_ ?_
      · rintro ee z r2 sl h4 e4 ⟨c4, x4, t10, t11, t12, rfl⟩
        obtain ⟨z1, z2⟩ := z
        have hz := wl_mem Gg (p := (z1, z2)) (by rw [e4]; simp)
        obtain ⟨nd4, l4⟩ := pre_key (n := d.length + 1) (p := (q1, q2)) kk e3 e4
        have l4 : (accI (cmb opM dd (wl g) ++ ee.map fun z => (opM q1 z.1, q2 * z.2))).length ≤ 20 * (d.length + 1) + 1 := l4
        walk_at "ev"
        refine wp_max2 ?_
        walk_at "ev"
        refine ⟨⟨_, dview_box c4.na⟩, ?_⟩
        walk_at "ev"
        refine ⟨_, dget_I (dview_box c4.na) (opM q1 z1), ?_⟩
        rw [getD_int]
        walk_at "ev"
        refine wp_mul (.inr (by have := hz.2.2.2; simp only at this; omega)) ?_
        walk_at "ev"
        refine wp_setI c4.na nd4 (by unfold sizeLine; omega) ?_
        refine ⟨?_, x4, some (.int z1), some (.int z2), some (.int (opM q1 z1)), rfl⟩
        have := c4.add (opM q1 z1) (q2 * z2)
        rw [List.append_assoc] at this
        rw [List.map_append]
        exact this
      · rintro sl h4 ⟨c4, x4, t10, t11, t12, rfl⟩
        refine ⟨?_, x4, some (.int q2), some (.int q1), t10, t11, t12, rfl⟩
        rw [cmb_snoc]
        exact c4
    · rintro sl h3 ⟨c3, x3, t4, t7, t10, t11, t12, rfl⟩
      have FS := fg_step hopM Gg FF
      have fl := fg_len FS
      have ef : foundG opM (d ++ [g]) = accI (cmb opM (foundG opM d) (wl g)) := by unfold foundG; rw [List.foldl_append]; rfl
      walk_at "ev"
      refine ⟨c3.ext, .box h2.nx, _, _, _, _, _, _, _, _, rfl, by rw [ef]; exact dview_box c3.na, (fun m e => ?_), ?_⟩
      · cases e
        exact c3.nn
      · rw [List.length_append, x3, n2, fx]
        simp
        omega
  · rintro sl h1 ⟨x1, F, t2, t4, t5, t6, t7, t10, t11, t12, rfl, fd, fb, fx⟩
    have FF := foundG_fg hopM G
    have gb := gcs_bd FF hn
    walk_at "ev"
    refine ip_vals (sg := foundG opM gs) ?_
    walk_at "ev"
    refine ⟨fd, ?_⟩
    have xl : Ext h (lkW F h1) := x1.lk fun m e => (fb m e).1
    have fl : Dv (lkW F h1) F (foundG opM gs) := dview_lk.trans fd
    have nl : (lkW F h1).nx = h.nx + 2 * gs.length := nx_lk.trans fx
    generalize lkW F h1 = h2 at xl fl nl
    refine ws_forP W.int (fun dd sl h' => h' = h2 ∧ ∃ t4 t8 t9, sl = [some (.lst (gs.map gW)), some F, t2, some (.int (gcs dd)), t4, t5, t6, t7, t8, t9, t10, t11, t12]) ⟨rfl, t4, none, none, rfl⟩ (fun _ _ _ _ => rfl) ?_ ?_
    · rintro dd m rr sl h3 e3 ⟨rfl, t4, t8, t9, rfl⟩
      have hm : m ∈ (foundG opM gs).map (·.2) := by rw [e3]; simp
      obtain ⟨pm, hpm, em⟩ := List.mem_map.mp hm
      have h1m := FF.pos pm hpm
      have h2m := gb.2.2 pm hpm
      have em : pm.2 = m := em
      have nn : ∀ (l : List Int), 0 ≤ gcs l := by
        have : ∀ (l : List Int) (a : Int), 0 ≤ a → 0 ≤ l.foldl gcI a := by
          intro l
          induction l with
          | nil => intro a ha; exact ha
          | cons x l ih => intro a _; exact ih _ (gcI_nonneg _ _)
        exact fun l => this l 0 (Int.le_refl 0)
      walk_at "ev"
      refine ws_gcd rfl rfl (by decide) (nn dd) (by omega) (by omega) ?_
      walk_at "ev"
      refine ⟨rfl, some (.int m), some (.int (gcI (gcs dd) m)), some (.int 0), ?_⟩
      have : gcs (dd ++ [m]) = gcI (gcs dd) m := by unfold gcs; rw [List.foldl_append]; rfl
      rw [this]
      rfl
    · rintro sl h3 ⟨rfl, t4, t8, t9, rfl⟩
      walk_at "ev"
      refine wp_sortDI fl (dv_sview fl) (by have := fg_len FF; unfold sizeLine; omega) ?_
      walk_at "ev"
      refine wp_dcP W.int (fun k => (k, (lookI (foundG opM gs) k).getD 0 / gcs ((foundG opM gs).map (·.2)))) ?_ ?_ rfl (fun k hk => ?_) ?_
      · show (isort ltI ((foundG opM gs).map (·.1))).length ≤ _
        rw [(isort_perm ltI _).length_eq, List.length_map]
        have := fg_len FF
        unfold sizeLine; omega
      · rw [← finP_eq FF.nd]
        exact finP_nd FF.nd
      · have hk : k ∈ (foundG opM gs).map (·.1) := (isort_perm ltI _).mem_iff.mp hk
        obtain ⟨v, ev⟩ := Option.isSome_iff_exists.mp (lookI_isSome.mpr hk)
        walk_at "ev"
        refine ⟨rfl, ?_⟩
        walk_at "ev"
        refine ⟨rfl, ?_⟩
        walk_at "ev"
        refine wp_ixD (by rw [fl]; intro z; cases z) (dv_sview fl) (dv_str fl) (by rw [dget_I fl, ev]; rfl) ?_
        walk_at "ev"
        refine wp_div ⟨gb.1, gb.2.1⟩ ?_
        rw [ev]
        exact ⟨rfl, rfl⟩
      · rw [← finP_eq FF.nd]
        walk_at "ev"
        exact p h3 xl (by omega)

end K03
end

/-! Km7 -/
section
set_option Elab.async false
set_option linter.all false
set_option maxRecDepth 100000
set_option maxHeartbeats 4000000
namespace K03
open PySem PySem.Spec L2 Pk
local macro_rules | `(tactic| walk_at "ev1") => `(tactic| with_reducible first
  | refine wp_var rfl ?_ | refine wp_c ?_ | refine wp_bin ?_ | refine wp_un ?_ | refine wp_asB ?_ | refine wp_tval ?_ | refine wp_chain_ll ?_ | refine wp_chain_tt ?_ | refine wp_chain ?_ | refine wp_tand ?_ | refine wp_tor ?_ | refine wp_tnot ?_
  | refine wp_and ?_ | refine wp_or ?_ | refine wp_not ?_ | refine wp_if ?_ | refine wp_anil ?_ | refine wp_acons ?_ | refine wp_tup ?_ | refine wp_lst ?_ | refine wp_mkLf ?_ | refine wp_mkLt ?_ | refine wp_mkDf ?_ | refine wp_mkDt ?_
  | refine wp_add ?_ | refine wp_sub ?_ | refine wp_neg' ?_ | refine wp_kadd ?_ | refine wp_ksub ?_ | refine wp_lt ?_ | refine wp_le ?_ | refine wp_gt ?_ | refine wp_ge ?_ | refine wp_eqi ?_ | refine wp_nei ?_ | refine wp_eqs ?_ | refine wp_nes ?_ | refine wp_eqb ?_ | refine wp_neb ?_
  | refine wp_is ?_ | refine wp_isN ?_ | refine wp_callB ?_ | refine wp_call ?_ | refine wp_go rfl ?_ | refine wp_meth ?_ | refine wp_make ?_ | refine wp_told ?_ | refine wp_get2 ?_
  | refine ws_nil ?_ | refine ws_seq ?_ | refine ws_expr ?_ | refine ws_ret ?_ | refine ws_retN ?_ | refine ws_if ?_ | refine ws_raise ?_ | refine ws_asgN ?_ | refine ws_asg ?_ | refine gp_n ?_ | refine gp_tup rfl ?_ | refine gp_cons ?_ | refine gp_nil ?_
  | refine ws_par ?_ | refine ws_par3 ?_ | refine ws_aug rfl ?_ | refine ws_fld ?_ | refine ws_sub ?_ | refine ws_del ?_ | refine ws_for ?_ | refine wp_lc ?_ | refine ip_seq ?_ | refine ip_r1 ?_ | refine ip_r2 ?_ | refine ip_r3 ?_
  | refine wp_tyes ?_ | refine wp_ok ?_ | refine wp_tupR ?_ | refine wp_zipL ?_ | refine tvT ?_ | refine tvK ?_ | refine wp_cut ?_ | refine wp_pno ?_ | refine wp_psome ?_ | refine wp_cutScr ?_ | refine wp_cutL ?_ | refine wp_cutT ?_ | refine wp_lenL ?_ | refine wp_lenT ?_ | refine wp_intI ?_ | refine wp_intB ?_ | refine wp_absI ?_ | refine wp_listT ?_ | refine wp_listL ?_ | refine wp_tupleL ?_ | refine wp_tupleT ?_ | refine wp_sumL ?_ | refine wp_any ?_ | refine wp_all ?_ | refine wp_sumG ?_ | refine wp_tupG ?_ | refine wp_bind ?_ | refine is1 ?_ | refine is2 ?_ | refine is3 ?_ | refine isI ?_ | refine isS ?_ | refine svL ?_ | refine svT ?_ | refine svK ?_ | refine lvL ?_ | refine wp_dnewT ?_ | refine wp_dnewF ?_ | refine wp_lm ?_ | refine wp_dc ?_ | refine wp_count ?_ | refine wp_chain3l ?_ | refine ip_items ?_ | refine ip_vals ?_ | refine ip_keysI ?_ | refine wp_vals ?_ | refine wp_sortItems ?_ | refine ip_enum ?_ | refine ip_txt ?_)
local macro_rules | `(tactic| walk_at "ev") => `(tactic| repeat walk_at "ev1")
variable {h : HS}
def opB (s : Bool) : Int → Int → Int := if s then opS else opM
theorem hopB (s : Bool) : Hop (opB s) := by cases s; exact hopM; exact hopS
structure Cx1 (h0 h : HS) (n : Nat) (L : List (Int × Int)) : Prop where
  ext : Ext h0 h
  na : h.at_ n = some (.dic ((accI L).map kI) ((accI L).map vI))
  nn : h0.nx ≤ n ∧ n < h.nx
theorem Cx1.add {h0 h : HS} {n : Nat} {L : List (Int × Int)} (x : Cx1 h0 h n L) (k v : Int) : Cx1 h0 (h.put n (.dic ((putI (accI L) k ((lookI (accI L) k).getD 0 + v)).map kI) ((putI (accI L) k ((lookI (accI L) k).getD 0 + v)).map vI))) n (L ++ [(k, v)]) := by
  refine ⟨x.ext.put _ x.nn.1, ?_, x.nn⟩
  rw [accI_snoc]
  exact if_pos rfl
theorem rows_fin (op : Int → Int → Int) (gs : List Gs) : (rowsG op gs).map (fun p => (p.1, p.2 / gcs ((rowsG op gs).map (·.2)))) = finP (foundG op gs) := by
  rw [rowsG_eq]
  unfold finP
  rw [gcs_perm ((srtP_perm (foundG op gs)).map (·.2))]
theorem rows_fg {op : Int → Int → Int} (ho : Hop op) {gs : List Gs} (G : ∀ g ∈ gs, Gd g) : Fg gs.length (rowsG op gs) := by
  rw [rowsG_eq]
  exact fg_perm (srtP_perm _) (foundG_fg ho G)
theorem wp_all {s : Bool} {gs : List Gs} (G : ∀ g ∈ gs, Gd g) (hn : gs.length ≤ 3) {K : W → HS → Prop} {E : Nat → HS → Prop} (p : ∀ h', Ext h h' → h'.nx ≤ h.nx + 6 → K (.lst ((finP (foundG (opB s) gs)).map prI)) h') : Wp (f__law_all [.lst (gs.map gW), .bl s] h) K E := by
  refine wp_body ?_
  unfold b__law_all
  walk_at "ev"
  refine wp_sz (by simp [sizeLine]) ?_
  walk_at "ev"
  refine wp_sz (by simp [sizeLine]) ?_
  walk_at "ev"
  refine ws_forP gW (fun d sl h' => Ext h h' ∧ h'.nx = h.nx + d.length ∧ ∃ t3 t5 t6 t7 t10 t11 t12, sl = [some (.lst (gs.map gW)), some (.bl s), some (.lst ((rowsG (opB s) d).map prI)), t3, none, t5, t6, t7, none, none, t10, t11, t12]) ?_ (fun _ _ _ _ => rfl) ?_ ?_
  · exact ⟨Ext.refl h, rfl, none, none, none, none, none, none, none, rfl⟩
  · rintro d g r sl h1 e ⟨x1, fx, t3, t5, t6, t7, t10, t11, t12, rfl⟩
    have Gg := G g (by rw [e]; simp)
    have Gd' : ∀ x ∈ d, Gd x := fun x hx => G x (by rw [e]; simp [hx])
    have FF := rows_fg (hopB s) Gd'
    have dl : d.length + 1 ≤ 3 := by
      have := congrArg List.length e
      rw [List.length_append, List.length_cons] at this
      omega
    have kk := cmb_key (hopB s) Gg FF.key
    walk_at "ev"
    refine ws_forP prI (fun dd sl h' => Cx1 h h' h1.nx (cmb (opB s) dd (wl g)) ∧ h'.nx = h1.nx + 1 ∧ ∃ t6 t7 t10 t11 t12, sl = [some (.lst (gs.map gW)), some (.bl s), some (.lst ((rowsG (opB s) d).map prI)), some (gW g), none, some (.box h1.nx), t6, t7, none, none, t10, t11, t12]) ⟨⟨x1.trans (Ext.new h1 _), if_pos rfl, x1.1, Nat.lt_succ_self _⟩, rfl, t6, t7, t10, t11, t12, rfl⟩ (fun _ _ _ _ => rfl) ?_ ?_
    · rintro dd q rr sl h3 e3 ⟨c3, y3, t6, t7, t10, t11, t12, rfl⟩
      obtain ⟨q1, q2⟩ := q
      walk_at "ev"
      refine wp_eq (weights_eq Gg) ?_
      refine wp_ok ?_
      walk_at "ev"
      refine ws_forP prI (fun ee sl h' => Cx1 h h' h1.nx (cmb (opB s) dd (wl g) ++ ee.map fun z => (opB s q1 z.1, q2 * z.2)) ∧ h'.nx = h1.nx + 1 ∧ ∃ t10 t11 t12, sl = [some (.lst (gs.map gW)), some (.bl s), some (.lst ((rowsG (opB s) d).map prI)), some (gW g), none, some (.box h1.nx), some (.int q1), some (.int q2), none, none, t10, t11, t12]) ⟨by rw [List.map_nil, List.append_nil]; exact c3, y3, t10, t11, t12, rfl⟩ (fun _ _ _ _ => rfl) ?_ ?_
      · rintro ee z r2 sl h4 e4 ⟨c4, y4, t10, t11, t12, rfl⟩
        obtain ⟨z1, z2⟩ := z
        have hz := wl_mem Gg (p := (z1, z2)) (by rw [e4]; simp)
        obtain ⟨nd4, l4⟩ := pre_key (n := d.length + 1) (p := (q1, q2)) kk e3 e4
        have l4 : (accI (cmb (opB s) dd (wl g) ++ ee.map fun z => (opB s q1 z.1, q2 * z.2))).length ≤ 20 * (d.length + 1) + 1 := l4
        walk_at "ev"
        refine wp_mono (K := fun w h1 => w = .int (opB s q1 z1) ∧ h1 = h4) (E := NoE) ?_ (fun w h1 ⟨e1, e2⟩ => ?_) (fun _ _ z => z.elim)
        · cases s with
          | true =>
            refine wp_pos rfl ?_
            walk_at "ev"
            exact ⟨rfl, rfl⟩
          | false =>
            refine wp_neg (by decide) ?_
            walk_at "ev"
            exact wp_max2 ⟨rfl, rfl⟩
        · subst e1; subst e2
          walk_at "ev"
          refine ⟨⟨_, dview_box c4.na⟩, ?_⟩
          walk_at "ev"
          refine ⟨_, dget_I (dview_box c4.na) (opB s q1 z1), ?_⟩
          rw [getD_int]
          walk_at "ev"
          refine wp_mul (.inr (by have := hz.2.2.2; simp only at this; omega)) ?_
          walk_at "ev"
          refine wp_setI c4.na nd4 (by unfold sizeLine; omega) ?_
          refine ⟨?_, y4, some (.int z1), some (.int z2), some (.int (opB s q1 z1)), rfl⟩
          have := c4.add (opB s q1 z1) (q2 * z2)
          rw [List.append_assoc] at this
          rw [List.map_append]
          exact this
      · rintro sl h4 ⟨c4, y4, t10, t11, t12, rfl⟩
        refine ⟨?_, y4, some (.int q1), some (.int q2), t10, t11, t12, rfl⟩
        rw [cmb_snoc]
        exact c4
    · rintro sl h3 ⟨c3, y3, t6, t7, t10, t11, t12, rfl⟩
      have FS := fg_step (hopB s) Gg FF
      have fl := fg_len FS
      have ef : rowsG (opB s) (d ++ [g]) = srtP (accI (cmb (opB s) (rowsG (opB s) d) (wl g))) := by unfold rowsG; rw [List.foldl_append]; rfl
      walk_at "ev"
      refine wp_sortItems (sg := accI (cmb (opB s) (rowsG (opB s) d) (wl g))) ?_
      walk_at "ev"
      refine ⟨dview_box c3.na, by unfold sizeLine; omega, ?_⟩
      rw [ef]
      exact ⟨c3.ext, by rw [List.length_append, y3, fx]; simp; omega, some (gW g), some (.box h1.nx), t6, t7, t10, t11, t12, rfl⟩
  · rintro sl h1 ⟨x1, fx, t3, t5, t6, t7, t10, t11, t12, rfl⟩
    have FF := rows_fg (hopB s) G
    have gb := gcs_bd FF hn
    have rf := rows_fin (opB s) gs
    generalize rowsG (opB s) gs = R at FF gb rf
    walk_at "ev"
    refine ws_forP prI (fun dd sl h' => h' = h1 ∧ ∃ t6 t7 t8 t9, sl = [some (.lst (gs.map gW)), some (.bl s), some (.lst (R.map prI)), t3, some (.int (gcs (dd.map (·.2)))), t5, t6, t7, t8, t9, t10, t11, t12]) ⟨rfl, t6, t7, none, none, rfl⟩ (fun _ _ _ _ => rfl) ?_ ?_
    · rintro dd m rr sl h3 e3 ⟨rfl, t6, t7, t8, t9, rfl⟩
      have hm : m ∈ R := by rw [e3]; simp
      have h1m := FF.pos m hm
      have h2m := gb.2.2 m hm
      obtain ⟨m1, m2⟩ := m
      simp only at h1m h2m
      have nn : ∀ (l : List Int), 0 ≤ gcs l := by
        have : ∀ (l : List Int) (a : Int), 0 ≤ a → 0 ≤ l.foldl gcI a := by
          intro l
          induction l with
          | nil => intro a ha; exact ha
          | cons x l ih => intro a _; exact ih _ (gcI_nonneg _ _)
        exact fun l => this l 0 (Int.le_refl 0)
      walk_at "ev"
      refine ws_gcdL rfl rfl (by decide) (nn _) (by omega) (by omega) ?_
      walk_at "ev"
      refine ⟨rfl, some (.int m1), some (.int m2), some (.int (gcI (gcs (dd.map (·.2))) m2)), some (.int 0), ?_⟩
      have : gcs ((dd ++ [(m1, m2)]).map (·.2)) = gcI (gcs (dd.map (·.2))) m2 := by unfold gcs; rw [List.map_append, List.foldl_append]; rfl
      rw [this]
      rfl
    · rintro sl h3 ⟨rfl, t6, t7, t8, t9, rfl⟩
      walk_at "ev"
      refine wp_lcX prI (fun _ => true) (fun q => prI (q.1, q.2 / gcs (R.map (·.2)))) (by have := fg_len FF; unfold sizeLine; omega) rfl (fun q hq => ?_) ?_
      · obtain ⟨q1, q2⟩ := q
        walk_at "ev"
        refine ⟨rfl, fun _ => ?_, rfl⟩
        walk_at "ev"
        refine wp_div ⟨gb.1, gb.2.1⟩ ?_
        walk_at "ev"
        refine wp_sz (by simp [sizeLine]) ?_
        exact ⟨rfl, rfl⟩
      · rw [List.filter_eq_self.mpr (fun _ _ => rfl)]
        walk_at "ev"
        have := p h3 x1 (by omega)
        rw [← rf, List.map_map] at this
        exact this

end K03
end

/-! Km1 -/
section
set_option Elab.async false
set_option linter.all false
set_option maxRecDepth 100000
set_option maxHeartbeats 4000000
namespace K03
open PySem PySem.Spec L2 Pk
local macro_rules | `(tactic| walk_at "ev1") => `(tactic| with_reducible first
  | refine wp_var rfl ?_ | refine wp_c ?_ | refine wp_bin ?_ | refine wp_un ?_ | refine wp_asB ?_ | refine wp_tval ?_ | refine wp_chain_ll ?_ | refine wp_chain_tt ?_ | refine wp_chain ?_ | refine wp_tand ?_ | refine wp_tor ?_ | refine wp_tnot ?_
  | refine wp_and ?_ | refine wp_or ?_ | refine wp_not ?_ | refine wp_if ?_ | refine wp_anil ?_ | refine wp_acons ?_ | refine wp_tup ?_ | refine wp_lst ?_ | refine wp_mkLf ?_ | refine wp_mkLt ?_ | refine wp_mkDf ?_ | refine wp_mkDt ?_
  | refine wp_add ?_ | refine wp_sub ?_ | refine wp_neg' ?_ | refine wp_kadd ?_ | refine wp_ksub ?_ | refine wp_lt ?_ | refine wp_le ?_ | refine wp_gt ?_ | refine wp_ge ?_ | refine wp_eqi ?_ | refine wp_nei ?_ | refine wp_eqs ?_ | refine wp_nes ?_ | refine wp_eqb ?_ | refine wp_neb ?_
  | refine wp_is ?_ | refine wp_isN ?_ | refine wp_callB ?_ | refine wp_call ?_ | refine wp_go rfl ?_ | refine wp_meth ?_ | refine wp_make ?_ | refine wp_told ?_ | refine wp_get2 ?_
  | refine ws_nil ?_ | refine ws_seq ?_ | refine ws_expr ?_ | refine ws_ret ?_ | refine ws_retN ?_ | refine ws_if ?_ | refine ws_raise ?_ | refine ws_asgN ?_ | refine ws_asg ?_ | refine gp_n ?_ | refine gp_tup rfl ?_ | refine gp_cons ?_ | refine gp_nil ?_
  | refine ws_par ?_ | refine ws_par3 ?_ | refine ws_aug rfl ?_ | refine ws_fld ?_ | refine ws_sub ?_ | refine ws_del ?_ | refine ws_for ?_ | refine wp_lc ?_ | refine ip_seq ?_ | refine ip_r1 ?_ | refine ip_r2 ?_ | refine ip_r3 ?_
  | refine wp_tyes ?_ | refine wp_ok ?_ | refine wp_tupR ?_ | refine wp_zipL ?_ | refine tvT ?_ | refine tvK ?_ | refine wp_cut ?_ | refine wp_pno ?_ | refine wp_psome ?_ | refine wp_cutScr ?_ | refine wp_cutL ?_ | refine wp_cutT ?_ | refine wp_lenL ?_ | refine wp_lenT ?_ | refine wp_intI ?_ | refine wp_intB ?_ | refine wp_absI ?_ | refine wp_listT ?_ | refine wp_listL ?_ | refine wp_tupleL ?_ | refine wp_tupleT ?_ | refine wp_sumL ?_ | refine wp_any ?_ | refine wp_all ?_ | refine wp_sumG ?_ | refine wp_tupG ?_ | refine wp_bind ?_ | refine is1 ?_ | refine is2 ?_ | refine is3 ?_ | refine isI ?_ | refine isS ?_ | refine svL ?_ | refine svT ?_ | refine svK ?_ | refine lvL ?_ | refine wp_lm ?_ | refine wp_dc ?_ | refine wp_count ?_ | refine wp_chain3l ?_ | refine ip_items ?_ | refine ip_vals ?_ | refine ip_keysI ?_ | refine wp_vals ?_ | refine wp_sortItems ?_ | refine ip_enum ?_ | refine ip_txt ?_)
local macro_rules | `(tactic| walk_at "ev") => `(tactic| repeat walk_at "ev1")
variable {h : HS}
/-- dice: three whole numbers in a box -/
def Dc (h : HS) (n : Nat) : Prop := ∃ a b c : Int, h.at_ n = some (.lst [.int a, .int b, .int c])
theorem wp_setL {h : HS} {n : Nat} {ws : List W} {i : Int} {y : W} {k : Nat} {N : HS → Prop} (e : h.at_ n = some (.lst ws)) (ei : ixN ws.length i = some k) (p : N (h.put n (.lst (ws.set k y)))) : ∃ h4, setIx (.box n) (.int i) y h = some h4 ∧ N h4 := by
  refine ⟨_, ?_, p⟩
  unfold setIx
  simp only [e, ei]
theorem wp_roll {n : Nat} {many : Int} {K : W → HS → Prop} {E : Nat → HS → Prop} (hd : Dc h n) (h1 : 1 ≤ many) (h2 : many ≤ 100000000)
    (p : ∀ r h', 0 ≤ r → r < many → Dc h' n → (∀ m, m ≠ n → h'.at_ m = h.at_ m) → h'.nx = h.nx → K (.int r) h') : Wp (n__law_roll 4 [.box n, .int many] h) K E := by
  obtain ⟨a, b, c, hd⟩ := hd
  have fin : ∀ {h' : HS} {x y z : Int} {r : Int}, 0 ≤ r → r < many → h'.at_ n = some (.lst [.int x, .int y, .int z]) → (∀ m, m ≠ n → h'.at_ m = h.at_ m) → h'.nx = h.nx → K (.int r) h' := fun r0 r1 e f g => p _ _ r0 r1 ⟨_, _, _, e⟩ f g
  show Wp (bodyM 3 (b__law_roll (n__law_roll 3)) [.box n, .int many] h) K E
  refine wp_body ?_
  unfold b__law_roll
  have ix0 : ∀ {K : W → HS → Prop} {E : Nat → HS → Prop} {h' : HS} {x y z : Int}, h'.at_ n = some (.lst [.int x, .int y, .int z]) → K (.int x) h' → Wp (wIx (.box n) (.int 0) h') K E := fun e p => wp_ixL (sview_boxL e) (fun _ q => by cases q) rfl p
  have ix1 : ∀ {K : W → HS → Prop} {E : Nat → HS → Prop} {h' : HS} {x y z : Int}, h'.at_ n = some (.lst [.int x, .int y, .int z]) → K (.int y) h' → Wp (wIx (.box n) (.int 1) h') K E := fun e p => wp_ixL (sview_boxL e) (fun _ q => by cases q) rfl p
  have ix2 : ∀ {K : W → HS → Prop} {E : Nat → HS → Prop} {h' : HS} {x y z : Int}, h'.at_ n = some (.lst [.int x, .int y, .int z]) → K (.int z) h' → Wp (wIx (.box n) (.int 2) h') K E := fun e p => wp_ixL (sview_boxL e) (fun _ q => by cases q) rfl p
  have pn : ∀ {h' : HS} {ct : Ct}, (h'.put n ct).at_ n = some ct := fun {h' ct} => if_pos rfl
  have po : ∀ {h' : HS} {ct : Ct} {m : Nat}, m ≠ n → (h'.put n ct).at_ m = h'.at_ m := fun {h' ct m} e => if_neg e
  refine ws_seq (ws_if (wp_mono (K := fun k h' => k = decide (c = 2 ∨ (c = 1 ∧ 0 < a)) ∧ h' = h) (E := NoE) ?_ (fun k h' ⟨e1, e2⟩ => ?_) (fun _ _ z => z.elim)))
  · walk_at "ev"
    refine ix2 hd ?_
    walk_at "ev"
    by_cases c2 : c = 2
    · refine wp_pos (by simpa using c2) (wp_ok ⟨by simp [c2], rfl⟩)
    · refine wp_neg (by simpa using c2) ?_
      walk_at "ev"
      refine ix2 hd ?_
      walk_at "ev"
      by_cases c1 : c = 1
      · refine wp_pos (by simpa using c1) ?_
        walk_at "ev"
        refine ix0 hd ?_
        walk_at "ev"
        exact ⟨by simp [c1], rfl⟩
      · refine wp_neg (by simpa using c1) (wp_ok ⟨by simp [c1, c2], rfl⟩)
  subst e1 e2
  by_cases t : c = 2 ∨ (c = 1 ∧ 0 < a)
  · refine ws_pos (by simpa using t) ?_
    walk_at "ev"
    refine ix0 hd ?_
    walk_at "ev"
    refine wp_mod (by omega) ?_
    walk_at "ev"
    refine ix0 hd ?_
    walk_at "ev"
    refine wp_div ⟨by omega, by omega⟩ ?_
    walk_at "ev"
    refine wp_setL hd (k := 0) rfl ?_
    walk_at "ev"
    exact fin (Int.emod_nonneg _ (by omega)) (Int.emod_lt_of_pos _ (by omega)) pn (fun m e => po e) rfl
  · refine ws_neg (by simpa using t) ?_
    walk_at "ev"
    refine wp_setL hd (k := 2) rfl ?_
    walk_at "ev"
    refine ws_neg (by simp; omega) ?_
    walk_at "ev"
    refine ix0 pn ?_
    walk_at "ev"
    refine wp_mul (.inr (by decide)) ?_
    walk_at "ev"
    refine ix1 pn ?_
    walk_at "ev"
    refine wp_mul (.inr (by decide)) ?_
    walk_at "ev"
    refine wp_mod (by decide) ?_
    walk_at "ev"
    refine wp_setL pn (k := 0) rfl ?_
    walk_at "ev"
    refine ix1 pn ?_
    walk_at "ev"
    refine wp_setL pn (k := 1) rfl ?_
    walk_at "ev"
    refine ix0 pn ?_
    walk_at "ev"
    refine wp_div (by decide) ?_
    walk_at "ev"
    refine wp_mod (by omega) ?_
    exact fin (Int.emod_nonneg _ (by omega)) (Int.emod_lt_of_pos _ (by omega)) pn (fun m e => by rw [po e, po e, po e]) rfl

theorem wp_dice {cell : Int} {K : W → HS → Prop} {E : Nat → HS → Prop} (p : ∀ a b c : Int, K (.box h.nx) (h.new (.lst [.int a, .int b, .int c]))) : Wp (f__law_dice [.int cell] h) K E := by
  refine wp_body ?_
  unfold b__law_dice
  walk_at "ev"
  by_cases t : 0 - 10 < cell ∧ cell < 10
  · refine ws_pos (by simpa using t) ?_
    walk_at "ev"
    refine wp_sz (by simp [sizeLine]) ?_
    walk_at "ev"
    exact p _ _ _
  · refine ws_neg (by simpa using t) ?_
    walk_at "ev"
    refine wp_mod (by decide) ?_
    walk_at "ev"
    refine wp_pow (by decide) ?_
    walk_at "ev"
    refine wp_sz (by simp [sizeLine]) ?_
    walk_at "ev"
    exact p _ _ _
theorem wp_rounds {ns : List Int} {K : W → HS → Prop} {E : Nat → HS → Prop} (p : ∀ h', Dc h' 0 → h'.nx = 1 → K (.lst [.box 0]) h') : Wp (f__law_rounds [.scr ns, .int 1] h0) K E := by
  refine wp_body ?_
  unfold b__law_rounds
  refine ws_seq (ws_asgN ?_)
  walk_at "ev"
  have rest : ∀ (x : Int), Ws (sRet (eLc false [3] (iSeq (eVar 2)) (gN 3) tYesx (eCall 1 f__law_dice [] (aCons (eVar 3) aNil))) [some (.scr ns), some (.int 1), some (.lst [.int x]), none] h0) (fun _ h => K .non h) K (fun _ _ => False) (fun _ _ => False) E := by
    intro x
    walk_at "ev"
    refine wp_lcLoopI (fun i acc h' => (i = 0 ∧ acc = [] ∧ h' = h0) ∨ (i = 1 ∧ acc = [.box 0] ∧ Dc h' 0 ∧ h'.nx = 1)) (.inl ⟨rfl, rfl, rfl⟩) (by simp [sizeLine]) (fun _ _ _ _ _ => rfl) ?_ ?_
    · rintro i w acc h' e (⟨rfl, rfl, rfl⟩ | ⟨rfl, rfl, d, n⟩)
      · cases e
        walk_at "ev"
        refine ⟨fun _ => ?_, fun z => by cases z⟩
        walk_at "ev"
        refine wp_dice fun a b c => ?_
        exact .inr ⟨rfl, rfl, ⟨a, b, c, rfl⟩, rfl⟩
      · cases e
    · rintro acc h' (⟨z, rfl, rfl⟩ | ⟨_, rfl, d, n⟩)
      · cases z
      · walk_at "ev"
        exact p h' d n
  cases ns with
  | nil =>
    walk_at "ev"
    refine wp_sz (by simp [sizeLine]) ?_
    walk_at "ev"
    refine wp_eqw (b := true) (weq_lst rfl) ?_
    walk_at "ev"
    refine ws_pos rfl ?_
    walk_at "ev"
    refine wp_sz (by simp [sizeLine]) ?_
    walk_at "ev"
    exact rest 0
  | cons n ns =>
    walk_at "ev"
    refine wp_sz (by simp [sizeLine]) ?_
    walk_at "ev"
    have e : cutW (((n :: ns)).map W.int) none (some 1) = [.int n] := by
      unfold cutW HT.sIx
      simp
    rw [e]
    refine wp_eqw (b := false) (by kernel_rfl) ?_
    walk_at "ev"
    refine ws_neg (by decide) (ws_nil ?_)
    exact rest n

end K03
end

/-! Km8 -/
section
set_option Elab.async false
set_option linter.all false
set_option maxRecDepth 100000
set_option maxHeartbeats 4000000
namespace K03
open PySem PySem.Spec L2 Pk
local macro_rules | `(tactic| walk_at "ev1") => `(tactic| with_reducible first
  | refine wp_var rfl ?_ | refine wp_c ?_ | refine wp_bin ?_ | refine wp_un ?_ | refine wp_asB ?_ | refine wp_tval ?_ | refine wp_chain_ll ?_ | refine wp_chain_tt ?_ | refine wp_chain ?_ | refine wp_tand ?_ | refine wp_tor ?_ | refine wp_tnot ?_
  | refine wp_and ?_ | refine wp_or ?_ | refine wp_not ?_ | refine wp_if ?_ | refine wp_anil ?_ | refine wp_acons ?_ | refine wp_tup ?_ | refine wp_lst ?_ | refine wp_mkLf ?_ | refine wp_mkLt ?_ | refine wp_mkDf ?_ | refine wp_mkDt ?_
  | refine wp_add ?_ | refine wp_sub ?_ | refine wp_neg' ?_ | refine wp_kadd ?_ | refine wp_ksub ?_ | refine wp_lt ?_ | refine wp_le ?_ | refine wp_gt ?_ | refine wp_ge ?_ | refine wp_eqi ?_ | refine wp_nei ?_ | refine wp_eqs ?_ | refine wp_nes ?_ | refine wp_eqb ?_ | refine wp_neb ?_
  | refine wp_is ?_ | refine wp_isN ?_ | refine wp_callB ?_ | refine wp_call ?_ | refine wp_go rfl ?_ | refine wp_meth ?_ | refine wp_make ?_ | refine wp_told ?_ | refine wp_get2 ?_
  | refine ws_nil ?_ | refine ws_seq ?_ | refine ws_expr ?_ | refine ws_ret ?_ | refine ws_retN ?_ | refine ws_if ?_ | refine ws_raise ?_ | refine ws_asgN ?_ | refine ws_asg ?_ | refine gp_n ?_ | refine gp_tup rfl ?_ | refine gp_cons ?_ | refine gp_nil ?_
  | refine ws_par ?_ | refine ws_par3 ?_ | refine ws_aug rfl ?_ | refine ws_fld ?_ | refine ws_sub ?_ | refine ws_del ?_ | refine ws_for ?_ | refine wp_lc ?_ | refine ip_seq ?_ | refine ip_r1 ?_ | refine ip_r2 ?_ | refine ip_r3 ?_
  | refine wp_tyes ?_ | refine wp_ok ?_ | refine wp_tupR ?_ | refine wp_zipL ?_ | refine tvT ?_ | refine tvK ?_ | refine wp_cut ?_ | refine wp_pno ?_ | refine wp_psome ?_ | refine wp_cutScr ?_ | refine wp_cutL ?_ | refine wp_cutT ?_ | refine wp_lenL ?_ | refine wp_lenT ?_ | refine wp_intI ?_ | refine wp_intB ?_ | refine wp_absI ?_ | refine wp_listT ?_ | refine wp_listL ?_ | refine wp_tupleL ?_ | refine wp_tupleT ?_ | refine wp_sumL ?_ | refine wp_any ?_ | refine wp_all ?_ | refine wp_sumG ?_ | refine wp_tupG ?_ | refine wp_bind ?_ | refine is1 ?_ | refine is2 ?_ | refine is3 ?_ | refine isI ?_ | refine isS ?_ | refine svL ?_ | refine svT ?_ | refine svK ?_ | refine lvL ?_ | refine wp_dnewT ?_ | refine wp_dnewF ?_ | refine wp_lm ?_ | refine wp_dc ?_ | refine wp_count ?_ | refine wp_chain3l ?_ | refine ip_items ?_ | refine ip_vals ?_ | refine ip_keysI ?_ | refine wp_vals ?_ | refine wp_sortItems ?_ | refine ip_enum ?_ | refine ip_txt ?_)
local macro_rules | `(tactic| walk_at "ev") => `(tactic| repeat walk_at "ev1")
variable {h : HS}
theorem wp_chance {g : Gs} (G : Gd g) {d : Int} {K : W → HS → Prop} {E : Nat → HS → Prop} (p : ∀ h', Ext h h' → h'.nx ≤ h.nx + 6 → K (lst2 ((((wl g).filter fun p => decide (p.1 ≤ d)).map (·.2)).sum) (((wl g).map (·.2)).sum)) h') : Wp (f_chance_by [gW g, .int d] h) K E := by
  have ws := wl_sum G
  have l13 := (gLen_le G).1
  refine wp_body ?_
  unfold b_chance_by
  walk_at "ev"
  refine wp_chances G fun h1 x1 n1 a1 => ?_
  walk_at "ev"
  refine ip_items (sg := wl g) ?_
  walk_at "ev"
  refine ⟨dview_box a1, ?_⟩
  have x2 : Ext h (lkW (.box h.nx) h1) := x1.lk fun m e => by cases e; exact Nat.le_refl _
  have d2 : Dv (lkW (.box h.nx) h1) (.box h.nx) (wl g) := dview_lk.trans (dview_box a1)
  have nl : (lkW (.box h.nx) h1).nx ≤ h.nx + 6 := by rw [nx_lk]; omega
  generalize lkW (.box h.nx) h1 = h2 at x2 d2 nl
  refine wp_sumX prI (fun p => decide (p.1 ≤ d)) (fun p => p.2) (by rw [wl_len]; omega) (fun q hq => by have := (wl_mem G hq).2.2.2; omega) rfl (fun q hq => ?_) ?_
  · obtain ⟨q1, q2⟩ := q
    unfold El
    walk_at "ev"
    exact ⟨rfl, rfl, fun _ => wp_var rfl ⟨rfl, rfl⟩⟩
  · walk_at "ev"
    refine wp_vals (sg := wl g) ?_
    walk_at "ev"
    refine ⟨d2, _, rfl, ?_⟩
    walk_at "ev"
    refine wp_eq (least_eq (by omega) (by omega)) ?_
    exact wp_ok (p h2 x2 nl)
def firstD (part whole : Int) : Int → List (Int × Int) → Option Int
  | _, [] => none
  | a, p :: r => if part * whole ≤ 100 * (a + p.2) then some p.1 else firstD part whole (a + p.2) r
theorem firstD_cons (part whole a : Int) (p : Int × Int) (r : List (Int × Int)) : firstD part whole a (p :: r) = if part * whole ≤ 100 * (a + p.2) then some p.1 else firstD part whole (a + p.2) r := rfl
theorem firstD_none {part whole : Int} : ∀ (l : List (Int × Int)) (a : Int), firstD part whole a l = none → l = [] ∨ 100 * (a + (l.map (·.2)).sum) < part * whole
  | [], _, _ => .inl rfl
  | p :: r, a, e => by
    unfold firstD at e
    split at e
    · cases e
    · rename_i c
      right
      rw [List.map_cons, List.sum_cons]
      rcases firstD_none r _ e with z | z
      · subst z
        simp only [List.map_nil, List.sum_nil]
        omega
      · omega
theorem wp_day {g : Gs} (G : Gd g) {part : Int} (p1 : 1 ≤ part) (p2 : part ≤ 100) {K : W → HS → Prop} {E : Nat → HS → Prop} (p : ∀ h' D, Ext h h' → h'.nx ≤ h.nx + 6 → firstD part (((wl g).map (·.2)).sum) 0 (wl g) = some D → K (.int D) h') : Wp (f_day_for [gW g, .int part] h) K E := by
  have ws := wl_sum G
  refine wp_body ?_
  unfold b_day_for
  refine ws_seq (ws_if (wp_tnot (wp_tval (wp_chain_ll ?_))))
  walk_at "ev"
  refine ws_neg (by simp; omega) ?_
  walk_at "ev"
  refine wp_chances G fun h1 x1 n1 a1 => ?_
  walk_at "ev"
  refine wp_vals (sg := wl g) ?_
  walk_at "ev"
  refine ⟨dview_box a1, _, rfl, ?_⟩
  walk_at "ev"
  refine ip_items (sg := wl g) ?_
  walk_at "ev"
  refine ⟨dview_box a1, ?_⟩
  have x2 : Ext h (lkW (.box h.nx) h1) := x1.lk fun m e => by cases e; exact Nat.le_refl _
  have nl : (lkW (.box h.nx) h1).nx ≤ h.nx + 6 := by rw [nx_lk]; omega
  generalize lkW (.box h.nx) h1 = h2 at x2 nl
  generalize hW : ((wl g).map (·.2)).sum = wh at ws p
  refine ws_forP prI (fun d sl h' => h' = h2 ∧ (∀ r, wl g = d ++ r → firstD part wh 0 (wl g) = firstD part wh ((d.map (·.2)).sum) r) ∧ ∃ t5 t6, sl = [some (gW g), some (.int part), some (.box h.nx), some (.int wh), some (.int ((d.map (·.2)).sum)), t5, t6]) ⟨rfl, fun r e => by rw [List.nil_append] at e; rw [← e]; rfl, none, none, rfl⟩ (fun _ _ _ _ => rfl) ?_ ?_
  · rintro d q r sl h3 e ⟨rfl, inv, t5, t6, rfl⟩
    obtain ⟨q1, q2⟩ := q
    have hq := wl_mem G (p := (q1, q2)) (by rw [e]; simp)
    walk_at "ev"
    refine wp_mul (.inl (by decide)) ?_
    walk_at "ev"
    refine wp_mul (.inl (by omega)) ?_
    walk_at "ev"
    have st := inv _ e
    rw [firstD_cons] at st
    by_cases c : part * wh ≤ 100 * ((d.map (·.2)).sum + q2)
    · refine ws_pos (by simpa using c) ?_
      walk_at "ev"
      refine p h3 q1 x2 nl ?_
      rw [if_pos c] at st
      exact st
    · refine ws_neg (by simpa using c) (ws_nil ?_)
      rw [if_neg c] at st
      refine ⟨rfl, fun r' e' => ?_, some (.int q1), some (.int q2), ?_⟩
      · have er : r = r' := by
          rw [e, List.append_assoc] at e'
          have := List.append_cancel_left e'
          simpa using this
        rw [← er, List.map_append, List.sum_append]
        simpa using st
      · rw [List.map_append, List.sum_append]
        simp
  · rintro sl h3 ⟨rfl, inv, t5, t6, rfl⟩
    exfalso
    have st := inv [] (by simp)
    have nn : firstD part wh 0 (wl g) = none := st
    rcases firstD_none _ _ nn with z | z
    · exact wl_ne G z
    · rw [hW, Int.zero_add] at z
      have := Int.mul_le_mul_of_nonneg_right p2 (show 0 ≤ wh by omega)
      omega
/-- a table of weights -/
structure Tb (T : List (Int × Int)) : Prop where
  nd : NdI T
  ne : T ≠ []
  key : ∀ p ∈ T, 0 ≤ p.1 ∧ p.1 ≤ 60
  val : ∀ p ∈ T, 1 ≤ p.2 ∧ p.2 < 1073741824
  sum : 0 < (T.map (·.2)).sum ∧ (T.map (·.2)).sum < 1073741824
  len : T.length ≤ 61
theorem gcs_dvd : ∀ (l : List Int) (a x : Int), (x = a ∨ x ∈ l) → l.foldl gcI a ∣ x
  | [], a, x, h => by
    rcases h with rfl | h
    · exact Int.dvd_refl _
    · cases h
  | y :: l, a, x, h => by
    rw [List.foldl_cons]
    rcases h with rfl | h
    · exact Int.dvd_trans (gcs_dvd l _ _ (.inl rfl)) gcI_dvd.1
    · rcases List.mem_cons.mp h with rfl | h
      · exact Int.dvd_trans (gcs_dvd l _ _ (.inl rfl)) gcI_dvd.2
      · exact gcs_dvd l _ _ (.inr h)
theorem finP_tb {n : Nat} {ps : List (Int × Int)} (F : Fg n ps) (hn : n ≤ 3) : Tb (finP ps) := by
  have gb := gcs_bd F hn
  have pm := srtP_perm ps
  have vv : ∀ p ∈ ps, 1 ≤ p.2 / gcs (ps.map (·.2)) ∧ p.2 / gcs (ps.map (·.2)) ≤ p.2 := fun p hp => by
    have dv : gcs (ps.map (·.2)) ∣ p.2 := gcs_dvd _ 0 _ (.inr (List.mem_map.mpr ⟨p, hp, rfl⟩))
    have pp := F.pos p hp
    have le := Int.le_of_dvd (by omega) dv
    refine ⟨?_, Int.ediv_le_self _ (by omega)⟩
    exact (Int.le_ediv_iff_mul_le gb.1).mpr (by omega)
  have mm : ∀ q ∈ finP ps, ∃ p ∈ ps, q = (p.1, p.2 / gcs (ps.map (·.2))) := fun q hq => by
    obtain ⟨p, hp, rfl⟩ := List.mem_map.mp hq
    exact ⟨p, pm.mem_iff.mp hp, rfl⟩
  have sl : ∀ (l : List (Int × Int)) (w : Int), (∀ p ∈ l, p.2 / w ≤ p.2) → ((l.map fun p => (p.1, p.2 / w)).map (·.2)).sum ≤ (l.map (·.2)).sum := by
    intro l w
    induction l with
    | nil => intro _; simp
    | cons p l ih =>
      intro hl
      have := hl p List.mem_cons_self
      have := ih fun q hq => hl q (List.mem_cons_of_mem _ hq)
      simp only [List.map_cons, List.sum_cons] at *
      omega
  have ne : finP ps ≠ [] := fun z => F.ne (by
    have := congrArg List.length z
    unfold finP at this
    rw [List.length_map, pm.length_eq] at this
    exact List.length_eq_zero_iff.mp this)
  have val : ∀ p ∈ finP ps, 1 ≤ p.2 ∧ p.2 < 1073741824 := fun q hq => by
    obtain ⟨p, hp, rfl⟩ := mm q hq
    have := vv p hp
    have := gb.2.2 p hp
    exact ⟨by show 1 ≤ p.2 / _; omega, by show p.2 / _ < _; omega⟩
  refine ⟨finP_nd F.nd, ne, fun q hq => ?_, val, ⟨?_, ?_⟩, ?_⟩
  · obtain ⟨p, hp, rfl⟩ := mm q hq
    have := F.key p hp
    show 0 ≤ p.1 ∧ p.1 ≤ 60
    omega
  · cases e : finP ps with
    | nil => exact absurd e ne
    | cons p r =>
      rw [e] at val
      have := sum_nn (ps := r) fun q hq => (val q (List.mem_cons_of_mem _ hq)).1
      have := (val p List.mem_cons_self).1
      rw [List.map_cons, List.sum_cons]
      omega
  · have := sl (srtP ps) (gcs (ps.map (·.2))) fun p hp => (vv p (pm.mem_iff.mp hp)).2
    rw [sum_perm (pm.map (·.2))] at this
    have hs := F.sum
    have pw : (624 : Int) ^ n ≤ 624 ^ 3 := by
      rcases n with _ | _ | _ | _ | n
      · decide
      · decide
      · decide
      · decide
      · omega
    have : ((finP ps).map (·.2)).sum ≤ (ps.map (·.2)).sum := this
    omega
  · have := fg_len F
    unfold finP
    rw [List.length_map, pm.length_eq]
    omega
theorem mean_in_eq {T : List (Int × Int)} (B : Tb T) : f_mean_in [.dic (T.map kI) (T.map vI)] h = .ok (lst2 ((T.map fun p => p.1 * p.2).sum) ((T.map (·.2)).sum)) h := by
  have dv : Dv h (.dic (T.map kI) (T.map vI)) T := rfl
  obtain ⟨m, em, m1⟩ : ∃ m, minI (T.map (·.2)) = some m ∧ 1 ≤ m := by
    cases e : T with
    | nil => exact absurd e B.ne
    | cons p r =>
      have := (foldl_min (r.map (·.2)) p.2).1
      refine ⟨_, rfl, ?_⟩
      obtain ⟨q, hq, e2⟩ := List.mem_map.mp (show _ ∈ (p :: r).map (·.2) from this)
      rw [← e2]
      exact (B.val q (by rw [e]; exact hq)).1
  refine eq_wp (wp_body ?_)
  unfold b_mean_in
  walk_at "ev"
  refine wp_eq (show wEq2 (.dic (T.map kI) (T.map vI)) (.dic [] []) h = .ok (.bl false) h from ?_) (wp_ok ?_)
  · unfold wEq2
    rw [if_pos]
    unfold difLen
    simp only [dview]
    rw [flat_I]
    simp only [flatK, List.all_nil, Bool.true_and, List.length_map, List.length_nil]
    cases e : T with
    | nil => exact absurd e B.ne
    | cons p r => rfl
  walk_at "ev"
  refine wp_neg (by decide) ?_
  walk_at "ev"
  refine wp_vals (sg := T) ?_
  walk_at "ev"
  refine ⟨dv, m, em, ?_⟩
  walk_at "ev"
  refine ws_neg (by simp; omega) ?_
  walk_at "ev"
  refine ip_items (sg := T) ?_
  walk_at "ev"
  refine ⟨dv, ?_⟩
  have hm : ∀ q ∈ T, 0 ≤ q.1 * q.2 ∧ q.1 * q.2 ≤ 60 * 1073741824 := fun q hq => by
    have a := B.key q hq
    have b := B.val q hq
    exact ⟨Int.mul_nonneg a.1 (by omega), mul_le8 a.1 a.2 (by omega) (by omega)⟩
  refine wp_sumX prI (fun _ => true) (fun p => p.1 * p.2) (by have := B.len; omega) (fun q hq => by have := hm q hq; omega) rfl (fun q hq => ?_) ?_
  · obtain ⟨q1, q2⟩ := q
    have b := B.key _ hq
    unfold El
    walk_at "ev"
    refine ⟨rfl, rfl, fun _ => ?_⟩
    walk_at "ev"
    refine wp_mul (.inl (by simp only at b; omega)) ?_
    exact ⟨rfl, rfl⟩
  · rw [List.filter_eq_self.mpr (fun _ _ => rfl)]
    walk_at "ev"
    refine wp_vals (sg := T) ?_
    walk_at "ev"
    refine ⟨dv, _, rfl, ?_⟩
    walk_at "ev"
    refine wp_eq (least_eq B.sum.1 B.sum.2) ?_
    rfl
theorem learned_eq {told took : List Int} (l : told.length = took.length) (ne : told ≠ []) (t1 : ∀ x ∈ told, 0 ≤ x) (t2 : ∀ x ∈ took, 0 ≤ x) (s1 : 1 ≤ told.sum) (s2 : told.sum < 1073741824) (sz : told.length ≤ 1000) : f_learned [.lst (told.map W.int), .lst (took.map W.int)] h = .ok (lst2 took.sum told.sum) h := by
  obtain ⟨m, em, m1⟩ : ∃ m, minI (told ++ took) = some m ∧ 0 ≤ m := by
    cases e : told with
    | nil => exact absurd e ne
    | cons p r =>
      have := (foldl_min (r ++ took) p).1
      refine ⟨_, rfl, ?_⟩
      rcases List.mem_append.mp (show _ ∈ (p :: r) ++ took from this) with z | z
      · exact t1 _ (by rw [e]; exact z)
      · exact t2 _ z
  refine eq_wp (wp_body ?_)
  unfold b_learned
  walk_at "ev"
  refine wp_neg (by simp [l]) ?_
  walk_at "ev"
  refine wp_neg (by simpa using ne) ?_
  walk_at "ev"
  refine wp_neg (by simp; omega) ?_
  walk_at "ev"
  refine wp_addL (by simp [sizeLine]; omega) ?_
  walk_at "ev"
  rw [← List.map_append]
  refine wp_min1 em ?_
  walk_at "ev"
  refine ws_neg (by simp; omega) ?_
  walk_at "ev"
  refine wp_eq (least_eq (by omega) s2) ?_
  rfl

/-! ### what is agreed -/
def cnt (ns : List Int) : List (Int × Int) := accI (ns.map fun n => (n, 1))
theorem totI_count (k : Int) : ∀ ns : List Int, totI (ns.map fun n => (n, 1)) k = (ns.count k : Nat)
  | [] => rfl
  | n :: ns => by
    rw [List.map_cons, totI_cons, totI_count k ns, List.count_cons]
    by_cases c : n = k
    · subst c; simp; omega
    · have c2 : (n == k) = false := by simpa using c
      rw [if_neg c, c2]
      simp
theorem mem_cnt {ns : List Int} {p : Int × Int} : p ∈ cnt ns ↔ p.1 ∈ ns ∧ p.2 = (ns.count p.1 : Nat) := by
  unfold cnt
  rw [mem_acc, totI_count, List.map_map]
  have : (ns.map ((fun x : Int × Int => x.1) ∘ fun n => (n, 1))) = ns := by
    have : ((fun x : Int × Int => x.1) ∘ fun n : Int => (n, (1 : Int))) = id := rfl
    rw [this, List.map_id]
  rw [this]
theorem max_ex {l : List Int} (ne : l ≠ []) : ∃ m, maxI l = some m ∧ m ∈ l ∧ ∀ y ∈ l, y ≤ m := by
  cases l with
  | nil => exact absurd rfl ne
  | cons x xs => exact ⟨_, rfl, (foldl_max xs x).1, (foldl_max xs x).2⟩
theorem min_ex {l : List Int} (ne : l ≠ []) : ∃ m, minI l = some m ∧ m ∈ l ∧ ∀ y ∈ l, m ≤ y := by
  cases l with
  | nil => exact absurd rfl ne
  | cons x xs => exact ⟨_, rfl, (foldl_min xs x).1, (foldl_min xs x).2⟩
/-- those that come oftenest -/
def oftn (ns : List Int) (m : Int) : List Int := ns.filter fun k => decide ((ns.count k : Nat) = m)
theorem agreed_eq {ns : List Int} (ne : ns ≠ []) (sz : ns.length ≤ 1000) : ∃ m a b, maxI (ns.map fun k => ((ns.count k : Nat) : Int)) = some m ∧ minI (oftn ns m) = some a ∧ maxI (oftn ns m) = some b ∧
    ∀ {K : W → HS → Prop} {E : Nat → HS → Prop}, (∀ h', Ext h h' → h'.nx ≤ h.nx + 6 → K (.tup [.int a, .int b]) h') → Wp (f_agreed [.lst (ns.map W.int)] h) K E := by
  have ne2 : (ns.map fun k => ((ns.count k : Nat) : Int)) ≠ [] := fun z => ne (List.map_eq_nil_iff.mp z)
  obtain ⟨m, em, m1, m2⟩ := max_ex ne2
  have ne3 : oftn ns m ≠ [] := fun z => by
    obtain ⟨k, hk, e⟩ := List.mem_map.mp m1
    have : k ∈ oftn ns m := List.mem_filter.mpr ⟨hk, by simpa using e⟩
    rw [z] at this
    cases this
  obtain ⟨a, ea, a1, a2⟩ := min_ex ne3
  obtain ⟨b, eb, b1, b2⟩ := max_ex ne3
  refine ⟨m, a, b, em, ea, eb, fun {K E} p => ?_⟩
  have emC : maxI ((cnt ns).map (·.2)) = some m := by
    refine maxI_of ?_ fun y hy => ?_
    · obtain ⟨k, hk, e⟩ := List.mem_map.mp m1
      exact List.mem_map.mpr ⟨(k, m), mem_cnt.mpr ⟨hk, e.symm⟩, rfl⟩
    · obtain ⟨q, hq, rfl⟩ := List.mem_map.mp hy
      obtain ⟨q1, q2⟩ := mem_cnt.mp hq
      exact m2 _ (List.mem_map.mpr ⟨q.1, q1, q2.symm⟩)
  have mo : ∀ k, k ∈ ((cnt ns).map (·.1)).filter (fun k => decide ((lookI (cnt ns) k).getD 0 = m)) ↔ k ∈ oftn ns m := fun k => by
    have lk : k ∈ (cnt ns).map (·.1) → (lookI (cnt ns) k).getD 0 = (ns.count k : Nat) := fun hk => by
      obtain ⟨q, hq, rfl⟩ := List.mem_map.mp hk
      have e := lookI_of_mem (accI_nd _) (d := q.1) (x := q.2) hq
      unfold cnt
      rw [e]
      exact (mem_cnt.mp hq).2
    have kk : k ∈ (cnt ns).map (·.1) ↔ k ∈ ns := by
      constructor
      · intro hk
        obtain ⟨q, hq, rfl⟩ := List.mem_map.mp hk
        exact (mem_cnt.mp hq).1
      · intro hk
        exact List.mem_map.mpr ⟨(k, ((ns.count k : Nat) : Int)), mem_cnt.mpr ⟨hk, rfl⟩, rfl⟩
    unfold oftn
    rw [List.mem_filter, List.mem_filter]
    constructor
    · rintro ⟨z1, z2⟩
      refine ⟨kk.mp z1, ?_⟩
      rw [lk z1] at z2
      exact z2
    · rintro ⟨z1, z2⟩
      refine ⟨kk.mpr z1, ?_⟩
      rw [lk (kk.mpr z1)]
      exact z2
  have cl : (cnt ns).length ≤ ns.length := by
    have := List.Nodup.length_le_of_subset (l₁ := (cnt ns).map (·.1)) (l₂ := ns) (show ((cnt ns).map (·.1)).Nodup from accI_nd _) fun k hk => by
      obtain ⟨q, hq, rfl⟩ := List.mem_map.mp hk
      exact (mem_cnt.mp hq).1
    rwa [List.length_map] at this
  refine wp_body ?_
  unfold b_agreed
  walk_at "ev"
  refine ws_neg (by simpa using ne) ?_
  walk_at "ev"
  refine ws_forP W.int (fun d sl h' => Ext h h' ∧ h'.nx = h.nx + 1 ∧ h'.at_ h.nx = some (.dic ((cnt d).map kI) ((cnt d).map vI)) ∧ ∃ t, sl = [some (.lst (ns.map W.int)), some (.box h.nx), t, none]) ⟨Ext.new h _, rfl, if_pos rfl, none, rfl⟩ (fun _ _ _ _ => rfl) ?_ ?_
  · rintro d n r sl h1 e ⟨x1, n1, a1', t, rfl⟩
    have dl : (cnt d).length ≤ 1000 := by
      have h1 := List.Nodup.length_le_of_subset (l₁ := (cnt d).map (·.1)) (l₂ := d) (show ((cnt d).map (·.1)).Nodup from accI_nd _) fun k hk => by
        obtain ⟨q, hq, rfl⟩ := List.mem_map.mp hk
        exact (mem_cnt.mp hq).1
      rw [List.length_map] at h1
      have := congrArg List.length e
      rw [List.length_append] at this
      omega
    walk_at "ev"
    refine ⟨⟨_, dview_box a1'⟩, ?_⟩
    walk_at "ev"
    refine ⟨_, dget_I (dview_box a1') n, ?_⟩
    rw [getD_int]
    walk_at "ev"
    refine wp_setI a1' (accI_nd _) (by unfold sizeLine; omega) ?_
    refine ⟨x1.put _ (Nat.le_refl _), n1, ?_, some (.int n), rfl⟩
    have e2 : cnt (d ++ [n]) = putI (cnt d) n ((lookI (cnt d) n).getD 0 + 1) := by
      unfold cnt
      rw [List.map_append]
      exact accI_snoc _ (n, 1)
    rw [e2]
    exact if_pos rfl
  · rintro sl h1 ⟨x1, n1, a1', t, rfl⟩
    walk_at "ev"
    refine ip_keysI (sg := cnt ns) ?_
    walk_at "ev"
    refine ⟨dview_box a1', ?_⟩
    have x2 : Ext h (lkW (.box h.nx) h1) := x1.lk fun m e => by cases e; exact Nat.le_refl _
    have d2 : Dv (lkW (.box h.nx) h1) (.box h.nx) (cnt ns) := dview_lk.trans (dview_box a1')
    have nl : (lkW (.box h.nx) h1).nx ≤ h.nx + 6 := by rw [nx_lk]; omega
    generalize lkW (.box h.nx) h1 = h2 at x2 d2 nl
    refine wp_lcI (fun k => decide ((lookI (cnt ns) k).getD 0 = m)) W.int (by rw [List.length_map]; unfold sizeLine; omega) rfl (fun k hk => ?_) ?_
    · obtain ⟨v, ev⟩ := Option.isSome_iff_exists.mp (lookI_isSome.mpr hk)
      walk_at "ev"
      refine wp_ixD (by rw [d2]; intro z; cases z) (dv_sview d2) (dv_str d2) (by rw [dget_I d2, ev]; rfl) ?_
      walk_at "ev"
      refine wp_vals (sg := cnt ns) ?_
      walk_at "ev"
      refine ⟨d2, m, emC, ?_⟩
      walk_at "ev"
      rw [ev]
      exact ⟨rfl, fun _ => wp_var rfl ⟨rfl, rfl⟩, rfl⟩
    · walk_at "ev"
      refine wp_min1 (m := a) (minI_of ((mo a).mpr a1) fun y hy => a2 y ((mo y).mp hy)) ?_
      walk_at "ev"
      refine wp_max1 (m := b) (maxI_of ((mo b).mpr b1) fun y hy => b2 y ((mo y).mp hy)) ?_
      walk_at "ev"
      refine wp_sz (by simp [sizeLine]) ?_
      exact p h2 x2 nl
theorem wp_guess {K : W → HS → Prop} {E : Nat → HS → Prop} {n : Nat} (hd : Dc h n) (p : ∀ g h', Gd g → Dc h' n → h'.nx = h.nx → K (gW g) h') : Wp (f__law_guess [.box n] h) K E := by
  refine wp_body ?_
  unfold b__law_guess
  walk_at "ev"
  refine wp_roll hd (by decide) (by decide) fun r1 h1 r1a r1b d1 _ n1 => ?_
  walk_at "ev"
  refine wp_roll d1 (by decide) (by decide) fun r2 h2 r2a r2b d2 _ n2 => ?_
  walk_at "ev"
  refine wp_roll d2 (by decide) (by decide) fun r3 h3 r3a r3b d3 _ n3 => ?_
  walk_at "ev"
  refine wp_sz (by simp [sizeLine]) ?_
  exact p (r1, r1 + r2, r1 + r2 + r3) h3 ⟨r1a, by show r1 ≤ 8; omega, by show r1 ≤ r1 + r2; omega, by show r1 + r2 ≤ r1 + 5; omega, by show r1 + r2 ≤ r1 + r2 + r3; omega, by show r1 + r2 + r3 ≤ r1 + r2 + 7; omega⟩ d3 (n3.trans (n2.trans n1))

end K03
end

/-! Kv1 -/
section
set_option Elab.async false
set_option linter.all false
set_option maxRecDepth 100000
set_option maxHeartbeats 4000000
namespace K03
open PySem PySem.Spec L2 Pk
local macro_rules | `(tactic| walk_at "ev1") => `(tactic| with_reducible first
  | refine wp_var rfl ?_ | refine wp_c ?_ | refine wp_bin ?_ | refine wp_un ?_ | refine wp_asB ?_ | refine wp_tval ?_ | refine wp_chain_ll ?_ | refine wp_chain_tt ?_ | refine wp_chain ?_ | refine wp_tand ?_ | refine wp_tor ?_ | refine wp_tnot ?_
  | refine wp_and ?_ | refine wp_or ?_ | refine wp_not ?_ | refine wp_if ?_ | refine wp_anil ?_ | refine wp_acons ?_ | refine wp_tup ?_ | refine wp_lst ?_ | refine wp_mkLf ?_ | refine wp_mkLt ?_ | refine wp_mkDf ?_ | refine wp_mkDt ?_
  | refine wp_add ?_ | refine wp_sub ?_ | refine wp_neg' ?_ | refine wp_kadd ?_ | refine wp_ksub ?_ | refine wp_lt ?_ | refine wp_le ?_ | refine wp_gt ?_ | refine wp_ge ?_ | refine wp_eqi ?_ | refine wp_nei ?_ | refine wp_eqs ?_ | refine wp_nes ?_ | refine wp_eqb ?_ | refine wp_neb ?_
  | refine wp_is ?_ | refine wp_isN ?_ | refine wp_callB ?_ | refine wp_call ?_ | refine wp_go rfl ?_ | refine wp_meth ?_ | refine wp_make ?_ | refine wp_told ?_ | refine wp_get2 ?_
  | refine ws_nil ?_ | refine ws_seq ?_ | refine ws_expr ?_ | refine ws_ret ?_ | refine ws_retN ?_ | refine ws_if ?_ | refine ws_raise ?_ | refine ws_asgN ?_ | refine ws_asg ?_ | refine gp_n ?_ | refine gp_tup rfl ?_ | refine gp_cons ?_ | refine gp_nil ?_
  | refine ws_par ?_ | refine ws_par3 ?_ | refine ws_aug rfl ?_ | refine ws_fld ?_ | refine ws_sub ?_ | refine ws_del ?_ | refine ws_for ?_ | refine wp_lc ?_ | refine ip_seq ?_ | refine ip_r1 ?_ | refine ip_r2 ?_ | refine ip_r3 ?_
  | refine wp_tyes ?_ | refine wp_ok ?_ | refine wp_tupR ?_ | refine wp_zipL ?_ | refine tvT ?_ | refine tvK ?_ | refine wp_cut ?_ | refine wp_pno ?_ | refine wp_psome ?_ | refine wp_cutScr ?_ | refine wp_cutL ?_ | refine wp_cutT ?_ | refine wp_lenL ?_ | refine wp_lenT ?_ | refine wp_intI ?_ | refine wp_intB ?_ | refine wp_absI ?_ | refine wp_listT ?_ | refine wp_listL ?_ | refine wp_tupleL ?_ | refine wp_tupleT ?_ | refine wp_sumL ?_ | refine wp_any ?_ | refine wp_all ?_ | refine wp_sumG ?_ | refine wp_tupG ?_ | refine wp_bind ?_ | refine is1 ?_ | refine is2 ?_ | refine is3 ?_ | refine isI ?_ | refine isS ?_ | refine svL ?_ | refine svT ?_ | refine svK ?_ | refine lvL ?_ | refine wp_dnewT ?_ | refine wp_dnewF ?_ | refine wp_lm ?_ | refine wp_dc ?_ | refine wp_count ?_ | refine wp_chain3l ?_ | refine ip_items ?_ | refine ip_vals ?_ | refine ip_keysI ?_ | refine wp_vals ?_ | refine wp_sortItems ?_ | refine ip_enum ?_ | refine ip_txt ?_)
local macro_rules | `(tactic| walk_at "ev") => `(tactic| repeat walk_at "ev1")
variable {h : HS} {N : Sl → HS → Prop} {T : W → HS → Prop} {B C : Sl → HS → Prop} {E : Nat → HS → Prop} {g : Gs} {gs : List Gs} {ns told took : List Int} {day part : Int} {t0 t1 t2 t3 t4 t5 t6 t7 t8 t9 t10 t11 t12 t13 t14 t15 t16 t17 t18 t19 t20 : Option W}

theorem Dc.ext {h h' : HS} (d : Dc h 0) (x : Ext h h') (hp : 0 < h.nx) : Dc h' 0 := by
  obtain ⟨a, b, c, e⟩ := d
  exact ⟨a, b, c, (x.2 0 hp).trans e⟩
theorem ok_lst2 (t b : Int) (n : Nat) : okW (n + 2) (lst2 t b) = true := rfl
theorem new_lst2 {t b : Int} {K : W → HS → Prop} (p : K (.bl false) h) : Wp (wNe (lst2 t b) (lst2 t b) h) K E := wp_new (b := true) (weq_tup rfl) p
theorem ok_prI : ∀ l : List (Int × Int), (l.map prI).all (okW 8) = true
  | [] => rfl
  | p :: l => by rw [List.map_cons, List.all_cons, ok_prI l]; rfl
theorem new_prs {l : List (Int × Int)} {K : W → HS → Prop} (p : K (.bl false) h) : Wp (wNe (.lst (l.map prI)) (.lst (l.map prI)) h) K E := wp_new (b := true) (weq_lst (ok_prI l)) p

theorem w0 (D : Dc h 0) (p : ∀ (g : Gs) (gs : List Gs) h', Gd g → (∀ x ∈ gs, Gd x) → gs.length ≤ 3 → Dc h' 0 → h'.nx = h.nx → N [t0, some (.box 0), t2, t3, t4, t5, t6, t7, t8, some (gW g), some (.lst (gs.map gW)), t11, t12, t13, t14, t15, t16, t17, t18, t19, t20] h') : Ws (lw0 [t0, some (.box 0), t2, t3, t4, t5, t6, t7, t8, t9, t10, t11, t12, t13, t14, t15, t16, t17, t18, t19, t20] h) N T B C E := by
  unfold lw0
  walk_at "ev"
  refine wp_guess D fun g h1 G d1 n1 => ?_
  walk_at "ev"
  refine wp_roll d1 (by decide) (by decide) fun r h2 r0 r1 d2 _ n2 => ?_
  walk_at "ev"
  refine ⟨by omega, ?_⟩
  refine wp_lcLoopI (fun i acc h' => ∃ gs : List Gs, acc = gs.map gW ∧ gs.length = i ∧ (∀ x ∈ gs, Gd x) ∧ Dc h' 0 ∧ h'.nx = h.nx) ⟨[], rfl, rfl, (fun _ z => nomatch z), d2, n2.trans n1⟩ (by simp [rItems]; unfold sizeLine; omega) (fun _ _ _ _ _ => rfl) ?_ ?_
  · rintro i w acc h' e ⟨gs, rfl, li, Gs', d3, n3⟩
    walk_at "ev"
    refine ⟨fun _ => ?_, fun z => by cases z⟩
    walk_at "ev"
    refine wp_guess d3 fun g2 h4 G2 d4 n4 => ?_
    refine ⟨gs ++ [g2], by simp, by simp [li], fun x hx => ?_, d4, n4.trans n3⟩
    rcases List.mem_append.mp hx with hx | hx
    · exact Gs' x hx
    · rw [List.mem_singleton.mp hx]; exact G2
  · rintro acc h' ⟨gs, rfl, li, Gs', d3, n3⟩
    walk_at "ev"
    refine wp_sz (by simp [sizeLine]) ?_
    walk_at "ev"
    refine p g gs h' G Gs' ?_ d3 n3
    rw [li]
    simp only [rItems, List.length_map, List.length_range]
    omega

theorem w1 (G : Gd g) (p : N [t0, t1, t2, t3, t4, t5, t6, t7, t8, some (gW g), t10, t11, t12, t13, t14, t15, t16, t17, t18, t19, t20] h) : Ws (lw1 [t0, t1, t2, t3, t4, t5, t6, t7, t8, some (gW g), t10, t11, t12, t13, t14, t15, t16, t17, t18, t19, t20] h) N T B C E := by
  unfold lw1
  walk_at "ev"
  refine wp_eq (mean_eq G) ?_
  refine wp_ok ?_
  walk_at "ev"
  refine ixg rfl ?_
  walk_at "ev"
  refine ixg rfl ?_
  walk_at "ev"
  refine wp_mul (.inl (by decide)) ?_
  walk_at "ev"
  refine ixg rfl ?_
  walk_at "ev"
  refine wp_eq (law_least_eq (by decide) (by decide)) ?_
  refine wp_ok (new_lst2 ?_)
  walk_at "ev"
  exact ws_neg (by decide) (ws_nil p)

theorem w2 (G : Gd g) (p : N [t0, t1, t2, t3, t4, t5, t6, t7, t8, some (gW g), t10, t11, t12, t13, t14, t15, t16, t17, t18, t19, t20] h) : Ws (lw2 [t0, t1, t2, t3, t4, t5, t6, t7, t8, some (gW g), t10, t11, t12, t13, t14, t15, t16, t17, t18, t19, t20] h) N T B C E := by
  unfold lw2
  walk_at "ev"
  refine wp_eq (spread_eq G) ?_
  refine wp_ok ?_
  walk_at "ev"
  refine ixg rfl ?_
  walk_at "ev"
  refine ixg rfl ?_
  walk_at "ev"
  refine ixg rfl ?_
  walk_at "ev"
  refine ixg rfl ?_
  walk_at "ev"
  refine wp_mul (.inl (s2_bd G)) ?_
  walk_at "ev"
  refine wp_eq (law_least_eq (by decide) (by decide)) ?_
  refine wp_ok (new_lst2 ?_)
  walk_at "ev"
  exact ws_neg (by decide) (ws_nil p)

theorem w3 (G : Gd g) (p : N [t0, t1, t2, t3, t4, t5, t6, t7, t8, some (gW g), t10, t11, t12, t13, t14, t15, t16, t17, t18, t19, t20] h) : Ws (lw3 [t0, t1, t2, t3, t4, t5, t6, t7, t8, some (gW g), t10, t11, t12, t13, t14, t15, t16, t17, t18, t19, t20] h) N T B C E := by
  unfold lw3
  walk_at "ev"
  refine wp_eq (check_eq G) ?_
  refine wp_ok ?_
  walk_at "ev"
  exact ws_neg (by decide) (ws_nil p)

theorem w4 (G : ∀ x ∈ gs, Gd x) (l : gs.length ≤ 3) (p : N [t0, t1, t2, t3, t4, t5, t6, t7, t8, t9, some (.lst (gs.map gW)), some (.int ((gs.map s1).sum)), some (.int ((gs.map s2).sum)), t13, t14, t15, t16, t17, t18, t19, t20] h) : Ws (lw4 [t0, t1, t2, t3, t4, t5, t6, t7, t8, t9, some (.lst (gs.map gW)), t11, t12, t13, t14, t15, t16, t17, t18, t19, t20] h) N T B C E := by
  unfold lw4
  walk_at "ev"
  refine wp_lcX gW (fun _ => true) (fun x => .int (s1 x)) (by unfold sizeLine; omega) rfl (fun x hx => ?_) ?_
  · walk_at "ev"
    refine ⟨rfl, fun _ => ?_, rfl⟩
    walk_at "ev"
    refine ixg rfl ?_
    walk_at "ev"
    refine ixg rfl ?_
    walk_at "ev"
    refine wp_mul (.inl (by decide)) ?_
    walk_at "ev"
    refine ixg rfl ?_
    walk_at "ev"
    exact ⟨rfl, rfl⟩
  rw [List.filter_eq_self.mpr (fun _ _ => rfl), show gs.map (fun x => W.int (s1 x)) = (gs.map s1).map W.int by rw [List.map_map]; rfl]
  walk_at "ev"
  refine wp_lcX gW (fun _ => true) (fun x => .int (s2 x)) (by unfold sizeLine; omega) rfl (fun x hx => ?_) ?_
  · walk_at "ev"
    refine ⟨rfl, fun _ => ?_, rfl⟩
    walk_at "ev"
    refine ixg rfl ?_
    walk_at "ev"
    refine ixg rfl ?_
    walk_at "ev"
    refine ixg rfl ?_
    walk_at "ev"
    refine ixg rfl ?_
    walk_at "ev"
    refine wp_mul (.inl (s2_bd (G x hx))) ?_
    exact ⟨rfl, rfl⟩
  rw [List.filter_eq_self.mpr (fun _ _ => rfl), show gs.map (fun x => W.int (s2 x)) = (gs.map s2).map W.int by rw [List.map_map]; rfl]
  walk_at "ev"
  exact p

theorem w5 (G : ∀ x ∈ gs, Gd x) (p : N [t0, t1, t2, t3, t4, t5, t6, t7, t8, t9, some (.lst (gs.map gW)), some (.int ((gs.map s1).sum)), some (.int ((gs.map s2).sum)), t13, t14, t15, t16, t17, t18, t19, t20] h) : Ws (lw5 [t0, t1, t2, t3, t4, t5, t6, t7, t8, t9, some (.lst (gs.map gW)), some (.int ((gs.map s1).sum)), some (.int ((gs.map s2).sum)), t13, t14, t15, t16, t17, t18, t19, t20] h) N T B C E := by
  unfold lw5
  walk_at "ev"
  refine wp_eq (sum_of_eq G) ?_
  refine wp_ok ?_
  walk_at "ev"
  refine wp_eq (law_least_eq (by decide) (by decide)) ?_
  refine wp_ok ?_
  walk_at "ev"
  refine wp_eq (law_least_eq (by decide) (by decide)) ?_
  refine wp_ok ?_
  walk_at "ev"
  refine wp_sz (by simp [sizeLine]) ?_
  walk_at "ev"
  refine wp_new (b := true) (weq_tup rfl) ?_
  walk_at "ev"
  exact ws_neg (by decide) (ws_nil p)

theorem w6 (G : Gd g) (D : Dc h 0) (p : ∀ (day part : Int) h', 1 ≤ part → part ≤ 100 → Dc h' 0 → h'.nx = h.nx → N [t0, some (.box 0), t2, t3, t4, t5, t6, t7, t8, some (gW g), t10, t11, t12, some (.lst ((wl g).map prI)), some (.int day), some (.int part), t16, t17, t18, t19, t20] h') : Ws (lw6 [t0, some (.box 0), t2, t3, t4, t5, t6, t7, t8, some (gW g), t10, t11, t12, t13, t14, t15, t16, t17, t18, t19, t20] h) N T B C E := by
  unfold lw6
  walk_at "ev"
  refine wp_eq (weights_eq G) ?_
  refine wp_ok ?_
  walk_at "ev"
  refine wp_roll D (by decide) (by decide) fun r1 h1 a1 b1 d1 _ n1 => ?_
  walk_at "ev"
  refine wp_roll d1 (by decide) (by decide) fun r2 h2 a2 b2 d2 _ n2 => ?_
  walk_at "ev"
  refine wp_sz (by simp [sizeLine]) ?_
  walk_at "ev"
  exact p r1 (1 + r2) h2 (by omega) (by omega) d2 (n2.trans n1)

theorem w7 (G : Gd g) (p : N [t0, t1, some (.int (((wl g).map (·.2)).sum)), t3, t4, t5, t6, t7, t8, t9, t10, t11, t12, some (.lst ((wl g).map prI)), t14, t15, t16, t17, t18, t19, t20] h) : Ws (lw7 [t0, t1, t2, t3, t4, t5, t6, t7, t8, t9, t10, t11, t12, some (.lst ((wl g).map prI)), t14, t15, t16, t17, t18, t19, t20] h) N T B C E := by
  unfold lw7
  walk_at "ev"
  refine wp_lcX prI (fun q => true) (fun q => .int q.2) (by rw [wl_len]; have := (gLen_le G).1; unfold sizeLine; omega) rfl (fun q hq => ?_) ?_
  · obtain ⟨q1, q2⟩ := q
    walk_at "ev"
    exact ⟨rfl, fun _ => wp_var rfl ⟨rfl, rfl⟩, rfl⟩
  rw [List.filter_eq_self.mpr (fun _ _ => rfl), show (wl g).map (fun q => W.int q.2) = ((wl g).map (·.2)).map W.int by rw [List.map_map]; rfl]
  walk_at "ev"
  exact p

theorem w8 (G : Gd g) (D : Dc h 0) (hp : 0 < h.nx) (p : ∀ h', Dc h' 0 → h.nx ≤ h'.nx → h'.nx ≤ h.nx + 12 → N [t0, t1, t2, t3, t4, t5, t6, t7, t8, some (gW g), t10, t11, t12, some (.lst ((wl g).map prI)), t14, t15, t16, t17, t18, t19, t20] h') : Ws (lw8 [t0, t1, t2, t3, t4, t5, t6, t7, t8, some (gW g), t10, t11, t12, some (.lst ((wl g).map prI)), t14, t15, t16, t17, t18, t19, t20] h) N T B C E := by
  unfold lw8
  walk_at "ev"
  refine wp_itemsI (sg := wl g) ?_
  walk_at "ev"
  refine wp_chances G fun h1 x1 n1 a1 => ?_
  refine ⟨dview_box a1, ?_⟩
  walk_at "ev"
  refine new_prs ?_
  walk_at "ev"
  exact ws_neg (by decide) (ws_nil (p h1 (D.ext x1 hp) x1.1 (by omega)))

theorem w9 (G : Gd g) (D : Dc h 0) (hp : 0 < h.nx) (p : ∀ h', Dc h' 0 → h.nx ≤ h'.nx → h'.nx ≤ h.nx + 12 → N [t0, t1, some (.int (((wl g).map (·.2)).sum)), t3, t4, t5, t6, t7, t8, some (gW g), t10, t11, t12, some (.lst ((wl g).map prI)), some (.int day), t15, t16, t17, t18, t19, t20] h') : Ws (lw9 [t0, t1, some (.int (((wl g).map (·.2)).sum)), t3, t4, t5, t6, t7, t8, some (gW g), t10, t11, t12, some (.lst ((wl g).map prI)), some (.int day), t15, t16, t17, t18, t19, t20] h) N T B C E := by
  unfold lw9
  walk_at "ev"
  refine wp_chance G fun h1 x1 n1 => ?_
  walk_at "ev"
  refine wp_lcX prI (fun q => decide (q.1 ≤ day)) (fun q => .int q.2) (by rw [wl_len]; have := (gLen_le G).1; unfold sizeLine; omega) rfl (fun q hq => ?_) ?_
  · obtain ⟨q1, q2⟩ := q
    walk_at "ev"
    exact ⟨rfl, fun _ => wp_var rfl ⟨rfl, rfl⟩, rfl⟩
  rw [show ((wl g).filter (fun q => decide (q.1 ≤ day))).map (fun q => W.int q.2) = (((wl g).filter (fun q => decide (q.1 ≤ day))).map (·.2)).map W.int by rw [List.map_map]; rfl]
  walk_at "ev"
  have ws := wl_sum G
  refine wp_eq (law_least_eq (by omega) (by omega)) ?_
  refine wp_ok (new_lst2 ?_)
  walk_at "ev"
  exact ws_neg (by decide) (ws_nil (p h1 (D.ext x1 hp) x1.1 (by omega)))

end K03
end

/-! Kv2 -/
section
set_option Elab.async false
set_option linter.all false
set_option maxRecDepth 100000
set_option maxHeartbeats 4000000
namespace K03
open PySem PySem.Spec L2 Pk
local macro_rules | `(tactic| walk_at "ev1") => `(tactic| with_reducible first
  | refine wp_var rfl ?_ | refine wp_c ?_ | refine wp_bin ?_ | refine wp_un ?_ | refine wp_asB ?_ | refine wp_tval ?_ | refine wp_chain_ll ?_ | refine wp_chain_tt ?_ | refine wp_chain ?_ | refine wp_tand ?_ | refine wp_tor ?_ | refine wp_tnot ?_
  | refine wp_and ?_ | refine wp_or ?_ | refine wp_not ?_ | refine wp_if ?_ | refine wp_anil ?_ | refine wp_acons ?_ | refine wp_tup ?_ | refine wp_lst ?_ | refine wp_mkLf ?_ | refine wp_mkLt ?_ | refine wp_mkDf ?_ | refine wp_mkDt ?_
  | refine wp_add ?_ | refine wp_sub ?_ | refine wp_neg' ?_ | refine wp_kadd ?_ | refine wp_ksub ?_ | refine wp_lt ?_ | refine wp_le ?_ | refine wp_gt ?_ | refine wp_ge ?_ | refine wp_eqi ?_ | refine wp_nei ?_ | refine wp_eqs ?_ | refine wp_nes ?_ | refine wp_eqb ?_ | refine wp_neb ?_
  | refine wp_is ?_ | refine wp_isN ?_ | refine wp_callB ?_ | refine wp_call ?_ | refine wp_go rfl ?_ | refine wp_meth ?_ | refine wp_make ?_ | refine wp_told ?_ | refine wp_get2 ?_
  | refine ws_nil ?_ | refine ws_seq ?_ | refine ws_expr ?_ | refine ws_ret ?_ | refine ws_retN ?_ | refine ws_if ?_ | refine ws_raise ?_ | refine ws_asgN ?_ | refine ws_asg ?_ | refine gp_n ?_ | refine gp_tup rfl ?_ | refine gp_cons ?_ | refine gp_nil ?_
  | refine ws_par ?_ | refine ws_par3 ?_ | refine ws_aug rfl ?_ | refine ws_fld ?_ | refine ws_sub ?_ | refine ws_del ?_ | refine ws_for ?_ | refine wp_lc ?_ | refine ip_seq ?_ | refine ip_r1 ?_ | refine ip_r2 ?_ | refine ip_r3 ?_
  | refine wp_tyes ?_ | refine wp_ok ?_ | refine wp_tupR ?_ | refine wp_zipL ?_ | refine tvT ?_ | refine tvK ?_ | refine wp_cut ?_ | refine wp_pno ?_ | refine wp_psome ?_ | refine wp_cutScr ?_ | refine wp_cutL ?_ | refine wp_cutT ?_ | refine wp_lenL ?_ | refine wp_lenT ?_ | refine wp_intI ?_ | refine wp_intB ?_ | refine wp_absI ?_ | refine wp_listT ?_ | refine wp_listL ?_ | refine wp_tupleL ?_ | refine wp_tupleT ?_ | refine wp_sumL ?_ | refine wp_any ?_ | refine wp_all ?_ | refine wp_sumG ?_ | refine wp_tupG ?_ | refine wp_bind ?_ | refine is1 ?_ | refine is2 ?_ | refine is3 ?_ | refine isI ?_ | refine isS ?_ | refine svL ?_ | refine svT ?_ | refine svK ?_ | refine lvL ?_ | refine wp_dnewT ?_ | refine wp_dnewF ?_ | refine wp_lm ?_ | refine wp_dc ?_ | refine wp_count ?_ | refine wp_chain3l ?_ | refine ip_items ?_ | refine ip_vals ?_ | refine ip_keysI ?_ | refine wp_vals ?_ | refine wp_sortItems ?_ | refine ip_enum ?_ | refine ip_txt ?_)
local macro_rules | `(tactic| walk_at "ev") => `(tactic| repeat walk_at "ev1")
variable {h : HS} {N : Sl → HS → Prop} {T : W → HS → Prop} {B C : Sl → HS → Prop} {E : Nat → HS → Prop} {g : Gs} {gs : List Gs} {ns told took : List Int} {day part m : Int} {t0 t1 t2 t3 t4 t5 t6 t7 t8 t9 t10 t11 t12 t13 t14 t15 t16 t17 t18 t19 t20 : Option W}

theorem filter_one : ∀ {l : List (Int × Int)}, NdI l → ∀ {a b : Int}, (a, b) ∈ l → l.filter (fun q => decide (q.1 = a)) = [(a, b)]
  | [], _, _, _, h => nomatch h
  | p :: l, nd, a, b, h => by
    unfold NdI at nd
    rw [List.map_cons, List.nodup_cons] at nd
    rcases List.mem_cons.mp h with e | h
    · subst e
      rw [List.filter_cons_of_pos (by simp), List.filter_eq_nil_iff.mpr fun q hq z => nd.1 (List.mem_map.mpr ⟨q, hq, by simpa using z⟩)]
    · have : p.1 ≠ a := fun z => nd.1 (by rw [z]; exact List.mem_map.mpr ⟨_, h, rfl⟩)
      rw [List.filter_cons_of_neg (by simpa using this), filter_one nd.2 h]
theorem top_max (G : Gd g) : (g.2.1, wt g g.2.1) ∈ wl g ∧ maxI ((wl g).map (·.2)) = some (wt g g.2.1) := by
  have G0 := G
  obtain ⟨a, a8, b, b5, c, c7⟩ := G
  have l := (gLen_le G0).2.2
  have m : (g.2.1, wt g g.2.1) ∈ wl g := List.mem_map.mpr ⟨g.2.1, mem_iota.mpr ⟨b, by omega⟩, rfl⟩
  refine ⟨m, maxI_of (List.mem_map.mpr ⟨_, m, rfl⟩) fun y hy => ?_⟩
  obtain ⟨q, hq, rfl⟩ := List.mem_map.mp hy
  obtain ⟨q1, q2, q3, _⟩ := wl_mem G0 hq
  show q.2 ≤ _
  rw [q3]
  unfold wt
  rw [if_pos (Int.le_refl _)]
  split
  · exact mul_le8 (by omega) (by omega) (by omega) (by omega)
  · rw [Int.mul_comm]
    exact mul_le8 (by omega) (by omega) (by omega) (by omega)
def cumI (ps : List (Int × Int)) (k : Int) : Int := ((ps.filter fun q => decide (q.1 ≤ k)).map (·.2)).sum
theorem cum_at : ∀ (d : List (Int × Int)) (p : Int × Int) (r : List (Int × Int)), (d ++ p :: r).Pairwise (fun a b => a.1 < b.1) → cumI (d ++ p :: r) p.1 = (d.map (·.2)).sum + p.2 := by
  intro d p r h
  unfold cumI
  have h1 := List.pairwise_append.mp h
  have e1 : d.filter (fun q => decide (q.1 ≤ p.1)) = d := List.filter_eq_self.mpr fun q hq => by
    have := h1.2.2 q hq p List.mem_cons_self
    simpa using Int.le_of_lt this
  have e2 : r.filter (fun q => decide (q.1 ≤ p.1)) = [] := List.filter_eq_nil_iff.mpr fun q hq z => by
    have := (List.pairwise_cons.mp h1.2.1).1 q hq
    have z : q.1 ≤ p.1 := by simpa using z
    omega
  rw [List.filter_append, e1, List.filter_cons_of_pos (by simp), e2, List.map_append, List.sum_append]
  simp
theorem first_cum (part wh : Int) (ps : List (Int × Int)) (h : ps.Pairwise (fun a b => a.1 < b.1)) : ∀ (r d : List (Int × Int)), ps = d ++ r → firstD part wh ((d.map (·.2)).sum) r = ((r.filter fun q => decide (part * wh ≤ 100 * cumI ps q.1)).head?).map (·.1)
  | [], _, _ => rfl
  | p :: r, d, e => by
    have c : cumI ps p.1 = (d.map (·.2)).sum + p.2 := by rw [e] at h ⊢; exact cum_at d p r h
    rw [firstD_cons, List.filter_cons, c]
    by_cases q : part * wh ≤ 100 * ((d.map (·.2)).sum + p.2)
    · rw [if_pos q, if_pos (by simpa using q)]; rfl
    · rw [if_neg q, if_neg (by simpa using q)]
      have := first_cum part wh ps h r (d ++ [p]) (by rw [e]; simp)
      rw [List.map_append, List.sum_append] at this
      simpa using this
theorem wl_asc (g : Gs) : (wl g).Pairwise (fun a b => a.1 < b.1) := by
  unfold wl iota
  rw [List.map_map]
  refine List.pairwise_map.mpr (List.pairwise_lt_range.imp fun {a b} h => ?_)
  show g.1 + (a : Int) < g.1 + (b : Int)
  omega
theorem at_head {l : List (Int × Int)} {D : Int} (e : (l.head?).map (·.1) = some D) : atI (l.map fun q => W.int q.1) 0 = some (.int D) := by
  cases l with
  | nil => cases e
  | cons p l =>
    cases e
    unfold atI ixN
    simp [seqIndex?]

theorem w10 (G : Gd g) (p : N [t0, t1, t2, t3, t4, t5, t6, t7, t8, some (gW g), t10, t11, t12, some (.lst ((wl g).map prI)), t14, t15, t16, t17, t18, t19, t20] h) : Ws (lw10 [t0, t1, t2, t3, t4, t5, t6, t7, t8, some (gW g), t10, t11, t12, some (.lst ((wl g).map prI)), t14, t15, t16, t17, t18, t19, t20] h) N T B C E := by
  unfold lw10
  walk_at "ev"
  refine wp_lcX prI (fun q => decide (q.1 = g.2.1)) (fun q => .int q.2) (by rw [wl_len]; have := (gLen_le G).1; unfold sizeLine; omega) rfl (fun q hq => ?_) ?_
  · obtain ⟨q1, q2⟩ := q
    walk_at "ev"
    refine ixg rfl ?_
    walk_at "ev"
    exact ⟨rfl, fun _ => wp_var rfl ⟨rfl, rfl⟩, rfl⟩
  rw [filter_one (wl_nd g) (top_max G).1]
  walk_at "ev"
  refine wp_ixL rfl (fun _ q => by cases q) (w := .int (wt g g.2.1)) rfl ?_
  walk_at "ev"
  refine wp_lcX prI (fun q => true) (fun q => .int q.2) (by rw [wl_len]; have := (gLen_le G).1; unfold sizeLine; omega) rfl (fun q hq => ?_) ?_
  · obtain ⟨q1, q2⟩ := q
    walk_at "ev"
    exact ⟨rfl, fun _ => wp_var rfl ⟨rfl, rfl⟩, rfl⟩
  rw [List.filter_eq_self.mpr (fun _ _ => rfl), show (wl g).map (fun q => W.int q.2) = ((wl g).map (·.2)).map W.int by rw [List.map_map]; rfl]
  walk_at "ev"
  refine wp_max1 (top_max G).2 ?_
  walk_at "ev"
  exact ws_neg (by simp) (ws_nil p)

theorem w11 (G : Gd g) (p1 : 1 ≤ part) (p2 : part ≤ 100) (D : Dc h 0) (hp : 0 < h.nx) (p : ∀ h', Dc h' 0 → h.nx ≤ h'.nx → h'.nx ≤ h.nx + 12 → N [t0, t1, some (.int (((wl g).map (·.2)).sum)), t3, t4, t5, t6, t7, t8, some (gW g), t10, t11, t12, some (.lst ((wl g).map prI)), t14, some (.int part), t16, t17, t18, t19, t20] h') : Ws (lw11 [t0, t1, some (.int (((wl g).map (·.2)).sum)), t3, t4, t5, t6, t7, t8, some (gW g), t10, t11, t12, some (.lst ((wl g).map prI)), t14, some (.int part), t16, t17, t18, t19, t20] h) N T B C E := by
  unfold lw11
  walk_at "ev"
  refine wp_day G p1 p2 fun h1 D' x1 n1 eD => ?_
  have st := first_cum part (((wl g).map (·.2)).sum) (wl g) (wl_asc g) (wl g) [] rfl
  have st : firstD part (((wl g).map (·.2)).sum) 0 (wl g) = _ := st
  rw [eD] at st
  have ws := wl_sum G
  generalize hW : ((wl g).map (·.2)).sum = wh at *
  walk_at "ev"
  refine wp_lcX prI (fun q => decide (part * wh ≤ 100 * cumI (wl g) q.1)) (fun q => .int q.1) (by rw [wl_len]; have := (gLen_le G).1; unfold sizeLine; omega) rfl (fun q hq => ?_) ?_
  · obtain ⟨q1, q2⟩ := q
    walk_at "ev"
    refine wp_lcX prI (fun r => decide (r.1 ≤ q1)) (fun r => .int r.2) (by rw [wl_len]; have := (gLen_le G).1; unfold sizeLine; omega) rfl (fun r hr => ?_) ?_
    · obtain ⟨r1, r2⟩ := r
      walk_at "ev"
      exact ⟨rfl, fun _ => wp_var rfl ⟨rfl, rfl⟩, rfl⟩
    rw [show ((wl g).filter (fun r => decide (r.1 ≤ q1))).map (fun r => W.int r.2) = (((wl g).filter (fun r => decide (r.1 ≤ q1))).map (·.2)).map W.int by rw [List.map_map]; rfl]
    walk_at "ev"
    refine wp_mul (.inl (by decide)) ?_
    walk_at "ev"
    refine wp_mul (.inl (by omega)) ?_
    walk_at "ev"
    exact ⟨rfl, fun _ => wp_var rfl ⟨rfl, rfl⟩, rfl⟩
  walk_at "ev"
  refine wp_ixL rfl (fun _ q => by cases q) (at_head st.symm) ?_
  walk_at "ev"
  exact ws_neg (by simp) (ws_nil (p h1 (D.ext x1 hp) x1.1 (by omega)))

theorem w12 (G : ∀ x ∈ gs, Gd x) (l : gs.length ≤ 3) (D : Dc h 0) (hp : 0 < h.nx) (p : ∀ h', Dc h' 0 → h.nx ≤ h'.nx → h'.nx ≤ h.nx + 12 → N [t0, t1, t2, t3, t4, t5, t6, t7, t8, t9, some (.lst (gs.map gW)), t11, t12, t13, t14, t15, t16, t17, t18, t19, t20] h') : Ws (lw12 [t0, t1, t2, t3, t4, t5, t6, t7, t8, t9, some (.lst (gs.map gW)), t11, t12, t13, t14, t15, t16, t17, t18, t19, t20] h) N T B C E := by
  unfold lw12
  walk_at "ev"
  refine wp_itemsI (sg := finP (foundG opS gs)) ?_
  walk_at "ev"
  refine wp_together G l fun h1 x1 n1 => ?_
  refine ⟨rfl, ?_⟩
  walk_at "ev"
  refine wp_all (s := true) G l fun h2 x2 n2 => ?_
  refine new_prs ?_
  walk_at "ev"
  exact ws_neg (by decide) (ws_nil (p h2 ((D.ext x1 hp).ext x2 (Nat.lt_of_lt_of_le hp x1.1)) (Nat.le_trans x1.1 x2.1) (by omega)))

theorem w13 (G : ∀ x ∈ gs, Gd x) (l : gs.length ≤ 3) (D : Dc h 0) (hp : 0 < h.nx) (p : ∀ h', Dc h' 0 → h.nx ≤ h'.nx → h'.nx ≤ h.nx + 12 → N [t0, t1, t2, t3, t4, t5, t6, t7, t8, t9, some (.lst (gs.map gW)), t11, t12, t13, t14, t15, t16, t17, t18, t19, t20] h') : Ws (lw13 [t0, t1, t2, t3, t4, t5, t6, t7, t8, t9, some (.lst (gs.map gW)), t11, t12, t13, t14, t15, t16, t17, t18, t19, t20] h) N T B C E := by
  unfold lw13
  walk_at "ev"
  refine wp_itemsI (sg := finP (foundG opM gs)) ?_
  walk_at "ev"
  refine wp_later G l fun h1 x1 n1 => ?_
  refine ⟨rfl, ?_⟩
  walk_at "ev"
  refine wp_all (s := false) G l fun h2 x2 n2 => ?_
  refine new_prs ?_
  walk_at "ev"
  exact ws_neg (by decide) (ws_nil (p h2 ((D.ext x1 hp).ext x2 (Nat.lt_of_lt_of_le hp x1.1)) (Nat.le_trans x1.1 x2.1) (by omega)))

theorem w14 (G : ∀ x ∈ gs, Gd x) (l : gs.length ≤ 3) (D : Dc h 0) (hp : 0 < h.nx) (p : ∀ h', Dc h' 0 → h.nx ≤ h'.nx → h'.nx ≤ h.nx + 12 → N [t0, t1, t2, some (.dic ((finP (foundG opS gs)).map kI) ((finP (foundG opS gs)).map vI)), t4, t5, t6, t7, t8, t9, some (.lst (gs.map gW)), t11, t12, t13, t14, t15, t16, t17, t18, t19, t20] h') : Ws (lw14 [t0, t1, t2, t3, t4, t5, t6, t7, t8, t9, some (.lst (gs.map gW)), t11, t12, t13, t14, t15, t16, t17, t18, t19, t20] h) N T B C E := by
  unfold lw14
  walk_at "ev"
  refine wp_all (s := true) G l fun h1 x1 n1 => ?_
  walk_at "ev"
  refine wp_dictI (sg := finP (foundG opS gs)) (by
    have := fold_self (finP (foundG opS gs)) [] (finP_nd (foundG_fg hopS G).nd)
    rwa [List.nil_append] at this) ?_
  walk_at "ev"
  exact p h1 (D.ext x1 hp) x1.1 (by omega)

theorem w15 (G : ∀ x ∈ gs, Gd x) (l : gs.length ≤ 3)  (p : N [t0, t1, t2, some (.dic ((finP (foundG opS gs)).map kI) ((finP (foundG opS gs)).map vI)), t4, t5, t6, t7, t8, t9, some (.lst (gs.map gW)), t11, t12, t13, t14, t15, t16, t17, t18, t19, t20] h) : Ws (lw15 [t0, t1, t2, some (.dic ((finP (foundG opS gs)).map kI) ((finP (foundG opS gs)).map vI)), t4, t5, t6, t7, t8, t9, some (.lst (gs.map gW)), t11, t12, t13, t14, t15, t16, t17, t18, t19, t20] h) N T B C E := by
  unfold lw15
  walk_at "ev"
  have B := finP_tb (foundG_fg hopS G) l
  have st : Dv h (.dic ((finP (foundG opS gs)).map kI) ((finP (foundG opS gs)).map vI)) (finP (foundG opS gs)) := rfl
  generalize finP (foundG opS gs) = R at B st p ⊢
  refine wp_eq (mean_in_eq B) ?_
  refine wp_ok ?_
  walk_at "ev"
  refine ip_keysI (sg := R) ?_
  walk_at "ev"
  refine ⟨st, ?_⟩
  refine wp_lcI (fun _ => true) (fun k => .int (k * (lookI R k).getD 0)) (by rw [List.length_map]; have := B.len; unfold sizeLine; omega) rfl (fun k hk => ?_) ?_
  · obtain ⟨v, ev⟩ := Option.isSome_iff_exists.mp (lookI_isSome.mpr hk)
    have kb := B.key _ (lookI_mem ev)
    walk_at "ev"
    refine ⟨rfl, fun _ => ?_, rfl⟩
    walk_at "ev"
    refine wp_ixD (by intro z; cases z) rfl (fun z q => by cases q) (w := .int v) (by rw [dget_I (sg := R) (show dview _ (W.dic (R.map kI) (R.map vI)) = _ from rfl), ev]; rfl) ?_
    refine wp_mul (.inl (by simp only at kb; omega)) ?_
    rw [ev]
    exact ⟨rfl, rfl⟩
  rw [List.filter_eq_self.mpr (fun _ _ => rfl), show (R.map (·.1)).map (fun k => W.int (k * (lookI R k).getD 0)) = (R.map fun q => q.1 * q.2).map W.int by
    rw [List.map_map, List.map_map]
    refine List.map_congr_left fun q hq => ?_
    show W.int (q.1 * (lookI R q.1).getD 0) = W.int (q.1 * q.2)
    rw [lookI_of_mem B.nd (d := q.1) (x := q.2) hq]
    rfl]
  walk_at "ev"
  refine wp_vals (sg := R) ?_
  walk_at "ev"
  refine ⟨st, _, rfl, ?_⟩
  walk_at "ev"
  refine wp_eq (law_least_eq B.sum.1 B.sum.2) ?_
  refine wp_ok (new_lst2 ?_)
  walk_at "ev"
  exact ws_neg (by decide) (ws_nil p)

theorem w16 (D : Dc h 0) (p : ∀ (ns : List Int) h', ns ≠ [] → ns.length ≤ 5 → (∀ x ∈ ns, 1 ≤ x ∧ x ≤ 9) → Dc h' 0 → h'.nx = h.nx → N [t0, some (.box 0), t2, t3, some (.lst (ns.map W.int)), t5, t6, t7, t8, t9, t10, t11, t12, t13, t14, t15, t16, t17, t18, t19, t20] h') : Ws (lw16 [t0, some (.box 0), t2, t3, t4, t5, t6, t7, t8, t9, t10, t11, t12, t13, t14, t15, t16, t17, t18, t19, t20] h) N T B C E := by
  unfold lw16
  walk_at "ev"
  refine wp_roll D (by decide) (by decide) fun r h2 r0 r1 d2 _ n2 => ?_
  walk_at "ev"
  refine ⟨by omega, ?_⟩
  refine wp_lcLoopI (fun i acc h' => ∃ ns : List Int, acc = ns.map W.int ∧ ns.length = i ∧ (∀ x ∈ ns, 1 ≤ x ∧ x ≤ 9) ∧ Dc h' 0 ∧ h'.nx = h.nx) ⟨[], rfl, rfl, (fun _ z => nomatch z), d2, n2⟩ (by simp [rItems]; unfold sizeLine; omega) (fun _ _ _ _ _ => rfl) ?_ ?_
  · rintro i w acc h' e ⟨ns, rfl, li, Gs', d3, n3⟩
    walk_at "ev"
    refine ⟨fun _ => ?_, fun z => by cases z⟩
    walk_at "ev"
    refine wp_roll d3 (by decide) (by decide) fun q h4 q0 q1 d4 _ n4 => ?_
    walk_at "ev"
    refine ⟨ns ++ [1 + q], by simp, by simp [li], fun x hx => ?_, d4, n4.trans n3⟩
    rcases List.mem_append.mp hx with hx | hx
    · exact Gs' x hx
    · rw [List.mem_singleton.mp hx]; omega
  · rintro acc h' ⟨ns, rfl, li, Gs', d3, n3⟩
    walk_at "ev"
    simp only [rItems, List.length_map, List.length_range] at li
    refine p ns h' (fun z => ?_) (by omega) Gs' d3 n3
    subst z
    simp only [List.length_nil] at li
    omega

theorem w17 (D : Dc h 0) (lt : told.length ≤ 5) (p : ∀ (ns : List Int) h', told.length = ns.length → (∀ x ∈ ns, 0 ≤ x) → Dc h' 0 → h'.nx = h.nx → N [t0, some (.box 0), t2, t3, some (.lst (told.map W.int)), some (.lst (ns.map W.int)), t6, t7, t8, t9, t10, t11, t12, t13, t14, t15, t16, t17, t18, t19, t20] h') : Ws (lw17 [t0, some (.box 0), t2, t3, some (.lst (told.map W.int)), t5, t6, t7, t8, t9, t10, t11, t12, t13, t14, t15, t16, t17, t18, t19, t20] h) N T B C E := by
  unfold lw17
  walk_at "ev"
  refine wp_lcLoopI (fun i acc h' => ∃ ns : List Int, acc = ns.map W.int ∧ ns.length = i ∧ (∀ x ∈ ns, 0 ≤ x) ∧ Dc h' 0 ∧ h'.nx = h.nx) ⟨[], rfl, rfl, (fun _ z => nomatch z), D, rfl⟩ (by simp; unfold sizeLine; omega) (fun _ _ _ _ _ => rfl) ?_ ?_
  · rintro i w acc h' e ⟨ns, rfl, li, Gs', d3, n3⟩
    walk_at "ev"
    refine ⟨fun _ => ?_, fun z => by cases z⟩
    walk_at "ev"
    refine wp_roll d3 (by decide) (by decide) fun q h4 q0 q1 d4 _ n4 => ?_
    refine ⟨ns ++ [q], by simp, by simp [li], fun x hx => ?_, d4, n4.trans n3⟩
    rcases List.mem_append.mp hx with hx | hx
    · exact Gs' x hx
    · rw [List.mem_singleton.mp hx]; omega
  · rintro acc h' ⟨ns, rfl, li, Gs', d3, n3⟩
    walk_at "ev"
    rw [List.length_map] at li
    exact p ns h' li.symm Gs' d3 n3

theorem w18 (lq : told.length = took.length) (ne : told ≠ []) (lt : told.length ≤ 5) (b1 : ∀ x ∈ told, 1 ≤ x ∧ x ≤ 9) (b2 : ∀ x ∈ took, 0 ≤ x) (p : N [t0, t1, t2, t3, some (.lst (told.map W.int)), some (.lst (took.map W.int)), t6, t7, t8, t9, t10, t11, t12, t13, t14, t15, t16, t17, t18, t19, t20] h) : Ws (lw18 [t0, t1, t2, t3, some (.lst (told.map W.int)), some (.lst (took.map W.int)), t6, t7, t8, t9, t10, t11, t12, t13, t14, t15, t16, t17, t18, t19, t20] h) N T B C E := by
  unfold lw18
  walk_at "ev"
  have ub : ∀ l : List Int, (∀ x ∈ l, x ≤ 9) → l.sum ≤ 9 * l.length := by
    intro l
    induction l with
    | nil => intro _; simp
    | cons x l ih =>
      intro hl
      have := ih fun y hy => hl y (List.mem_cons_of_mem _ hy)
      have := hl x List.mem_cons_self
      rw [List.sum_cons, List.length_cons]
      omega
  have u := ub told fun x hx => (b1 x hx).2
  have lo : 1 ≤ told.sum := by
    cases e : told with
    | nil => exact absurd e ne
    | cons x r =>
      rw [e] at b1
      have := le_sum (l := x :: r) (fun y hy => by have := b1 y hy; omega) x List.mem_cons_self
      have := b1 x List.mem_cons_self
      omega
  refine wp_eq (learned_eq lq ne (fun x hx => by have := b1 x hx; omega) b2 lo (by omega) (by omega)) ?_
  refine wp_ok ?_
  walk_at "ev"
  refine wp_eq (law_least_eq (by omega) (by omega)) ?_
  refine wp_ok (new_lst2 ?_)
  walk_at "ev"
  exact ws_neg (by decide) (ws_nil p)

theorem w19 (D : Dc h 0) (p : ∀ (ns : List Int) h', ns ≠ [] → ns.length ≤ 7 → (∀ x ∈ ns, 0 ≤ x ∧ x ≤ 5) → Dc h' 0 → h'.nx = h.nx → N [t0, some (.box 0), t2, t3, t4, t5, some (.lst (ns.map W.int)), t7, t8, t9, t10, t11, t12, t13, t14, t15, t16, t17, t18, t19, t20] h') : Ws (lw19 [t0, some (.box 0), t2, t3, t4, t5, t6, t7, t8, t9, t10, t11, t12, t13, t14, t15, t16, t17, t18, t19, t20] h) N T B C E := by
  unfold lw19
  walk_at "ev"
  refine wp_roll D (by decide) (by decide) fun r h2 r0 r1 d2 _ n2 => ?_
  walk_at "ev"
  refine ⟨by omega, ?_⟩
  refine wp_lcLoopI (fun i acc h' => ∃ ns : List Int, acc = ns.map W.int ∧ ns.length = i ∧ (∀ x ∈ ns, 0 ≤ x ∧ x ≤ 5) ∧ Dc h' 0 ∧ h'.nx = h.nx) ⟨[], rfl, rfl, (fun _ z => nomatch z), d2, n2⟩ (by simp [rItems]; unfold sizeLine; omega) (fun _ _ _ _ _ => rfl) ?_ ?_
  · rintro i w acc h' e ⟨ns, rfl, li, Gs', d3, n3⟩
    walk_at "ev"
    refine ⟨fun _ => ?_, fun z => by cases z⟩
    walk_at "ev"
    refine wp_roll d3 (by decide) (by decide) fun q h4 q0 q1 d4 _ n4 => ?_
    refine ⟨ns ++ [q], by simp, by simp [li], fun x hx => ?_, d4, n4.trans n3⟩
    rcases List.mem_append.mp hx with hx | hx
    · exact Gs' x hx
    · rw [List.mem_singleton.mp hx]; omega
  · rintro acc h' ⟨ns, rfl, li, Gs', d3, n3⟩
    walk_at "ev"
    simp only [rItems, List.length_map, List.length_range] at li
    refine p ns h' (fun z => ?_) (by omega) Gs' d3 n3
    subst z
    simp only [List.length_nil] at li
    omega

theorem w20 (ln : ns.length ≤ 7) (em : maxI (ns.map fun k => ((ns.count k : Nat) : Int)) = some m) (p : N [t0, t1, t2, t3, t4, t5, some (.lst (ns.map W.int)), some (.int m), t8, t9, t10, t11, t12, t13, t14, t15, t16, t17, t18, t19, t20] h) : Ws (lw20 [t0, t1, t2, t3, t4, t5, some (.lst (ns.map W.int)), t7, t8, t9, t10, t11, t12, t13, t14, t15, t16, t17, t18, t19, t20] h) N T B C E := by
  unfold lw20
  walk_at "ev"
  refine wp_lcI (fun _ => true) (fun k => .int (ns.count k : Nat)) (by unfold sizeLine; omega) rfl (fun k hk => ?_) ?_
  · walk_at "ev"
    refine ⟨rfl, fun _ => ?_, rfl⟩
    walk_at "ev"
    refine ⟨rfl, ?_⟩
    walk_at "ev"
    exact ⟨rfl, rfl⟩
  rw [List.filter_eq_self.mpr (fun _ _ => rfl), show ns.map (fun k => W.int ((ns.count k : Nat) : Int)) = (ns.map fun k => ((ns.count k : Nat) : Int)).map W.int by rw [List.map_map]; rfl]
  walk_at "ev"
  refine wp_max1 em ?_
  walk_at "ev"
  exact p

theorem w21 (ln : ns.length ≤ 7) (p : N [t0, t1, t2, t3, t4, t5, some (.lst (ns.map W.int)), some (.int m), some (.lst ((oftn ns m).map W.int)), t9, t10, t11, t12, t13, t14, t15, t16, t17, t18, t19, t20] h) : Ws (lw21 [t0, t1, t2, t3, t4, t5, some (.lst (ns.map W.int)), some (.int m), t8, t9, t10, t11, t12, t13, t14, t15, t16, t17, t18, t19, t20] h) N T B C E := by
  unfold lw21
  walk_at "ev"
  refine wp_lcI (fun k => decide ((ns.count k : Nat) = m)) W.int (by unfold sizeLine; omega) rfl (fun k hk => ?_) ?_
  · walk_at "ev"
    refine ⟨rfl, ?_⟩
    walk_at "ev"
    exact ⟨rfl, fun _ => wp_var rfl ⟨rfl, rfl⟩, rfl⟩
  walk_at "ev"
  exact p

theorem w22 (G : Gd g) {a b : Int} (ea : minI (oftn ns m) = some a) (eb : maxI (oftn ns m) = some b) (AG : ∀ {K : W → HS → Prop} {E : Nat → HS → Prop}, (∀ h', Ext h h' → h'.nx ≤ h.nx + 6 → K (.tup [.int a, .int b]) h') → Wp (f_agreed [.lst (ns.map W.int)] h) K E) (D : Dc h 0) (hp : 0 < h.nx) (p : ∀ h', Dc h' 0 → h.nx ≤ h'.nx → h'.nx ≤ h.nx + 12 → N [t0, t1, some (.int (((wl g).map (·.2)).sum)), t3, t4, t5, some (.lst (ns.map W.int)), t7, some (.lst ((oftn ns m).map W.int)), t9, t10, t11, t12, t13, t14, t15, t16, t17, t18, t19, t20] h') : Ws (lw22 [t0, t1, some (.int (((wl g).map (·.2)).sum)), t3, t4, t5, some (.lst (ns.map W.int)), t7, some (.lst ((oftn ns m).map W.int)), t9, t10, t11, t12, t13, t14, t15, t16, t17, t18, t19, t20] h) N T B C E := by
  unfold lw22
  walk_at "ev"
  refine AG fun h1 x1 n1 => ?_
  walk_at "ev"
  refine wp_min1 ea ?_
  walk_at "ev"
  refine wp_max1 eb ?_
  walk_at "ev"
  refine wp_sz (by simp [sizeLine]) ?_
  walk_at "ev"
  refine wp_new (b := true) (weq_tup rfl) ?_
  walk_at "ev"
  refine wp_neg (by decide) ?_
  walk_at "ev"
  refine wp_eq (least_eq (by decide) (by decide)) ?_
  refine wp_ok ?_
  walk_at "ev"
  refine wp_eq (law_least_eq (by decide) (by decide)) ?_
  refine wp_ok (new_lst2 ?_)
  walk_at "ev"
  exact ws_neg (by decide) (ws_nil (p h1 (D.ext x1 hp) x1.1 (by omega)))

theorem w23 (p : N [t0, t1, some (.int (((wl g).map (·.2)).sum)), t3, t4, t5, t6, t7, t8, t9, t10, t11, t12, t13, t14, t15, t16, t17, t18, t19, t20] h) : Ws (lw23 [t0, t1, some (.int (((wl g).map (·.2)).sum)), t3, t4, t5, t6, t7, t8, t9, t10, t11, t12, t13, t14, t15, t16, t17, t18, t19, t20] h) N T B C E := by
  unfold lw23
  walk_at "ev"
  refine wp_eq (least_eq (by decide) (by decide)) ?_
  refine wp_ok ?_
  walk_at "ev"
  refine wp_eq (law_least_eq (by decide) (by decide)) ?_
  refine wp_ok (new_lst2 ?_)
  walk_at "ev"
  exact ws_neg (by decide) (ws_nil p)

end K03
end

/-! Kx1 -/
section
set_option Elab.async false
set_option linter.all false
set_option maxRecDepth 100000
set_option maxHeartbeats 4000000
namespace K03
open PySem PySem.Spec L2 Pk
local macro_rules | `(tactic| walk_at "ev1") => `(tactic| with_reducible first
  | refine wp_var rfl ?_ | refine wp_c ?_ | refine wp_bin ?_ | refine wp_un ?_ | refine wp_asB ?_ | refine wp_tval ?_ | refine wp_chain_ll ?_ | refine wp_chain_tt ?_ | refine wp_chain ?_ | refine wp_tand ?_ | refine wp_tor ?_ | refine wp_tnot ?_
  | refine wp_and ?_ | refine wp_or ?_ | refine wp_not ?_ | refine wp_if ?_ | refine wp_anil ?_ | refine wp_acons ?_ | refine wp_tup ?_ | refine wp_lst ?_ | refine wp_mkLf ?_ | refine wp_mkLt ?_ | refine wp_mkDf ?_ | refine wp_mkDt ?_
  | refine wp_add ?_ | refine wp_sub ?_ | refine wp_neg' ?_ | refine wp_kadd ?_ | refine wp_ksub ?_ | refine wp_lt ?_ | refine wp_le ?_ | refine wp_gt ?_ | refine wp_ge ?_ | refine wp_eqi ?_ | refine wp_nei ?_ | refine wp_eqs ?_ | refine wp_nes ?_ | refine wp_eqb ?_ | refine wp_neb ?_
  | refine wp_is ?_ | refine wp_isN ?_ | refine wp_callB ?_ | refine wp_call ?_ | refine wp_go rfl ?_ | refine wp_meth ?_ | refine wp_make ?_ | refine wp_told ?_ | refine wp_get2 ?_
  | refine ws_nil ?_ | refine ws_seq ?_ | refine ws_expr ?_ | refine ws_ret ?_ | refine ws_retN ?_ | refine ws_if ?_ | refine ws_raise ?_ | refine ws_asgN ?_ | refine ws_asg ?_ | refine gp_n ?_ | refine gp_tup rfl ?_ | refine gp_cons ?_ | refine gp_nil ?_
  | refine ws_par ?_ | refine ws_par3 ?_ | refine ws_aug rfl ?_ | refine ws_fld ?_ | refine ws_sub ?_ | refine ws_del ?_ | refine ws_for ?_ | refine wp_lc ?_ | refine ip_seq ?_ | refine ip_r1 ?_ | refine ip_r2 ?_ | refine ip_r3 ?_
  | refine wp_tyes ?_ | refine wp_ok ?_ | refine wp_tupR ?_ | refine wp_zipL ?_ | refine tvT ?_ | refine tvK ?_ | refine wp_cut ?_ | refine wp_pno ?_ | refine wp_psome ?_ | refine wp_cutScr ?_ | refine wp_cutL ?_ | refine wp_cutT ?_ | refine wp_lenL ?_ | refine wp_lenT ?_ | refine wp_intI ?_ | refine wp_intB ?_ | refine wp_absI ?_ | refine wp_listT ?_ | refine wp_listL ?_ | refine wp_tupleL ?_ | refine wp_tupleT ?_ | refine wp_sumL ?_ | refine wp_any ?_ | refine wp_all ?_ | refine wp_sumG ?_ | refine wp_tupG ?_ | refine wp_bind ?_ | refine is1 ?_ | refine is2 ?_ | refine is3 ?_ | refine isI ?_ | refine isS ?_ | refine svL ?_ | refine svT ?_ | refine svK ?_ | refine lvL ?_ | refine wp_dnewT ?_ | refine wp_dnewF ?_ | refine wp_lm ?_ | refine wp_dc ?_ | refine wp_count ?_ | refine wp_chain3l ?_ | refine ip_items ?_ | refine ip_vals ?_ | refine ip_keysI ?_ | refine wp_vals ?_ | refine wp_sortItems ?_ | refine ip_enum ?_ | refine ip_txt ?_)
local macro_rules | `(tactic| walk_at "ev") => `(tactic| repeat walk_at "ev1")
variable {h : HS}
structure Gx (g : Gs) : Prop where
  a : 0 ≤ g.1
  b : g.1 ≤ g.2.1
  c : g.2.1 ≤ g.2.2
  w : g.2.2 - g.1 ≤ 60
  u : g.2.2 ≤ 1000
theorem check_eqX {g : Gs} (G : Gx g) : f_check_guess [gW g] h = .ok .non h := by
  obtain ⟨a, b, c, w, u⟩ := G
  refine eq_wp (wp_body ?_)
  unfold b_check_guess
  walk_at "ev"
  refine wp_lenT ?_
  walk_at "ev"
  refine wp_neg (by simp) ?_
  walk_at "ev"
  refine ixg rfl ?_
  walk_at "ev"
  refine wp_pos a ?_
  walk_at "ev"
  refine ixg rfl ?_
  walk_at "ev"
  refine wp_pos (by simpa using b) ?_
  walk_at "ev"
  refine ixg rfl ?_
  walk_at "ev"
  refine ws_neg (by simpa using c) ?_
  rfl
theorem wp_chancesX {g : Gs} (G : Gx g) {K : W → HS → Prop} {E : Nat → HS → Prop} (p : ∀ h', Ext h h' → h'.nx = h.nx + 1 → h'.at_ h.nx = some (.dic ((wl g).map kI) ((wl g).map vI)) → K (.box h.nx) h') : Wp (f_chances [gW g] h) K E := by
  have G0 := G
  obtain ⟨a, b, c, w, u⟩ := G
  refine wp_body ?_
  unfold b_chances
  walk_at "ev"
  refine wp_eq (check_eqX G0) ?_
  walk_at "ev"
  refine ws_neg (by simp; omega) ?_
  walk_at "ev"
  refine ⟨by omega, ?_⟩
  rw [rItems_one]
  refine ws_forP W.int (fun d sl h' => Ext h h' ∧ h'.nx = h.nx + 1 ∧ h'.at_ h.nx = some (.dic ((d.map fun d => (d, wt g d)).map kI) ((d.map fun d => (d, wt g d)).map vI)) ∧ ∃ t, sl = [some (gW g), some (.box h.nx), t, some (.int g.1), some (.int g.2.1), some (.int g.2.2)]) ⟨Ext.new h _, rfl, if_pos rfl, none, rfl⟩ (fun _ _ _ _ => rfl) ?_ ?_
  · rintro d n r sl h' e ⟨x, x2, x3, t, rfl⟩
    have hn := mem_iota.mp (show n ∈ iota g.1 (g.2.2 + 1 - g.1).toNat by rw [e]; simp)
    have nin : n ∉ ((d.map fun d => (d, wt g d)).map (·.1)) := by
      have nd : (iota g.1 (g.2.2 + 1 - g.1).toNat).Nodup := by
        unfold iota
        exact List.pairwise_map.mpr (List.nodup_range.imp fun {a b} h => by omega)
      rw [e] at nd
      rw [List.map_map]
      intro z
      have z : n ∈ d := by simpa using z
      exact (List.nodup_append.mp nd).2.2 _ z _ (by simp) rfl
    have nd0 : NdI (d.map fun d => (d, wt g d)) := by
      have nd := wl_nd g
      unfold wl gLen at nd
      rw [e, List.map_append] at nd
      unfold NdI at nd ⊢
      rw [List.map_append] at nd
      exact (List.nodup_append.mp nd).1
    have hl : (d.map fun d => (d, wt g d)).length < sizeLine := by
      have := congrArg List.length e
      simp only [iota, List.length_map, List.length_range, List.length_append, List.length_cons] at this
      rw [List.length_map]
      unfold sizeLine
      omega
    walk_at "ev"
    refine wp_mono (K := fun w h1 => w = .int (wt g n) ∧ h1 = h') (E := NoE) ?_ (fun w h1 ⟨e1, e2⟩ => ?_) (fun _ _ z => z.elim)
    · by_cases q : n ≤ g.2.1
      · refine wp_pos (by simpa using q) ?_
        walk_at "ev"
        refine wp_mul (.inl (by omega)) ⟨?_, rfl⟩
        exact congrArg W.int (if_pos q).symm
      · refine wp_neg (by simpa using q) ?_
        walk_at "ev"
        refine wp_mul (.inl (by omega)) ⟨?_, rfl⟩
        exact congrArg W.int (if_neg q).symm
    · subst e1; subst e2
      walk_at "ev"
      refine wp_setI x3 nd0 hl ?_
      refine ⟨x.put _ (Nat.le_refl _), x2, ?_, some (.int n), rfl⟩
      rw [putI_new nin, ← wl_snoc]
      exact if_pos rfl
  · rintro sl h' ⟨x, x2, x3, t, rfl⟩
    walk_at "ev"
    exact p h' x x2 x3

abbrev g0 : Gs := (0, 1, 60)
theorem gx0 : Gx g0 := ⟨by decide, by decide, by decide, by decide, by decide⟩
theorem wl0 {p : Int × Int} (hp : p ∈ wl g0) : 0 ≤ p.1 ∧ p.1 ≤ 60 ∧ 0 ≤ p.2 ∧ p.2 ≤ 1000 := by
  obtain ⟨d, hd, rfl⟩ := List.mem_map.mp hp
  have hd := mem_iota.mp hd
  have e : ((gLen g0 : Nat) : Int) = 61 := rfl
  rw [e] at hd
  have h1 : 0 ≤ d := hd.1
  have h2 : d ≤ 60 := by
    have : d < 0 + 61 := hd.2
    omega
  have hw : 0 ≤ wt g0 d ∧ wt g0 d ≤ 1000 := by
    show 0 ≤ (if d ≤ 1 then (d - 0 + 1) * (60 - 1 + 1) else (60 - d + 1) * (1 - 0 + 1)) ∧ (if d ≤ 1 then (d - 0 + 1) * (60 - 1 + 1) else (60 - d + 1) * (1 - 0 + 1)) ≤ 1000
    split <;> omega
  exact ⟨h1, h2, hw⟩
theorem wl0_mem {k : Int} (h1 : 0 ≤ k) (h2 : k ≤ 60) : ∃ v, (k, v) ∈ wl g0 := ⟨_, List.mem_map.mpr ⟨k, mem_iota.mpr ⟨h1, by
  have e : ((gLen g0 : Nat) : Int) = 61 := rfl
  rw [e]
  show k < 0 + 61
  omega⟩, rfl⟩⟩
structure Fx0 (n : Nat) (ps : List (Int × Int)) : Prop where
  nd : NdI ps
  key : ∀ k, k ∈ ps.map (·.1) ↔ (0 ≤ k ∧ k ≤ 60 * (n : Int))
theorem fx_0 : Fx0 0 [(0, 1)] := ⟨by unfold NdI; simp, fun k => by simp; omega⟩
theorem fx_cmb {n : Nat} {ps : List (Int × Int)} (F : Fx0 n ps) : ∀ x ∈ cmb opS ps (wl g0), 0 ≤ x.1 ∧ x.1 ≤ 60 * ((n + 1 : Nat) : Int) := fun x hx => by
  obtain ⟨p, hp, q, hq, rfl⟩ := mem_cmb hx
  have a := (F.key p.1).mp (List.mem_map.mpr ⟨p, hp, rfl⟩)
  have b := wl0 hq
  show 0 ≤ p.1 + q.1 ∧ p.1 + q.1 ≤ _
  omega
theorem fx_s {n : Nat} {ps : List (Int × Int)} (F : Fx0 n ps) : Fx0 (n + 1) (accI (cmb opS ps (wl g0))) := by
  refine ⟨accI_nd _, fun k => ⟨fun h => ?_, fun h => ?_⟩⟩
  · obtain ⟨p, hp, rfl⟩ := List.mem_map.mp h
    obtain ⟨a, _⟩ := mem_acc.mp hp
    obtain ⟨x, hx, e⟩ := List.mem_map.mp a
    rw [← e]
    exact fx_cmb F x hx
  · obtain ⟨a, ha1, ha2, hb1, hb2⟩ : ∃ a : Int, 0 ≤ a ∧ a ≤ 60 * (n : Int) ∧ 0 ≤ k - a ∧ k - a ≤ 60 := by
      by_cases c : k ≤ 60 * (n : Int)
      · exact ⟨k, h.1, c, by omega, by omega⟩
      · exact ⟨60 * n, by omega, by omega, by omega, by omega⟩
    obtain ⟨p, hp, e⟩ := List.mem_map.mp ((F.key a).mpr ⟨ha1, ha2⟩)
    obtain ⟨v, hv⟩ := wl0_mem hb1 hb2
    have hk : k ∈ (cmb opS ps (wl g0)).map (·.1) := by
      refine List.mem_map.mpr ⟨(opS p.1 (k - a), p.2 * v), ?_, ?_⟩
      · unfold cmb
        exact List.mem_flatMap.mpr ⟨p, hp, List.mem_map.mpr ⟨_, hv, rfl⟩⟩
      · have e : p.1 = a := e
        show p.1 + (k - a) = k
        omega
    exact List.mem_map.mpr ⟨(k, totI (cmb opS ps (wl g0)) k), mem_acc.mpr ⟨hk, rfl⟩, rfl⟩
theorem fx_len {n : Nat} {ps : List (Int × Int)} (F : Fx0 n ps) : ps.length = 60 * n + 1 := by
  have h1 := List.Nodup.length_le_of_subset (l₁ := ps.map (·.1)) (l₂ := iota 0 (60 * n + 1)) (show (ps.map (·.1)).Nodup from F.nd) fun k hk => by
    have := (F.key k).mp hk
    exact mem_iota.mpr ⟨this.1, by omega⟩
  have h2 := List.Nodup.length_le_of_subset (l₁ := iota 0 (60 * n + 1)) (l₂ := ps.map (·.1)) (by unfold iota; exact List.pairwise_map.mpr (List.nodup_range.imp fun {a b} h => by omega)) fun k hk => by
    have := mem_iota.mp hk
    exact (F.key k).mpr ⟨this.1, by omega⟩
  simp only [iota, List.length_map, List.length_range] at h1 h2
  omega
theorem fx_found : ∀ (d : List Gs), (∀ x ∈ d, x = g0) → Fx0 d.length (foundG opS d) := by
  have key : ∀ (d : List Gs) (n : Nat) (ps : List (Int × Int)), (∀ x ∈ d, x = g0) → Fx0 n ps → Fx0 (n + d.length) (d.foldl (fun ps g => accI (cmb opS ps (wl g))) ps) := by
    intro d
    induction d with
    | nil => intro n ps _ F; exact F
    | cons g d ih =>
      intro n ps hd F
      rw [List.foldl_cons, List.length_cons, show n + (d.length + 1) = n + 1 + d.length by omega]
      refine ih (n + 1) _ (fun x hx => hd x (List.mem_cons_of_mem _ hx)) ?_
      rw [hd g List.mem_cons_self]
      exact fx_s F
  intro d hd
  have := key d 0 _ hd fx_0
  rwa [Nat.zero_add] at this
theorem wp_wide {gs : List Gs} (hg : gs = List.replicate 6 g0) {K : W → HS → Prop} {E : Nat → HS → Prop} (p : ∀ h', h'.nx = h.nx + 10 → E 1 h') : Wp (f_together [.tup (gs.map gW)] h) K E := by
  refine wp_body ?_
  unfold b_together
  refine ws_seq (ws_asgN (wp_eq (show eDisp false [((eC (.int 0)), (eC (.int 1)))] _ h = .ok (.dic ([(0, 1)].map kI) ([(0, 1)].map vI)) h from rfl) (wp_ok ?_)))
  walk_at "ev"
  refine ws_forP gW (fun d sl h' => Ext h h' ∧ ∃ F t2 t4 t5 t6 t7 t10 t11, sl = [some (.tup (gs.map gW)), some F, t2, none, t4, t5, t6, t7, none, none, t10, t11] ∧ Dv h' F (foundG opS d) ∧ (∀ m, F = .box m → h.nx ≤ m ∧ m < h'.nx) ∧ h'.nx = h.nx + 2 * d.length ∧ d.length ≤ 4) ?_ (fun _ _ _ _ => rfl) ?_ ?_
  · exact ⟨Ext.refl h, _, none, none, none, none, none, none, none, rfl, rfl, (fun m e => by cases e), rfl, by decide⟩
  · rintro d g r sl h1 e ⟨x1, F, t2, t4, t5, t6, t7, t10, t11, rfl, fd, fb, fx, f4⟩
    have ga : ∀ x ∈ gs, x = g0 := fun x hx => by rw [hg] at hx; exact List.eq_of_mem_replicate hx
    obtain rfl : g = g0 := ga g (by rw [e]; simp)
    have FF := fx_found d fun x hx => ga x (by rw [e]; simp [hx])
    have kk : ∀ x ∈ cmb opS (foundG opS d) (wl g0), 0 ≤ x.1 ∧ x.1 ≤ 20 * ((3 * (d.length + 1) : Nat) : Int) := fun x hx => by
      have := fx_cmb FF x hx
      omega
    walk_at "ev"
    refine wp_chancesX gx0 fun h2 x2 n2 a2 => ?_
    walk_at "ev"
    refine ip_items (sg := foundG opS d) ?_
    walk_at "ev"
    have c0 : Cx0 h (h2.new (.dic [] [])) F (foundG opS d) h1.nx h2.nx (wl g0) [] := by
      have b1 : ∀ m, m < h2.nx → (h2.new (.dic [] [])).at_ m = h2.at_ m := fun m hm => if_neg (Nat.ne_of_lt hm)
      have dvo : ∀ m, m < h1.nx → dview (h2.new (.dic [] [])) (.box m) = dview h1 (.box m) := fun m hm => by
        rw [dview_b, dview_b, b1 m (by omega), x2.2 m hm]
      refine ⟨x1.trans (x2.trans (Ext.new h2 _)), ?_, fun m e => ?_, ?_, ?_, if_pos rfl, ?_⟩
      · cases F with
        | box m => exact (dvo m (fb m rfl).2).trans fd
        | dic ks ws => exact fd
        | _ => cases fd
      · have := fb m e
        have := x1.1
        show _ ∧ m < h2.nx + 1 ∧ _
        omega
      · unfold Dv
        rw [dview_b, b1 _ (by omega), a2]
        rfl
      · have := x1.1
        show _ ∧ h1.nx < h2.nx + 1 ∧ _
        omega
      · have := x1.1
        show _ ∧ h2.nx < h2.nx + 1
        omega
    refine ⟨c0.f, ?_⟩
    refine ws_forP prI (fun dd sl h' => Cx0 h h' F (foundG opS d) h1.nx h2.nx (wl g0) (cmb opS dd (wl g0)) ∧ h'.nx = h2.nx + 1 ∧ ∃ t4 t7 t10 t11, sl = [some (.tup (gs.map gW)), some F, some (gW g0), none, t4, some (.box h1.nx), some (.box h2.nx), t7, none, none, t10, t11]) ⟨c0.lkF, nx_lk, t4, t7, t10, t11, rfl⟩ (fun _ _ _ _ => rfl) ?_ ?_
    · rintro dd q rr sl h3 e3 ⟨c3, x3, t4, t7, t10, t11, rfl⟩
      obtain ⟨q1, q2⟩ := q
      walk_at "ev"
      refine ip_items (sg := wl g0) ?_
      walk_at "ev"
      refine ⟨c3.td, ?_⟩
      refine ws_forP prI (fun ee sl h' => Cx0 h h' F (foundG opS d) h1.nx h2.nx (wl g0) (cmb opS dd (wl g0) ++ ee.map fun z => (opS q1 z.1, q2 * z.2)) ∧ h'.nx = h2.nx + 1 ∧ ∃ t10 t11, sl = [some (.tup (gs.map gW)), some F, some (gW g0), none, some (.int q2), some (.box h1.nx), some (.box h2.nx), some (.int q1), none, none, t10, t11]) ⟨by rw [List.map_nil, List.append_nil]; exact c3.lkT, nx_lk.trans x3, t10, t11, rfl⟩ (fun _ _ _ _ => rfl) ?_ ?_
      · rintro ee z r2 sl h4 e4 ⟨c4, x4, t10, t11, rfl⟩
        obtain ⟨z1, z2⟩ := z
        have hz := wl0 (p := (z1, z2)) (by rw [e4]; simp)
        obtain ⟨nd4, l4⟩ := pre_key (n := 3 * (d.length + 1)) (p := (q1, q2)) kk e3 e4
        have l4 : (accI (cmb opS dd (wl g0) ++ ee.map fun z => (opS q1 z.1, q2 * z.2))).length ≤ 20 * (3 * (d.length + 1)) + 1 := l4
        walk_at "ev"
        refine ⟨⟨_, dview_box c4.na⟩, ?_⟩
        walk_at "ev"
        refine ⟨_, dget_I (dview_box c4.na) (q1 + z1), ?_⟩
        rw [getD_int]
        walk_at "ev"
        refine wp_mul (.inr (by have := hz.2.2; simp only at this; omega)) ?_
        walk_at "ev"
        refine wp_setI c4.na nd4 (by unfold sizeLine; omega) ?_
        refine ⟨?_, x4, some (.int z1), some (.int z2), rfl⟩
        have := c4.add (q1 + z1) (q2 * z2)
        rw [List.append_assoc] at this
        rw [List.map_append]
        exact this
      · rintro sl h4 ⟨c4, x4, t10, t11, rfl⟩
        refine ⟨?_, x4, some (.int q2), some (.int q1), t10, t11, rfl⟩
        rw [cmb_snoc]
        exact c4
    · rintro sl h3 ⟨c3, x3, t4, t7, t10, t11, rfl⟩
      have FS := fx_s FF
      have fl := fx_len FS
      have ef : foundG opS (d ++ [g0]) = accI (cmb opS (foundG opS d) (wl g0)) := by unfold foundG; rw [List.foldl_append]; rfl
      walk_at "ev"
      refine wp_lenD (dview_box c3.na) (fun z e => by cases e) (dv_sview (sg := accI (cmb opS (foundG opS d) (wl g0))) (dview_box c3.na)) (fun z => by rw [z] at fl; simp at fl) ?_
      walk_at "ev"
      by_cases c : d.length = 4
      · refine ws_pos (by simp; omega) ?_
        walk_at "ev"
        exact p h3 (by rw [x3, n2, fx, c])
      refine ws_neg (by simp; omega) (ws_nil ?_)
      walk_at "ev"
      refine ⟨c3.ext, .box h2.nx, _, _, _, _, _, _, _, rfl, by rw [ef]; exact dview_box c3.na, (fun m e => ?_), ?_, by simp; omega⟩
      · cases e
        exact c3.nn
      · rw [List.length_append, x3, n2, fx]
        simp
        omega
  · rintro sl h1 ⟨x1, F, t2, t4, t5, t6, t7, t10, t11, rfl, fd, fb, fx, f4⟩
    rw [hg] at f4
    simp at f4

end K03
end

/-! Kx2 -/
section
set_option Elab.async false
set_option linter.all false
set_option maxRecDepth 100000
set_option maxHeartbeats 4000000
namespace K03
open PySem PySem.Spec L2 Pk
local macro_rules | `(tactic| walk_at "ev1") => `(tactic| with_reducible first
  | refine wp_var rfl ?_ | refine wp_c ?_ | refine wp_bin ?_ | refine wp_un ?_ | refine wp_asB ?_ | refine wp_tval ?_ | refine wp_chain_ll ?_ | refine wp_chain_tt ?_ | refine wp_chain ?_ | refine wp_tand ?_ | refine wp_tor ?_ | refine wp_tnot ?_
  | refine wp_and ?_ | refine wp_or ?_ | refine wp_not ?_ | refine wp_if ?_ | refine wp_anil ?_ | refine wp_acons ?_ | refine wp_tup ?_ | refine wp_lst ?_ | refine wp_mkLf ?_ | refine wp_mkLt ?_ | refine wp_mkDf ?_ | refine wp_mkDt ?_
  | refine wp_add ?_ | refine wp_sub ?_ | refine wp_neg' ?_ | refine wp_kadd ?_ | refine wp_ksub ?_ | refine wp_lt ?_ | refine wp_le ?_ | refine wp_gt ?_ | refine wp_ge ?_ | refine wp_eqi ?_ | refine wp_nei ?_ | refine wp_eqs ?_ | refine wp_nes ?_ | refine wp_eqb ?_ | refine wp_neb ?_
  | refine wp_is ?_ | refine wp_isN ?_ | refine wp_callB ?_ | refine wp_call ?_ | refine wp_go rfl ?_ | refine wp_meth ?_ | refine wp_make ?_ | refine wp_told ?_ | refine wp_get2 ?_
  | refine ws_nil ?_ | refine ws_seq ?_ | refine ws_expr ?_ | refine ws_ret ?_ | refine ws_retN ?_ | refine ws_if ?_ | refine ws_raise ?_ | refine ws_asgN ?_ | refine ws_asg ?_ | refine gp_n ?_ | refine gp_tup rfl ?_ | refine gp_cons ?_ | refine gp_nil ?_
  | refine ws_par ?_ | refine ws_par3 ?_ | refine ws_aug rfl ?_ | refine ws_fld ?_ | refine ws_sub ?_ | refine ws_del ?_ | refine ws_for ?_ | refine wp_lc ?_ | refine ip_seq ?_ | refine ip_r1 ?_ | refine ip_r2 ?_ | refine ip_r3 ?_
  | refine wp_tyes ?_ | refine wp_ok ?_ | refine wp_tupR ?_ | refine wp_zipL ?_ | refine tvT ?_ | refine tvK ?_ | refine wp_cut ?_ | refine wp_pno ?_ | refine wp_psome ?_ | refine wp_cutScr ?_ | refine wp_cutL ?_ | refine wp_cutT ?_ | refine wp_lenL ?_ | refine wp_lenT ?_ | refine wp_intI ?_ | refine wp_intB ?_ | refine wp_absI ?_ | refine wp_listT ?_ | refine wp_listL ?_ | refine wp_tupleL ?_ | refine wp_tupleT ?_ | refine wp_sumL ?_ | refine wp_any ?_ | refine wp_all ?_ | refine wp_sumG ?_ | refine wp_tupG ?_ | refine wp_bind ?_ | refine is1 ?_ | refine is2 ?_ | refine is3 ?_ | refine isI ?_ | refine isS ?_ | refine svL ?_ | refine svT ?_ | refine svK ?_ | refine lvL ?_ | refine wp_dnewT ?_ | refine wp_dnewF ?_ | refine wp_lm ?_ | refine wp_dc ?_ | refine wp_count ?_ | refine wp_chain3l ?_ | refine ip_items ?_ | refine ip_vals ?_ | refine ip_keysI ?_ | refine wp_vals ?_ | refine wp_sortItems ?_ | refine ip_enum ?_ | refine ip_txt ?_)
local macro_rules | `(tactic| walk_at "ev") => `(tactic| repeat walk_at "ev1")
def pl_L1 : List Ex := [(eCall 1 f_check_guess [] (aCons (eTup (aCons (eC (.int 1)) (aCons (eC (.int 2)) aNil))) aNil)), (eCall 1 f_check_guess [] (aCons (eTup (aCons (eUn wNeg (eC (.int 1))) (aCons (eC (.int 2)) (aCons (eC (.int 3)) aNil)))) aNil)), (eCall 1 f_check_guess [] (aCons (eTup (aCons (eC (.int 3)) (aCons (eC (.int 2)) (aCons (eC (.int 4)) aNil)))) aNil)), (eCall 1 f_check_guess [] (aCons (eTup (aCons (eC (.int 1)) (aCons (eC (.int 5)) (aCons (eC (.int 4)) aNil)))) aNil)), (eCall 1 f_mean_of [] (aCons (eTup (aCons (eC (.int 2)) (aCons (eC (.int 1)) (aCons (eC (.int 3)) aNil)))) aNil)), (eCall 1 f_spread_of [] (aCons (eTup (aCons (eC (.int 2)) (aCons (eC (.int 1)) (aCons (eC (.int 3)) aNil)))) aNil)), (eCall 1 f_sum_of [] (aCons (eTup (aCons (eTup (aCons (eC (.int 2)) (aCons (eC (.int 1)) (aCons (eC (.int 3)) aNil)))) aNil)) aNil)), (eCall 1 f_chances [] (aCons (eTup (aCons (eC (.int 0)) (aCons (eC (.int 1)) (aCons (eC (.int 61)) aNil)))) aNil)), (eCall 2 f_chance_by [] (aCons (eTup (aCons (eC (.int 2)) (aCons (eC (.int 1)) (aCons (eC (.int 3)) aNil)))) (aCons (eC (.int 1)) aNil))), (eCall 2 f_day_for [] (aCons (eVar 0) (aCons (eC (.int 0)) aNil))), (eCall 2 f_day_for [] (aCons (eVar 0) (aCons (eC (.int 101)) aNil)))]
def pl_tog : Ex := (eCall 1 f_together [] (aCons (eBin (wMul false) (eTup (aCons (eTup (aCons (eC (.int 0)) (aCons (eC (.int 1)) (aCons (eC (.int 60)) aNil)))) aNil)) (eC (.int 6))) aNil))
def pl_L2 : List Ex := [(eCall 1 f_later_of [] (aCons (eTup (aCons (eTup (aCons (eC (.int 0)) (aCons (eC (.int 1)) (aCons (eC (.int 61)) aNil)))) aNil)) aNil)), (eCall 1 f_mean_in [] (aCons (eDnew false) aNil)), (eCall 1 f_mean_in [] (aCons (eDisp false [((eC (.int 1)), (eC (.int 0)))]) aNil)), (eCall 2 f_learned [] (aCons (eTup aNil) (aCons (eTup aNil) aNil))), (eCall 2 f_learned [] (aCons (eTup (aCons (eC (.int 1)) aNil)) (aCons (eTup aNil) aNil))), (eCall 2 f_learned [] (aCons (eTup (aCons (eC (.int 0)) aNil)) (aCons (eTup (aCons (eC (.int 1)) aNil)) aNil))), (eCall 2 f_learned [] (aCons (eTup (aCons (eC (.int 1)) aNil)) (aCons (eTup (aCons (eUn wNeg (eC (.int 1))) aNil)) aNil))), (eCall 1 f_agreed [] (aCons (eTup aNil) aNil))]
def pl_t : Tx := (tOrx (tVal (eBin wNe (eCall 1 f_mean_of [] (aCons (eVar 0) aNil)) (eTup (aCons (eC (.int 9)) (aCons (eC (.int 2)) aNil))))) (tOrx (tVal (eBin wNe (eCall 1 f_spread_of [] (aCons (eVar 0) aNil)) (eTup (aCons (eC (.int 49)) (aCons (eC (.int 36)) aNil))))) (tOrx (tVal (eBin wNe (eCall 1 f_sum_of [] (aCons (eTup (aCons (eVar 0) (aCons (eVar 0) aNil))) aNil)) (eTup (aCons (eTup (aCons (eC (.int 9)) (aCons (eC (.int 1)) aNil))) (aCons (eTup (aCons (eC (.int 49)) (aCons (eC (.int 18)) aNil))) aNil))))) (tVal (eBin wNe (eCall 1 f_chances [] (aCons (eVar 0) aNil)) (eDisp false [((eC (.int 2)), (eC (.int 6))), ((eC (.int 3)), (eC (.int 12))), ((eC (.int 4)), (eC (.int 18))), ((eC (.int 5)), (eC (.int 15))), ((eC (.int 6)), (eC (.int 12))), ((eC (.int 7)), (eC (.int 9))), ((eC (.int 8)), (eC (.int 6))), ((eC (.int 9)), (eC (.int 3)))]))))))
def pl_r : Sx := (sSeq (sIf (tNotx (tAndx (tVal (eBin wEq (eCall 2 f_chance_by [] (aCons (eVar 0) (aCons (eC (.int 4)) aNil))) (eTup (aCons (eC (.int 4)) (aCons (eC (.int 9)) aNil))))) (tVal (eBin wEq (eCall 2 f_day_for [] (aCons (eVar 0) (aCons (eC (.int 80)) aNil))) (eC (.int 7)))))) (sRet (eC (.bl false))) sNil) (sRet (eAnd (eBin wEq (eCall 1 f_together [] (aCons (eTup (aCons (eTup (aCons (eC (.int 1)) (aCons (eC (.int 1)) (aCons (eC (.int 2)) aNil)))) (aCons (eTup (aCons (eC (.int 0)) (aCons (eC (.int 1)) (aCons (eC (.int 1)) aNil)))) aNil))) aNil)) (eDisp false [((eC (.int 1)), (eC (.int 2))), ((eC (.int 2)), (eC (.int 5))), ((eC (.int 3)), (eC (.int 2)))])) (eAnd (eBin wEq (eCall 1 f_later_of [] (aCons (eTup (aCons (eTup (aCons (eC (.int 1)) (aCons (eC (.int 1)) (aCons (eC (.int 2)) aNil)))) (aCons (eTup (aCons (eC (.int 0)) (aCons (eC (.int 1)) (aCons (eC (.int 1)) aNil)))) aNil))) aNil)) (eDisp false [((eC (.int 1)), (eC (.int 2))), ((eC (.int 2)), (eC (.int 1)))])) (eAnd (eBin wEq (eCall 1 f_mean_in [] (aCons (eDisp false [((eC (.int 1)), (eC (.int 1))), ((eC (.int 2)), (eC (.int 3)))]) aNil)) (eTup (aCons (eC (.int 7)) (aCons (eC (.int 4)) aNil)))) (eAnd (eBin wEq (eCall 2 f_learned [] (aCons (eTup (aCons (eC (.int 4)) (aCons (eC (.int 6)) aNil))) (aCons (eTup (aCons (eC (.int 6)) (aCons (eC (.int 9)) aNil))) aNil))) (eTup (aCons (eC (.int 3)) (aCons (eC (.int 2)) aNil)))) (eAnd (eBin wEq (eCall 1 f_agreed [] (aCons (eTup (aCons (eC (.int 3)) (aCons (eC (.int 5)) (aCons (eC (.int 3)) (aCons (eC (.int 5)) (aCons (eC (.int 8)) aNil)))))) aNil)) (eTup (aCons (eC (.int 3)) (aCons (eC (.int 5)) aNil)))) (eAnd (eBin wEq (eCall 1 f_together [] (aCons (eTup aNil) aNil)) (eDisp false [((eC (.int 0)), (eC (.int 1)))])) (eAnd (eBin wEq (eCall 1 f_later_of [] (aCons (eTup aNil) aNil)) (eDisp false [((eC (.int 0)), (eC (.int 1)))])) (eAnd (eBin wEq (eCall 1 f_sum_of [] (aCons (eTup aNil) aNil)) (eTup (aCons (eTup (aCons (eC (.int 0)) (aCons (eC (.int 1)) aNil))) (aCons (eTup (aCons (eC (.int 0)) (aCons (eC (.int 1)) aNil))) aNil)))) (eBin wEq (eCall 1 f_chances [] (aCons (eTup (aCons (eC (.int 3)) (aCons (eC (.int 3)) (aCons (eC (.int 3)) aNil)))) aNil)) (eDisp false [((eC (.int 3)), (eC (.int 1)))]))))))))))))
theorem b_plain_eq : b__law_plain = (sSeq (sAsg (eTup (aCons (eC (.int 2)) (aCons (eC (.int 4)) (aCons (eC (.int 9)) aNil)))) (gN 0)) (sSeq (sBad 1) (sSeq (sIf (tOrx (tVal (eBin wNe (eBads false [1] (pl_L1 ++ pl_tog :: pl_L2)) (eLst false aNil))) pl_t) (sRet (eC (.bl false))) sNil) pl_r))) := rfl

variable {h : HS} {es : List Nat} {sl : Sl}
theorem badL_app : ∀ (a b : List Ex) (h : HS), badL es sl (a ++ b) h = (badL es sl a h).bind fun _ h1 => badL es sl b h1
  | [], _, _ => rfl
  | m :: a, b, h => by
    show (match m sl h with
      | .exc c h1 => if es.contains c then badL es sl (a ++ b) h1 else .no
      | _ => .no) = _
    rw [show badL es sl (m :: a) h = (match m sl h with
      | .exc c h1 => if es.contains c then badL es sl a h1 else .no
      | _ => .no) from rfl]
    cases m sl h with
    | ok _ _ => rfl
    | no => rfl
    | exc c h1 =>
      show (if es.contains c then badL es sl (a ++ b) h1 else .no) = (if es.contains c then badL es sl a h1 else .no).bind _
      by_cases q : es.contains c = true
      · rw [if_pos q, if_pos q]
        exact badL_app a b h1
      · rw [if_neg q, if_neg q]
        rfl
theorem wp_bads {ms : List Ex} {K : W → HS → Prop} {E : Nat → HS → Prop} (p : Wp (badL es sl ms h) (fun _ h1 => K (.lst []) h1) E) : Wp (eBads false es ms sl h) K E := wp_bind p
theorem wp_badC {m : Ex} {ms : List Ex} {K : Unit → HS → Prop} {E : Nat → HS → Prop} (p : Wp (m sl h) (fun _ _ => False) (fun c h1 => es.contains c = true ∧ Wp (badL es sl ms h1) K E)) : Wp (badL es sl (m :: ms) h) K E := by
  unfold badL
  cases e : m sl h with
  | ok _ _ => rw [e] at p; exact p.elim
  | no => rw [e] at p; exact p.elim
  | exc c h1 =>
    rw [e] at p
    obtain ⟨p1, p2⟩ := p
    show Wp (if es.contains c then badL es sl ms h1 else .no) K E
    rw [if_pos p1]
    exact p2
/-- so it ends, and the next box bears that number -/
def okN {α : Type} (r : R α) (n : Nat) : Bool := match r with
  | .ok _ h => h.nx == n
  | _ => false
theorem okN_wp {α : Type} {r : R α} {n : Nat} {K : α → HS → Prop} {E : Nat → HS → Prop} (e : okN r n = true) (p : ∀ h w, h.nx = n → K w h) : Wp r K E := by
  unfold okN at e
  split at e
  · rename_i w h
    exact p h w (beq_iff_eq.mp e)
  · cases e
def okF (r : R Bool) (n : Nat) : Bool := match r with
  | .ok false h => h.nx == n
  | _ => false
theorem okF_wp {r : R Bool} {n : Nat} {K : Bool → HS → Prop} {E : Nat → HS → Prop} (e : okF r n = true) (p : ∀ h, h.nx = n → K false h) : Wp r K E := by
  unfold okF at e
  split at e
  · rename_i h
    exact p h (beq_iff_eq.mp e)
  · cases e
def okR (r : RS) : Bool := match r with
  | .rt (.bl true) _ => true
  | _ => false
theorem okR_ws {r : RS} {N : Sl → HS → Prop} {T : W → HS → Prop} {B C : Sl → HS → Prop} {E : Nat → HS → Prop} (e : okR r = true) (p : ∀ h, T (.bl true) h) : Ws r N T B C E := by
  unfold okR at e
  split at e
  · exact p _
  · cases e
def slP : Sl := [some (.tup [.int 2, .int 4, .int 9]), none, none]
theorem pl_a (at_ : Nat → Option Ct) : okN (badL [1] slP pl_L1 ⟨at_, padN⟩) padN = true := by kernel_rfl
theorem pl_b (at_ : Nat → Option Ct) : okN (badL [1] slP pl_L2 ⟨at_, 1000000010⟩) 1000000010 = true := by kernel_rfl
theorem pl_c (at_ : Nat → Option Ct) : okF (pl_t slP ⟨at_, 1000000010⟩) 1000000011 = true := by kernel_rfl
theorem pl_d (at_ : Nat → Option Ct) : okR (pl_r slP ⟨at_, 1000000011⟩) = true := by kernel_rfl
theorem eh {h : HS} {n : Nat} (e : h.nx = n) : h = ⟨h.at_, n⟩ := by cases h; cases e; rfl
theorem mul6 {x : W} : wMul false (.tup [x]) (.int 6) h = .ok (.tup [x, x, x, x, x, x]) h := rfl
theorem tog_wp {K : W → HS → Prop} {E : Nat → HS → Prop} (p : ∀ h', h'.nx = h.nx + 10 → E 1 h') : Wp (pl_tog slP h) K E := by
  unfold pl_tog
  walk_at "ev"
  refine wp_sz (by simp [sizeLine]) ?_
  walk_at "ev"
  refine wp_sz (by simp [sizeLine]) ?_
  walk_at "ev"
  refine wp_eq mul6 (wp_ok ?_)
  walk_at "ev"
  exact wp_wide (gs := [g0, g0, g0, g0, g0, g0]) rfl p
theorem plain_wp (hp : h.nx = padN) : Wp (f__law_plain [] h) (fun w _ => w = .bl true) NoE := by
  refine wp_body ?_
  rw [b_plain_eq]
  walk_at "ev"
  refine wp_sz (by simp [sizeLine]) ?_
  refine wp_ok ?_
  refine (show Ws (sSeq (sBad 1) _ slP h) _ _ _ _ _ from ?_)
  refine ws_seq (show Ws (.nx slP h) _ _ _ _ _ from ?_)
  refine ws_nx ?_
  refine ws_seq (ws_if (wp_tor (wp_tval (wp_bin (wp_bads ?_)))))
  rw [badL_app]
  refine wp_bind (okN_wp (n := padN) (by rw [eh hp]; exact pl_a _) fun h1 _ e1 => ?_)
  refine wp_badC (tog_wp fun h2 e2 => ⟨rfl, ?_⟩)
  have e2 : h2.nx = 1000000010 := by rw [e2, e1]; rfl
  refine okN_wp (n := 1000000010) (by rw [eh e2]; exact pl_b _) fun h3 _ e3 => ?_
  walk_at "ev"
  refine wp_sz (by simp [sizeLine]) ?_
  walk_at "ev"
  refine wp_new (b := true) (weq_lst rfl) ?_
  walk_at "ev"
  refine wp_neg (by decide) ?_
  refine okF_wp (n := 1000000011) (by rw [eh e3]; exact pl_c _) fun h4 e4 => ?_
  refine ws_neg (by decide) (ws_nil ?_)
  exact okR_ws (by rw [eh e4]; exact pl_d _) fun _ => rfl

end K03
end

/-! Kv3 -/
section
set_option Elab.async false
set_option linter.all false
set_option maxRecDepth 100000
set_option maxHeartbeats 4000000
namespace K03
open PySem PySem.Spec L2 Pk
local macro_rules | `(tactic| walk_at "ev1") => `(tactic| with_reducible first
  | refine wp_var rfl ?_ | refine wp_c ?_ | refine wp_bin ?_ | refine wp_un ?_ | refine wp_asB ?_ | refine wp_tval ?_ | refine wp_chain_ll ?_ | refine wp_chain_tt ?_ | refine wp_chain ?_ | refine wp_tand ?_ | refine wp_tor ?_ | refine wp_tnot ?_
  | refine wp_and ?_ | refine wp_or ?_ | refine wp_not ?_ | refine wp_if ?_ | refine wp_anil ?_ | refine wp_acons ?_ | refine wp_tup ?_ | refine wp_lst ?_ | refine wp_mkLf ?_ | refine wp_mkLt ?_ | refine wp_mkDf ?_ | refine wp_mkDt ?_
  | refine wp_add ?_ | refine wp_sub ?_ | refine wp_neg' ?_ | refine wp_kadd ?_ | refine wp_ksub ?_ | refine wp_lt ?_ | refine wp_le ?_ | refine wp_gt ?_ | refine wp_ge ?_ | refine wp_eqi ?_ | refine wp_nei ?_ | refine wp_eqs ?_ | refine wp_nes ?_ | refine wp_eqb ?_ | refine wp_neb ?_
  | refine wp_is ?_ | refine wp_isN ?_ | refine wp_callB ?_ | refine wp_call ?_ | refine wp_go rfl ?_ | refine wp_meth ?_ | refine wp_make ?_ | refine wp_told ?_ | refine wp_get2 ?_
  | refine ws_nil ?_ | refine ws_seq ?_ | refine ws_expr ?_ | refine ws_ret ?_ | refine ws_retN ?_ | refine ws_if ?_ | refine ws_raise ?_ | refine ws_asgN ?_ | refine ws_asg ?_ | refine gp_n ?_ | refine gp_tup rfl ?_ | refine gp_cons ?_ | refine gp_nil ?_
  | refine ws_par ?_ | refine ws_par3 ?_ | refine ws_aug rfl ?_ | refine ws_fld ?_ | refine ws_sub ?_ | refine ws_del ?_ | refine ws_for ?_ | refine wp_lc ?_ | refine ip_seq ?_ | refine ip_r1 ?_ | refine ip_r2 ?_ | refine ip_r3 ?_
  | refine wp_tyes ?_ | refine wp_ok ?_ | refine wp_tupR ?_ | refine wp_zipL ?_ | refine tvT ?_ | refine tvK ?_ | refine wp_cut ?_ | refine wp_pno ?_ | refine wp_psome ?_ | refine wp_cutScr ?_ | refine wp_cutL ?_ | refine wp_cutT ?_ | refine wp_lenL ?_ | refine wp_lenT ?_ | refine wp_intI ?_ | refine wp_intB ?_ | refine wp_absI ?_ | refine wp_listT ?_ | refine wp_listL ?_ | refine wp_tupleL ?_ | refine wp_tupleT ?_ | refine wp_sumL ?_ | refine wp_any ?_ | refine wp_all ?_ | refine wp_sumG ?_ | refine wp_tupG ?_ | refine wp_bind ?_ | refine is1 ?_ | refine is2 ?_ | refine is3 ?_ | refine isI ?_ | refine isS ?_ | refine svL ?_ | refine svT ?_ | refine svK ?_ | refine lvL ?_ | refine wp_dnewT ?_ | refine wp_dnewF ?_ | refine wp_lm ?_ | refine wp_dc ?_ | refine wp_count ?_ | refine wp_chain3l ?_ | refine ip_items ?_ | refine ip_vals ?_ | refine ip_keysI ?_ | refine wp_vals ?_ | refine wp_sortItems ?_ | refine ip_enum ?_ | refine ip_txt ?_)
local macro_rules | `(tactic| walk_at "ev") => `(tactic| repeat walk_at "ev1")
theorem wp_pad {h : HS} {sl : Sl} {f : Ex} {K : W → HS → Prop} {E : Nat → HS → Prop} (l : h.nx ≤ padN) (p : ∀ h1 : HS, h1.nx = padN → Wp (f sl h1) K E) : Wp (ePad f sl h) K E := by
  unfold ePad
  rw [if_pos l]
  exact p _ rfl
theorem law_wp (ns : List Int) : Wp (f_law [.scr ns] h0) (fun w _ => w = .bl true) NoE := by
  refine wp_body ?_
  rw [b_law_eq]
  walk_at "ev"
  refine wp_rounds fun h1 d1 n1 => ?_
  walk_at "ev"
  refine ws_forL (fun i sl h' => (i = 0 ∧ sl = [some (.scr ns), none, none, none, none, none, none, none, none, none, none, none, none, none, none, none, none, none, none, none, none] ∧ h' = h1) ∨ (i = 1 ∧ h'.nx ≤ 1000)) (.inl ⟨rfl, rfl, rfl⟩) (fun _ _ _ _ _ => rfl) ?_ ?_
  · rintro i w sl h' e (⟨rfl, rfl, rfl⟩ | ⟨rfl, n⟩)
    · cases e
      refine gp_n ?_
      refine ws_seq (w0 d1 fun g gs h2 G Gs l3 d2 n2 => ?_)
      refine ws_seq (w1 G ?_)
      refine ws_seq (w2 G ?_)
      refine ws_seq (w3 G ?_)
      refine ws_seq (w4 Gs l3 ?_)
      refine ws_seq (w5 Gs ?_)
      refine ws_seq (w6 G d2 fun day part h3 p1 p2 d3 n3 => ?_)
      refine ws_seq (w7 G ?_)
      refine ws_seq (w8 G d3 (by omega) fun h4 d4 l4 u4 => ?_)
      refine ws_seq (w9 G d4 (by omega) fun h5 d5 l5 u5 => ?_)
      refine ws_seq (w10 G ?_)
      refine ws_seq (w11 G p1 p2 d5 (by omega) fun h6 d6 l6 u6 => ?_)
      refine ws_seq (w12 Gs l3 d6 (by omega) fun h7 d7 l7 u7 => ?_)
      refine ws_seq (w13 Gs l3 d7 (by omega) fun h8 d8 l8 u8 => ?_)
      refine ws_seq (w14 Gs l3 d8 (by omega) fun h9 d9 l9 u9 => ?_)
      refine ws_seq (w15 Gs l3 ?_)
      refine ws_seq (w16 d9 fun told h10 ne lt b1 d10 n10 => ?_)
      refine ws_seq (w17 d10 lt fun took h11 lq b2 d11 n11 => ?_)
      refine ws_seq (w18 lq ne lt (fun x hx => by have := b1 x hx; omega) b2 ?_)
      refine ws_seq (w19 d11 fun nums h12 ne2 ln b3 d12 n12 => ?_)
      obtain ⟨m, a, b, em, ea, eb, AG⟩ := agreed_eq (h := h12) ne2 (by omega)
      refine ws_seq (w20 ln em ?_)
      refine ws_seq (w21 ln ?_)
      refine ws_seq (w22 G ea eb (fun {K E} => AG) d12 (by omega) fun h13 d13 l13 u13 => ?_)
      refine w23 ?_
      exact .inr ⟨rfl, by omega⟩
    · cases e
  · rintro sl h' (⟨z, _⟩ | ⟨_, n⟩)
    · cases z
    · refine ws_ret (wp_pad (by unfold padN; omega) fun h1 e1 => ?_)
      refine wp_call (wp_anil (wp_go rfl ?_))
      exact plain_wp e1
theorem law_true (ns : List Int) : ∃ h', f_law [.scr ns] h0 = .ok (.bl true) h' := by
  have z := law_wp ns
  unfold Wp at z
  split at z
  · rename_i e
    rw [z] at e
    exact ⟨_, e⟩
  · exact z.elim
  · exact z.elim

end K03
end

set_option Elab.async false
set_option maxRecDepth 100000 in
set_option maxHeartbeats 8000000 in
theorem PySem.Challenge.cw_planstack_k03_guesses_of_lengths_holds : PySem.Challenge.rw_planstack_k03_guesses_of_lengths.Holds := by
  exact fin fun ns _ => K03.law_true ns
