import PyProof.Rows.All
import Wide.All
import OpenK.AllK
import Wide.FinOn
import HandS.ForMost
import HandS.ForExc
import HandS.IsInst
import HandS.Defaults
import HandS.Zip
import HandS.TupMul
import HandS.TupLe
import HandS.TupAny
import HandS.Lambda
import HandS.Nested
import HandS.HeadHook4
import HandS.WordsExc
import HandS.Dict
import HandS.Small
import HandS.SetKeys
import HandS.Deep
import HandS.Conv
import HandS.Iter
import KE.GoesEnum
import KE.DataFind
import HandS.SortInts
import HandS.More
import HandS.ExcValue
import HandS.ExcOwn
import HandS.ExcIs
import HandS.EndTab
import KE.KStateDown
import KE.KNestM
import HandS.Head0
import HandS.Head1
import HandS.Head2
import HandS.HeadEnd
import HandS.HeadHook1
import HandS.HeadHook2
import HandS.HeadHook3
import HandS.HeadWalk
import HandS.Words
import PySem.Challenge.RW_nearkinds_k62_weights_of_words_by_rule
set_option Elab.async false
set_option linter.all false
set_option maxRecDepth 100000
set_option autoImplicit false
/-! Mon1: own values, own store, the relation to the abstract heap, the monadic readings. -/
namespace Mo
open PySem PySem.Spec L2
open PyProof.Rows hiding St

inductive W where
  | non | bl (b : Bool) | int (i : Int) | str (x : Str) | ty (n : String) | tup (ws : List W) | lst (ws : List W) | ref (n : Nat) | glob (x : Str) | exc (c : Str) | clo (k : Nat) (cap : List W) | scr (ns : List Int)
inductive O where
  | lst (ws : List W) | dict (kvs : List (Key × W))
abbrev Sto := List O
inductive R (α : Type) where
  | ok (a : α) (S : Sto) | err (c : Str) (S : Sto) | stuck
def R.bind {α β : Type} (r : R α) (k : α → Sto → R β) : R β := match r with
  | .ok a S => k a S
  | .err c S => .err c S
  | .stuck => .stuck

theorem R.bind_ok {α β : Type} (a : α) (S : Sto) (k : α → Sto → R β) : (R.ok a S).bind k = k a S := rfl
theorem R.bind_err {α β : Type} (c : Str) (S : Sto) (k : α → Sto → R β) : (R.err c S).bind k = .err c S := rfl
theorem R.bind_stuck {α β : Type} (k : α → Sto → R β) : (R.stuck).bind k = .stuck := rfl
theorem R.bind_bind {α β γ : Type} (r : R α) (k : α → Sto → R β) (q : β → Sto → R γ) : (r.bind k).bind q = r.bind fun a S => (k a S).bind q := by
  cases r <;> rfl
def isMut : HO → Bool
  | .lst _ => true
  | .dK _ => true
  | .dT _ => true
  | .set _ _ => true
  | .ins _ _ _ => true
  | .tbl _ => true
  | _ => false
def isTbl : HO → Bool
  | .tbl _ => true
  | _ => false

/-- what stands still of the whole: the written part, the module's names, the closures -/
structure Glo where
  K : PySem.W.Frag
  mg : Str → Option Value
  ct : Nat → Addr → Hp → Prop
  ctk : ∀ k a H H', (∀ b o, H b = some o → isMut o = false → H' b = some o) → ct k a H → ct k a H'
  cv : Nat → List V → Prop
  inv : Hp → Prop
  invk : ∀ H H', (∀ b o, H b = some o → (isMut o = false ∨ isTbl o = true) → H' b = some o) → inv H → inv H'
  ex : Str → Addr → Hp → Prop
  exk : ∀ k a H H', (∀ b o, H b = some o → isMut o = false → H' b = some o) → ex k a H → ex k a H'

mutual
def VR (G : Glo) (Z : Addr → Prop) (μ : List Addr) (H : Hp) : W → V → Prop
  | .non, v => v = .non
  | .bl b, v => v = .bl b
  | .int i, v => v = .int i
  | .str x, v => v = .str x
  | .ty n, v => v = .ty n
  | .tup ws, v => ∃ a vs, v = .ref a ∧ H a = some (.tup vs) ∧ VRs G Z μ H ws vs
  | .lst ws, v => ∃ a vs, v = .ref a ∧ H a = some (.lst vs) ∧ ¬ Z a ∧ VRs G Z μ H ws vs
  | .scr ns, v => ∃ a, v = .ref a ∧ ((Rd H a (.lst (ns.map V.int)) ∧ ¬ Z a) ∨ ∀ H' : Hp, SqL G.K H' a (ns.map V.int))
  | .ref n, v => ∃ a, μ[n]? = some a ∧ v = .ref a
  | .glob x, v => ∃ a, G.mg x = some (.ref a) ∧ v = .ref a
  | .exc c, v => ∃ a, v = .ref a ∧ G.ex c a H
  | .clo k cap, v => ∃ a vs, v = .ref a ∧ G.ct k a H ∧ G.cv k vs ∧ VRs G Z μ H cap vs
def VRs (G : Glo) (Z : Addr → Prop) (μ : List Addr) (H : Hp) : List W → List V → Prop
  | [], vs => vs = []
  | w :: ws, vs => ∃ v r, vs = v :: r ∧ VR G Z μ H w v ∧ VRs G Z μ H ws r
end
def KVR (G : Glo) (Z : Addr → Prop) (μ : List Addr) (H : Hp) : List (Key × W) → List (Key × V) → Prop
  | [], es => es = []
  | (k, w) :: kvs, es => ∃ v r, es = (k, v) :: r ∧ VR G Z μ H w v ∧ KVR G Z μ H kvs r
def OR (G : Glo) (Z : Addr → Prop) (μ : List Addr) (H : Hp) (a : Addr) : O → Prop
  | .lst ws => ∃ vs, H a = some (.lst vs) ∧ VRs G Z μ H ws vs
  | .dict kvs => ∃ es, H a = some (.dK es) ∧ KVR G Z μ H kvs es

structure Rel (G : Glo) (Z : Addr → Prop) (μ : List Addr) (H : Hp) (S : Sto) : Prop where
  len : μ.length = S.length
  nd : μ.Nodup
  mz : ∀ a ∈ μ, Z a
  zm : ∀ a, Z a → ∃ o, H a = some o ∧ isMut o = true ∧ isTbl o = false
  inv : G.inv H
  ob : ∀ (n : Nat) (a : Addr) (o : O), μ[n]? = some a → S[n]? = some o → OR G Z μ H a o
structure Grow (Z : Addr → Prop) (μ : List Addr) (H : Hp) (Z' : Addr → Prop) (μ' : List Addr) (H' : Hp) : Prop where
  mu : ∃ e, μ' = μ ++ e ∧ ∀ a ∈ e, H a = none
  zz : ∀ a, Z' a → Z a ∨ H a = none
  zk : ∀ a, Z a → Z' a
  keep : ∀ a o, H a = some o → a ∉ μ → isTbl o = false → H' a = some o
  th : ∀ a o, H a = some o → ∃ u, H' a = some u

section
variable {G : Glo} {Z Z' Z1 Z2 : Addr → Prop} {μ μ' μ1 μ2 : List Addr} {H H' H1 H2 : Hp} {S S' S1 : Sto}
theorem Grow.refl : Grow Z μ H Z μ H := ⟨⟨[], by simp, fun a h => by simp at h⟩, fun _ h => .inl h, fun _ h => h, fun _ _ h _ _ => h, fun _ o h => ⟨o, h⟩⟩
theorem Rel.nomem (r : Rel G Z μ H S) {a : Addr} {o : HO} (h : H a = some o) (hm : isMut o = false) : a ∉ μ := fun hmem => by
  obtain ⟨u, h1, h2, _⟩ := r.zm a (r.mz a hmem)
  rw [h] at h1; cases h1; rw [hm] at h2; cases h2
theorem Grow.still (g : Grow Z μ H Z' μ' H') (r : Rel G Z μ H S) : ∀ b o, H b = some o → isMut o = false → H' b = some o := fun b o h hm => g.keep b o h (r.nomem h hm) (by cases o <;> first | rfl | cases hm)
theorem Grow.trans (r1 : Rel G Z1 μ1 H1 S1) (g1 : Grow Z μ H Z1 μ1 H1) (g2 : Grow Z1 μ1 H1 Z2 μ2 H2) : Grow Z μ H Z2 μ2 H2 := by
  obtain ⟨e1, rfl, f1⟩ := g1.mu
  obtain ⟨e2, rfl, f2⟩ := g2.mu
  have back : ∀ a, H1 a = none → H a = none := fun a h => by
    cases q : H a with
    | none => rfl
    | some o =>
      obtain ⟨u, hu⟩ := g1.th a o q
      rw [h] at hu; cases hu
  refine ⟨⟨e1 ++ e2, by simp, fun a h => ?_⟩, fun a h => ?_, fun a h => g2.zk a (g1.zk a h), fun a o h hm ht => ?_, fun a o h => let ⟨u, hu⟩ := g1.th a o h; g2.th a u hu⟩
  · rcases List.mem_append.mp h with h | h
    · exact f1 a h
    · exact back a (f2 a h)
  · rcases g2.zz a h with h | h
    · exact g1.zz a h
    · exact .inr (back a h)
  · refine g2.keep a o (g1.keep a o h hm ht) (fun z => ?_) ht
    rcases List.mem_append.mp z with z | z
    · exact hm z
    · rw [f1 a z] at h; cases h
theorem Grow.get (g : Grow Z μ H Z' μ' H') {n : Nat} {a : Addr} (h : μ[n]? = some a) : μ'[n]? = some a := by
  obtain ⟨e, rfl, _⟩ := g.mu
  rw [List.getElem?_append_left (List.getElem?_eq_some_iff.mp h).1]; exact h
theorem Grow.notZ (g : Grow Z μ H Z' μ' H') {a : Addr} {o : HO} (h : H a = some o) (hz : ¬ Z a) : ¬ Z' a := fun z => by
  rcases g.zz a z with z | z
  · exact hz z
  · rw [h] at z; cases z
theorem Grow.rd (g : Grow Z μ H Z' μ' H') (r : Rel G Z μ H S) {a : Addr} {u : HO} (hz : ¬ Z a) (h : Rd H a u) (ht : isTbl u = false := by rfl) : Rd H' a u := by
  rcases h with h | ⟨o, h⟩
  · exact .inl (g.keep a _ h (fun z => hz (r.mz a z)) ht)
  · exact .inr ⟨o, g.keep a _ h (fun z => hz (r.mz a z)) rfl⟩
mutual
theorem VR.mono (r : Rel G Z μ H S) (g : Grow Z μ H Z' μ' H') : ∀ {w : W} {v : V}, VR G Z μ H w v → VR G Z' μ' H' w v
  | .non, _, h => h
  | .bl _, _, h => h
  | .int _, _, h => h
  | .str _, _, h => h
  | .ty _, _, h => h
  | .tup ws, v, h => by
    unfold VR at h ⊢
    obtain ⟨a, vs, e, ha, hs⟩ := h
    exact ⟨a, vs, e, g.still r a _ ha rfl, VRs.mono r g hs⟩
  | .lst ws, v, h => by
    unfold VR at h ⊢
    obtain ⟨a, vs, e, ha, hz, hs⟩ := h
    exact ⟨a, vs, e, g.keep a _ ha (fun z => hz (r.mz a z)) rfl, g.notZ ha hz, VRs.mono r g hs⟩
  | .scr ns, v, h => by
    unfold VR at h ⊢
    obtain ⟨a, e, h⟩ := h
    refine ⟨a, e, ?_⟩
    rcases h with ⟨h, hz⟩ | h
    · exact .inl ⟨g.rd r hz h, by
        rcases h with h | ⟨o, h⟩
        · exact g.notZ h hz
        · exact g.notZ h hz⟩
    · exact .inr h
  | .ref n, v, h => by
    unfold VR at h ⊢
    obtain ⟨a, h1, h2⟩ := h
    exact ⟨a, g.get h1, h2⟩
  | .glob _, _, h => by unfold VR at h ⊢; exact h
  | .exc c, v, h => by
    unfold VR at h ⊢
    obtain ⟨a, h1, h2⟩ := h
    exact ⟨a, h1, G.exk _ _ _ _ (g.still r) h2⟩
  | .clo k cap, v, h => by
    unfold VR at h ⊢
    obtain ⟨a, vs, h1, h2, h3, h4⟩ := h
    exact ⟨a, vs, h1, G.ctk _ _ _ _ (g.still r) h2, h3, VRs.mono r g h4⟩
theorem VRs.mono (r : Rel G Z μ H S) (g : Grow Z μ H Z' μ' H') : ∀ {ws : List W} {vs : List V}, VRs G Z μ H ws vs → VRs G Z' μ' H' ws vs
  | [], _, h => by unfold VRs at h ⊢; exact h
  | w :: ws, vs, h => by
    unfold VRs at h ⊢
    obtain ⟨v, q, e, h1, h2⟩ := h
    exact ⟨v, q, e, VR.mono r g h1, VRs.mono r g h2⟩
end
theorem KVR.mono (r : Rel G Z μ H S) (g : Grow Z μ H Z' μ' H') : ∀ {kvs : List (Key × W)} {es : List (Key × V)}, KVR G Z μ H kvs es → KVR G Z' μ' H' kvs es
  | [], _, h => by unfold KVR at h ⊢; exact h
  | (k, w) :: kvs, es, h => by
    unfold KVR at h ⊢
    obtain ⟨v, q, e, h1, h2⟩ := h
    exact ⟨v, q, e, VR.mono r g h1, KVR.mono r g h2⟩
theorem VRs.length : ∀ {ws : List W} {vs : List V}, VRs G Z μ H ws vs → vs.length = ws.length
  | [], vs, h => by unfold VRs at h; subst h; rfl
  | w :: ws, vs, h => by
    unfold VRs at h
    obtain ⟨v, q, rfl, _, h2⟩ := h
    simp [VRs.length h2]
theorem VRs.get : ∀ {ws : List W} {vs : List V} {i : Nat} {w : W}, VRs G Z μ H ws vs → ws[i]? = some w → ∃ v, vs[i]? = some v ∧ VR G Z μ H w v
  | [], _, _, _, _, e => by simp at e
  | w :: ws, vs, i, u, h, e => by
    unfold VRs at h
    obtain ⟨v, q, rfl, h1, h2⟩ := h
    cases i with
    | zero => simp at e; subst e; exact ⟨v, rfl, h1⟩
    | succ i => simpa using VRs.get h2 (by simpa using e)
theorem VRs.append : ∀ {ws us : List W} {vs xs : List V}, VRs G Z μ H ws vs → VRs G Z μ H us xs → VRs G Z μ H (ws ++ us) (vs ++ xs)
  | [], _, _, _, h, k => by unfold VRs at h; subst h; exact k
  | w :: ws, us, vs, xs, h, k => by
    unfold VRs at h
    obtain ⟨v, q, rfl, h1, h2⟩ := h
    show VRs G Z μ H (w :: (ws ++ us)) (v :: (q ++ xs))
    unfold VRs
    exact ⟨v, _, rfl, h1, VRs.append h2 k⟩
theorem VRs.nil : VRs G Z μ H [] [] := by unfold VRs; rfl
theorem VRs.cons {w : W} {v : V} {ws : List W} {vs : List V} (h : VR G Z μ H w v) (k : VRs G Z μ H ws vs) : VRs G Z μ H (w :: ws) (v :: vs) := by
  unfold VRs; exact ⟨v, vs, rfl, h, k⟩
theorem VRs.drop : ∀ {ws : List W} {vs : List V} (n : Nat), VRs G Z μ H ws vs → VRs G Z μ H (ws.drop n) (vs.drop n)
  | _, _, 0, h => h
  | [], vs, n + 1, h => by unfold VRs at h; subst h; exact VRs.nil
  | w :: ws, vs, n + 1, h => by
    unfold VRs at h
    obtain ⟨v, q, rfl, _, h2⟩ := h
    exact VRs.drop n h2
theorem VRs.take : ∀ {ws : List W} {vs : List V} (n : Nat), VRs G Z μ H ws vs → VRs G Z μ H (ws.take n) (vs.take n)
  | _, _, 0, _ => by simpa using VRs.nil
  | [], vs, n + 1, h => by unfold VRs at h; subst h; exact VRs.nil
  | w :: ws, vs, n + 1, h => by
    unfold VRs at h
    obtain ⟨v, q, rfl, h1, h2⟩ := h
    exact VRs.cons h1 (VRs.take n h2)
theorem VRs.set {w : W} {v : V} (hw : VR G Z μ H w v) : ∀ {ws : List W} {vs : List V} (n : Nat), VRs G Z μ H ws vs → VRs G Z μ H (ws.set n w) (vs.set n v)
  | [], vs, n, h => by unfold VRs at h; subst h; exact VRs.nil
  | u :: ws, vs, 0, h => by
    unfold VRs at h
    obtain ⟨x, q, rfl, h1, h2⟩ := h
    exact VRs.cons hw h2
  | u :: ws, vs, n + 1, h => by
    unfold VRs at h
    obtain ⟨x, q, rfl, h1, h2⟩ := h
    exact VRs.cons h1 (VRs.set hw n h2)

/-- the wish behind a run -/
def Aft {α : Type} (G : Glo) (E : XK) (Z : Addr → Prop) (μ : List Addr) (H : Hp) (r : R α) (P : α → (Addr → Prop) → List Addr → Hp → Sto → Prop) : Prop := match r with
  | .ok x S' => ∀ Z' μ' H', Grow Z μ H Z' μ' H' → Rel G Z' μ' H' S' → P x Z' μ' H' S'
  | .err c S' => ∀ Z' μ' H', Grow Z μ H Z' μ' H' → Rel G Z' μ' H' S' → ∃ a, G.mg c = some (.ref a) ∧ E (.ref a) none H'
  | .stuck => False
variable {α β : Type} {E : XK} {r : R α} {P P' : α → (Addr → Prop) → List Addr → Hp → Sto → Prop} {k : α → Sto → R β} {Pb : β → (Addr → Prop) → List Addr → Hp → Sto → Prop}
theorem Aft.mono (r1 : Rel G Z1 μ1 H1 S1) (g : Grow Z μ H Z1 μ1 H1) (h : Aft G E Z μ H r P) : Aft G E Z1 μ1 H1 r P := by
  cases r with
  | ok x S' => exact fun Z' μ' H' g' r' => h Z' μ' H' (Grow.trans r1 g g') r'
  | err c S' => exact fun Z' μ' H' g' r' => h Z' μ' H' (Grow.trans r1 g g') r'
  | stuck => exact h
theorem Aft.bind (h : Aft G E Z μ H (r.bind k) Pb) : Aft G E Z μ H r (fun x Z1 μ1 H1 S1 => Aft G E Z1 μ1 H1 (k x S1) Pb) := by
  cases r with
  | ok x S' =>
    have h' : Aft G E Z μ H (k x S') Pb := h
    exact fun Z' μ' H' g' r' => Aft.mono r' g' h'
  | err c S' => exact h
  | stuck => exact h
theorem Aft.imp (h : Aft G E Z μ H r P) (q : ∀ x Z' μ' H' S', r = .ok x S' → Grow Z μ H Z' μ' H' → Rel G Z' μ' H' S' → P x Z' μ' H' S' → P' x Z' μ' H' S') : Aft G E Z μ H r P' := by
  cases r with
  | ok x S' => exact fun Z' μ' H' g' r' => q _ _ _ _ _ rfl g' r' (h Z' μ' H' g' r')
  | err c S' => exact h
  | stuck => exact h
theorem Aft.here {x : α} (r1 : Rel G Z μ H S) (h : Aft G E Z μ H (.ok x S) P) : P x Z μ H S := h Z μ H Grow.refl r1
end

/-! ### readings -/
abbrev Env' := List (Option W)
abbrev ME := Env' → Sto → R W
abbrev MT := Env' → Sto → R Bool
abbrev MA := Env' → Sto → R (List W)
structure ER (G : Glo) (Z : Addr → Prop) (μ : List Addr) (H : Hp) (ρ : Env') (σ : St) : Prop where
  len : σ.length = ρ.length
  at_ : ∀ (i : Nat) (w : W), ρ[i]? = some (some w) → ∃ v : V, σ[i]? = some (some v) ∧ VR G Z μ H w v
def PQ (G : Glo) (Q : VK) : W → (Addr → Prop) → List Addr → Hp → Sto → Prop := fun w Z μ H _ => ∀ v, VR G Z μ H w v → Q v H
def PB (Q : Bool → Hp → Prop) : Bool → (Addr → Prop) → List Addr → Hp → Sto → Prop := fun b _ _ H _ => Q b H
def PL (G : Glo) (Q : List V → Hp → Prop) : List W → (Addr → Prop) → List Addr → Hp → Sto → Prop := fun ws Z μ H _ => ∀ vs, VRs G Z μ H ws vs → Q vs H
def tM (G : Glo) (E : XK) (m : ME) : TE := fun σ H Q => ∃ ρ S Z μ, Rel G Z μ H S ∧ ER G Z μ H ρ σ ∧ Aft G E Z μ H (m ρ S) (PQ G Q)
def tMT (G : Glo) (E : XK) (m : MT) : TT := fun σ H Q => ∃ ρ S Z μ, Rel G Z μ H S ∧ ER G Z μ H ρ σ ∧ Aft G E Z μ H (m ρ S) (PB Q)
def tMA (G : Glo) (E : XK) (m : MA) : TA := fun σ H Q => ∃ ρ S Z μ, Rel G Z μ H S ∧ ER G Z μ H ρ σ ∧ Aft G E Z μ H (m ρ S) (PL G Q)
theorem ER.mono {G : Glo} {Z Z' : Addr → Prop} {μ μ' : List Addr} {H H' : Hp} {S : Sto} {ρ : Env'} {σ : St} (e : ER G Z μ H ρ σ) (r : Rel G Z μ H S) (g : Grow Z μ H Z' μ' H') : ER G Z' μ' H' ρ σ :=
  ⟨e.len, fun i w h => let ⟨v, h1, h2⟩ := e.at_ i w h; ⟨v, h1, VR.mono r g h2⟩⟩
theorem ER.set {G : Glo} {Z : Addr → Prop} {μ : List Addr} {H : Hp} {ρ : Env'} {σ : St} {w : W} {v : V} (e : ER G Z μ H ρ σ) (h : VR G Z μ H w v) (i : Nat) : ER G Z μ H (ρ.set i (some w)) (σ.set i (some v)) := by
  refine ⟨by simp [e.len], fun j u hj => ?_⟩
  by_cases hij : i = j
  · subst hij
    by_cases hi : i < ρ.length
    · rw [List.getElem?_set_self hi] at hj; cases hj
      exact ⟨v, by rw [List.getElem?_set_self (by rw [e.len]; exact hi)], h⟩
    · rw [List.getElem?_eq_none (by simpa using hi)] at hj; cases hj
  · rw [List.getElem?_set_ne hij] at hj
    obtain ⟨x, h1, h2⟩ := e.at_ j u hj
    exact ⟨x, by rw [List.getElem?_set_ne hij]; exact h1, h2⟩
theorem _root_.L2.PE.weak {X : Cx} {e : Expr} {t t' : TE} (h : PE X e t) (w : ∀ σ H Q, t' σ H Q → t σ H Q) : PE X e t' := ⟨fun pins s σ H Q I q => h.run pins s σ H Q I (w _ _ _ q)⟩
theorem _root_.L2.PT.weak {X : Cx} {e : Expr} {t t' : TT} (h : PT X e t) (w : ∀ σ H Q, t' σ H Q → t σ H Q) : PT X e t' := ⟨fun pins s σ H Q I q => h.run pins s σ H Q I (w _ _ _ q)⟩
theorem _root_.L2.PA.weak {X : Cx} {e : List Expr} {t t' : TA} (h : PA X e t) (w : ∀ σ H Q, t' σ H Q → t σ H Q) : PA X e t' := ⟨fun pos pins s σ H Q I q => h.run pos pins s σ H Q I (w _ _ _ q)⟩
theorem _root_.L2.PS.weak {X : Cx} {e : Stmt} {t t' : TS} (h : PS X e t) (w : ∀ D σ H, t' D σ H → t D σ H) : PS X e t' := ⟨fun pins s σ H D I q => h.run pins s σ H D I (w _ _ _ q)⟩
theorem _root_.L2.PSs.weak {X : Cx} {e : List Stmt} {t t' : TS} (h : PSs X e t) (w : ∀ D σ H, t' D σ H → t D σ H) : PSs X e t' := ⟨fun pins s σ H D I q => h.run pins s σ H D I (w _ _ _ q)⟩
end Mo

set_option Elab.async false
set_option linter.all false
set_option maxRecDepth 100000
set_option autoImplicit false
/-! Mon2: the heap's moves, expressions. -/
namespace Mo
open PySem PySem.Spec L2
open PyProof.Rows hiding St

section
variable {G : Glo} {Z Z' Z1 Z2 : Addr → Prop} {μ μ' μ1 μ2 : List Addr} {H H' H1 H2 : Hp} {S S' S1 : Sto}
theorem Grow.add {p : Addr} {o : HO} (hp : H p = none) : Grow Z μ H Z μ (upd H p o) :=
  ⟨⟨[], by simp, fun a h => by simp at h⟩, fun _ h => .inl h, fun _ h => h, fun a u h _ _ => by rw [upd_ne (ne_of_none h hp)]; exact h, fun a u h => ⟨u, by rw [upd_ne (ne_of_none h hp)]; exact h⟩⟩
theorem OR.mono (r : Rel G Z μ H S) (g : Grow Z μ H Z' μ' H') {a : Addr} {o : O} (ha : H' a = H a) (h : OR G Z μ H a o) : OR G Z' μ' H' a o := by
  cases o with
  | lst ws =>
    obtain ⟨vs, e, k⟩ := h
    exact ⟨vs, ha.trans e, VRs.mono r g k⟩
  | dict kvs =>
    obtain ⟨vs, e, k⟩ := h
    exact ⟨vs, ha.trans e, KVR.mono r g k⟩
theorem Rel.some (r : Rel G Z μ H S) {n : Nat} {a : Addr} (h : μ[n]? = Option.some a) : ∃ o, H a = Option.some o :=
  let ⟨o, h1, _⟩ := r.zm a (r.mz a (List.mem_of_getElem? h)); ⟨o, h1⟩
/-- an untracked new object -/
theorem Rel.add (r : Rel G Z μ H S) {p : Addr} {o : HO} (hp : H p = none) : Rel G Z μ (upd H p o) S :=
  ⟨r.len, r.nd, r.mz, fun a h => by
    obtain ⟨u, h1, h2⟩ := r.zm a h
    exact ⟨u, by rw [upd_ne (ne_of_none h1 hp)]; exact h1, h2⟩, G.invk _ _ (fun b u h _ => by rw [upd_ne (ne_of_none h hp)]; exact h) r.inv,
   fun n a u h1 h2 => by
    obtain ⟨u', hu⟩ := r.some h1
    exact OR.mono r (Grow.add hp) (upd_ne (ne_of_none hu hp)) (r.ob n a u h1 h2)⟩
/-- all that was tracked stays, tables may grow: the same relation -/
theorem Rel.extN (r : Rel G Z μ H S) (k : ∀ a o, H a = Option.some o → isTbl o = false → H' a = Option.some o) (t : ∀ a o, H a = Option.some o → ∃ u, H' a = Option.some u) (hi : G.inv H') : Rel G Z μ H' S ∧ Grow Z μ H Z μ H' := by
  have g : Grow Z μ H Z μ H' := ⟨⟨[], by simp, fun a h => by simp at h⟩, fun _ h => .inl h, fun _ h => h, fun a o h _ ht => k a o h ht, t⟩
  refine ⟨⟨r.len, r.nd, r.mz, fun a h => ?_, hi, fun n a u h1 h2 => ?_⟩, g⟩
  · obtain ⟨u, h1, h2, h3⟩ := r.zm a h
    exact ⟨u, k a u h1 h3, h2, h3⟩
  · obtain ⟨u', hu, _, h3⟩ := r.zm a (r.mz a (List.mem_of_getElem? h1))
    exact OR.mono r g ((k a u' hu h3).trans hu.symm) (r.ob n a u h1 h2)
/-- all that was tracked stays: the same relation -/
theorem Rel.ext (r : Rel G Z μ H S) (k : ∀ a o, H a = Option.some o → H' a = Option.some o) : Rel G Z μ H' S ∧ Grow Z μ H Z μ H' :=
  r.extN (fun a o h _ => k a o h) (fun a o h => ⟨o, k a o h⟩) (G.invk _ _ (fun b o h _ => k b o h) r.inv)
theorem Grow.new {p : Addr} {o : HO} (hp : H p = none) : Grow Z μ H (fun a => Z a ∨ a = p) (μ ++ [p]) (upd H p o) :=
  ⟨⟨[p], rfl, fun a h => by simp at h; subst h; exact hp⟩, fun a h => h.elim .inl fun e => .inr (e ▸ hp), fun _ h => .inl h, fun a u h _ _ => by rw [upd_ne (ne_of_none h hp)]; exact h, fun a u h => ⟨u, by rw [upd_ne (ne_of_none h hp)]; exact h⟩⟩
/-- a new object of the store -/
theorem Rel.new (r : Rel G Z μ H S) {p : Addr} {ho : HO} {o : O} (hp : H p = none) (hm : isMut ho = true ∧ isTbl ho = false) (h : OR G (fun a => Z a ∨ a = p) (μ ++ [p]) (upd H p ho) p o) : Rel G (fun a => Z a ∨ a = p) (μ ++ [p]) (upd H p ho) (S ++ [o]) := by
  have np : p ∉ μ := fun z => by
    obtain ⟨u, h1, _⟩ := r.zm p (r.mz p z)
    rw [hp] at h1; cases h1
  refine ⟨by simp [r.len], ?_, fun a h => ?_, fun a h => ?_, G.invk _ _ (fun b u h _ => by rw [upd_ne (ne_of_none h hp)]; exact h) r.inv, fun n a u h1 h2 => ?_⟩
  · rw [List.nodup_append]
    exact ⟨r.nd, by simp, fun a ha b hb e => by simp at hb; rw [hb] at e; rw [e] at ha; exact np ha⟩
  · rcases List.mem_append.mp h with h | h
    · exact .inl (r.mz a h)
    · simp at h; exact .inr h
  · rcases h with h | h
    · obtain ⟨u, h1, h2⟩ := r.zm a h
      exact ⟨u, by rw [upd_ne (ne_of_none h1 hp)]; exact h1, h2⟩
    · subst h; exact ⟨ho, upd_same, hm.1, hm.2⟩
  · by_cases hn : n < μ.length
    · rw [List.getElem?_append_left hn] at h1
      rw [List.getElem?_append_left (by rw [← r.len]; exact hn)] at h2
      obtain ⟨u', hu⟩ := r.some h1
      exact OR.mono r (Grow.new hp) (upd_ne (ne_of_none hu hp)) (r.ob n a u h1 h2)
    · rw [List.getElem?_append_right (by omega)] at h1
      rw [List.getElem?_append_right (by rw [← r.len]; omega)] at h2
      have e1 : n - μ.length = 0 := by
        have := (List.getElem?_eq_some_iff.mp h1).1
        simp at this; omega
      rw [e1] at h1
      rw [← r.len, e1] at h2
      simp at h1 h2
      subst h1 h2
      exact h
theorem Grow.put {a : Addr} {o : HO} (ha : a ∈ μ) : Grow Z μ H Z μ (upd H a o) :=
  ⟨⟨[], by simp, fun a h => by simp at h⟩, fun _ h => .inl h, fun _ h => h, fun b u h hb _ => by rw [upd_ne (fun e => hb (by rw [e]; exact ha))]; exact h, fun b u h => by
    by_cases e : b = a
    · exact ⟨o, by rw [e]; exact upd_same⟩
    · exact ⟨u, by rw [upd_ne e]; exact h⟩⟩
/-- an object of the store written -/
theorem Rel.put (r : Rel G Z μ H S) {n : Nat} {a : Addr} {ho : HO} {o : O} (hn : μ[n]? = Option.some a) (hm : isMut ho = true ∧ isTbl ho = false) (h : OR G Z μ (upd H a ho) a o) : Rel G Z μ (upd H a ho) (S.set n o) := by
  have ha : a ∈ μ := List.mem_of_getElem? hn
  refine ⟨by simp [r.len], r.nd, r.mz, fun b hb => ?_, G.invk _ _ (fun b u h hq => ?_) r.inv, fun m b u h1 h2 => ?_⟩
  rotate_left
  · have hb : b ≠ a := fun e => by
      obtain ⟨v, k1, k2, k3⟩ := r.zm a (r.mz a ha)
      rw [e, k1] at h; cases h
      rcases hq with hq | hq
      · rw [hq] at k2; cases k2
      · rw [hq] at k3; cases k3
    rw [upd_ne hb]; exact h
  rotate_left
  · by_cases e : b = a
    · subst e; exact ⟨ho, upd_same, hm.1, hm.2⟩
    · obtain ⟨u, h1, h2⟩ := r.zm b hb
      exact ⟨u, by rw [upd_ne e]; exact h1, h2⟩
  · by_cases e : m = n
    · subst e
      rw [hn] at h1; cases h1
      have hl : m < S.length := by rw [← r.len]; exact (List.getElem?_eq_some_iff.mp hn).1
      rw [List.getElem?_set_self hl] at h2; cases h2
      exact h
    · rw [List.getElem?_set_ne (Ne.symm e)] at h2
      have hb : b ≠ a := fun z => by
        subst z
        exact e ((List.getElem?_inj (List.getElem?_eq_some_iff.mp h1).1 r.nd).mp (h1.trans hn.symm))
      exact OR.mono r (Grow.put ha) (upd_ne hb) (r.ob m b u h1 h2)
theorem Rel.fresh (r : Rel G Z μ H S) {p : Addr} (hp : H p = none) : ¬ Z p := fun z => by
  obtain ⟨u, h1, _⟩ := r.zm p z
  rw [hp] at h1; cases h1
theorem Rel.lst (r : Rel G Z μ H S) {n : Nat} {v : V} {ws : List W} (h : VR G Z μ H (.ref n) v) (hs : S[n]? = Option.some (.lst ws)) : ∃ a vs, v = .ref a ∧ μ[n]? = Option.some a ∧ H a = Option.some (.lst vs) ∧ VRs G Z μ H ws vs := by
  unfold VR at h
  obtain ⟨a, h1, rfl⟩ := h
  obtain ⟨vs, h2, h3⟩ := r.ob n a _ h1 hs
  exact ⟨a, vs, rfl, h1, h2, h3⟩
end

/-! ### ends -/
section
variable {G : Glo} {E : XK} {Z : Addr → Prop} {μ : List Addr} {H : Hp} {S : Sto} {Q : VK} {ws : List W} {vs : List V}
/-- a new frozen tuple -/
theorem end_tup (r : Rel G Z μ H S) (k : VRs G Z μ H ws vs) (h : Aft G E Z μ H (.ok (.tup ws) S) (PQ G Q)) : ∀ p, H p = none → Q (.ref p) (upd H p (.tup vs)) := fun p hp => by
  refine h Z μ _ (Grow.add hp) (r.add hp) _ ?_
  unfold VR
  exact ⟨p, vs, rfl, upd_same, VRs.mono r (Grow.add hp) k⟩
theorem end_lst (r : Rel G Z μ H S) (k : VRs G Z μ H ws vs) (h : Aft G E Z μ H (.ok (.lst ws) S) (PQ G Q)) : ∀ p, H p = none → Q (.ref p) (upd H p (.lst vs)) := fun p hp => by
  refine h Z μ _ (Grow.add hp) (r.add hp) _ ?_
  unfold VR
  exact ⟨p, vs, rfl, upd_same, r.fresh hp, VRs.mono r (Grow.add hp) k⟩
theorem end_new (r : Rel G Z μ H S) (k : VRs G Z μ H ws vs) (h : Aft G E Z μ H (.ok (.ref S.length) (S ++ [.lst ws])) (PQ G Q)) : ∀ p, H p = none → Q (.ref p) (upd H p (.lst vs)) := fun p hp => by
  have g : Grow Z μ H (fun a => Z a ∨ a = p) (μ ++ [p]) (upd H p (.lst vs)) := Grow.new hp
  refine h _ _ _ g (r.new hp ⟨rfl, rfl⟩ ⟨vs, upd_same, VRs.mono r g k⟩) _ ?_
  unfold VR
  exact ⟨p, by rw [← r.len]; simp, rfl⟩
theorem end_put {n : Nat} {a : Addr} {w : W} {v : V} (r : Rel G Z μ H S) (hn : μ[n]? = some a) (k : VRs G Z μ H ws vs) (kv : VR G Z μ H w v) (h : Aft G E Z μ H (.ok w (S.set n (.lst ws))) (PQ G Q)) : Q v (upd H a (.lst vs)) := by
  have g : Grow Z μ H Z μ (upd H a (.lst vs)) := Grow.put (List.mem_of_getElem? hn)
  exact h _ _ _ g (r.put hn ⟨rfl, rfl⟩ ⟨vs, upd_same, VRs.mono r g k⟩) _ (VR.mono r g kv)
theorem end_val {w : W} {v : V} (r : Rel G Z μ H S) (k : VR G Z μ H w v) (h : Aft G E Z μ H (.ok w S) (PQ G Q)) : Q v H := Aft.here r h v k
end

/-! ### expressions -/
def mVar (i : Nat) : ME := fun ρ S => match ρ[i]? with
  | some (some w) => .ok w S
  | _ => .stuck
def mC (w : W) : ME := fun _ S => .ok w S
def mBin (f : W → W → Sto → R W) (a b : ME) : ME := fun ρ S => (a ρ S).bind fun x S1 => (b ρ S1).bind fun y S2 => f x y S2
def mUn (f : W → Sto → R W) (a : ME) : ME := fun ρ S => (a ρ S).bind f
def mNil : MA := fun _ S => .ok [] S
def mCons (a : ME) (r : MA) : MA := fun ρ S => (a ρ S).bind fun x S1 => (r ρ S1).bind fun xs S2 => .ok (x :: xs) S2
def mAp (f : List W → Sto → R W) (r : MA) : ME := fun ρ S => (r ρ S).bind f
def gTup' (ws : List W) (S : Sto) : R W := if ws.length ≤ 100000 then .ok (.tup ws) S else .stuck
def gLst (ws : List W) (S : Sto) : R W := if ws.length ≤ 100000 then .ok (.lst ws) S else .stuck
def gNew (ws : List W) (S : Sto) : R W := if ws.length ≤ 100000 then .ok (.ref S.length) (S ++ [.lst ws]) else .stuck
abbrev mTup (r : MA) : ME := mAp gTup' r
abbrev mLst (r : MA) : ME := mAp gLst r
abbrev mNew (r : MA) : ME := mAp gNew r
/-- readings of functions on values -/
def rM (G : Glo) (E : XK) (f : W → W → Sto → R W) : R2 := fun x y H Q => ∃ w u S Z μ, Rel G Z μ H S ∧ VR G Z μ H w x ∧ VR G Z μ H u y ∧ Aft G E Z μ H (f w u S) (PQ G Q)
def uM (G : Glo) (E : XK) (f : W → Sto → R W) : V → Hp → VK → Prop := fun x H Q => ∃ w S Z μ, Rel G Z μ H S ∧ VR G Z μ H w x ∧ Aft G E Z μ H (f w S) (PQ G Q)
def cM (G : Glo) (E : XK) (f : List W → Sto → R W) : List V → Hp → VK → Prop := fun vs H Q => ∃ ws S Z μ, Rel G Z μ H S ∧ VRs G Z μ H ws vs ∧ Aft G E Z μ H (f ws S) (PQ G Q)
def mtM (G : Glo) (E : XK) (f : W → List W → Sto → R W) : V → List V → Hp → VK → Prop := fun x vs H Q => ∃ w ws S Z μ, Rel G Z μ H S ∧ VR G Z μ H w x ∧ VRs G Z μ H ws vs ∧ Aft G E Z μ H (f w ws S) (PQ G Q)
section
variable {X : Cx} {G : Glo} {E : XK} {a b e : Expr} {es : List Expr} {ma mb : ME} {mr : MA} {pos : Pos}
theorem em_var {i : Nat} {x : Expr} (h : PE X x (tVar i)) : PE X x (tM G E (mVar i)) := h.weak fun σ H Q ⟨ρ, S, Z, μ, r, er, af⟩ => by
  unfold mVar at af
  split at af
  · rename_i w e
    obtain ⟨v, h1, h2⟩ := er.at_ i w e
    exact ⟨v, h1, end_val r h2 af⟩
  · exact af.elim
theorem em_c {x : Expr} {w : W} {v : V} (h : PE X x (tC v)) (hw : ∀ Z μ H, VR G Z μ H w v) : PE X x (tM G E (mC w)) := h.weak fun σ H Q ⟨ρ, S, Z, μ, r, er, af⟩ => end_val r (hw _ _ _) af
theorem vr_int {i : Int} : ∀ (Z : Addr → Prop) (μ : List Addr) (H : Hp), VR G Z μ H (.int i) (.int i) := fun _ _ _ => by unfold VR; rfl
theorem vr_bl {i : Bool} : ∀ (Z : Addr → Prop) (μ : List Addr) (H : Hp), VR G Z μ H (.bl i) (.bl i) := fun _ _ _ => by unfold VR; rfl
theorem vr_str {i : Str} : ∀ (Z : Addr → Prop) (μ : List Addr) (H : Hp), VR G Z μ H (.str i) (.str i) := fun _ _ _ => by unfold VR; rfl
theorem vr_non : ∀ (Z : Addr → Prop) (μ : List Addr) (H : Hp), VR G Z μ H .non .non := fun _ _ _ => by unfold VR; rfl
theorem vr_ty {n : String} : ∀ (Z : Addr → Prop) (μ : List Addr) (H : Hp), VR G Z μ H (.ty n) (.ty n) := fun _ _ _ => by unfold VR; rfl
theorem vr_glob {x : Str} {a : Addr} (h : G.mg x = some (.ref a)) : ∀ (Z : Addr → Prop) (μ : List Addr) (H : Hp), VR G Z μ H (.glob x) (.ref a) := fun _ _ _ => by unfold VR; exact ⟨a, h, rfl⟩
theorem em_int {i : Int} {j : Nat} : PE X (.Constant (.int i) j pos) (tM G E (mC (.int i))) := em_c pe_int vr_int
theorem em_bl {i : Bool} {j : Nat} : PE X (.Constant (.bool i) j pos) (tM G E (mC (.bl i))) := em_c pe_bl vr_bl
theorem em_non {j : Nat} : PE X (.Constant .none j pos) (tM G E (mC .non)) := em_c pe_non vr_non
theorem em_str {i : Str} {j : Nat} : PE X (.Constant (.str i) j pos) (tM G E (mC (.str i))) := em_c pe_str vr_str
/-- two parts in a row, handed on to a reading -/
theorem two {σ : St} {H : Hp} {Q : VK} {f : W → W → Sto → R W} (h : tM G E (mBin f ma mb) σ H Q) : tOp (rM G E f) (tM G E ma) (tM G E mb) σ H Q := by
  obtain ⟨ρ, S, Z, μ, r, er, af⟩ := h
  refine ⟨ρ, S, Z, μ, r, er, Aft.imp (Aft.bind af) fun w Z1 μ1 H1 S1 _ g1 r1 a1 x hx => ?_⟩
  refine ⟨ρ, S1, Z1, μ1, r1, er.mono r g1, Aft.imp (Aft.bind a1) fun u Z2 μ2 H2 S2 _ g2 r2 a2 y hy => ?_⟩
  exact ⟨w, u, S2, Z2, μ2, r2, hx.mono r1 g2, hy, a2⟩
theorem em_bin {f : W → W → Sto → R W} (w : ∀ ta tb, PE X a ta → PE X b tb → PE X e (tOp (rM G E f) ta tb)) (ha : PE X a (tM G E ma)) (hb : PE X b (tM G E mb)) : PE X e (tM G E (mBin f ma mb)) :=
  (w _ _ ha hb).weak fun σ H Q h => two h
theorem em_op {op : Operator} {f : W → W → Sto → R W} (ho : OpR X (binaryOp op) (rM G E f)) (ha : PE X a (tM G E ma)) (hb : PE X b (tM G E mb)) : PE X (.BinOp a op b pos) (tM G E (mBin f ma mb)) := em_bin (fun _ _ => pe_op ho) ha hb
theorem em_cmp {op : CmpOp} {f : W → W → Sto → R W} (ho : OpR X (compareOp op) (rM G E f)) (ha : PE X a (tM G E ma)) (hb : PE X b (tM G E mb)) (hm : behindInMarks op b = false := by first | exact nomark _ | rfl) : PE X (.Compare a [op] [b] pos) (tM G E (mBin f ma mb)) :=
  em_bin (fun _ _ h k => pe_cmpR ho h k hm) ha hb
theorem em_ix {f : W → W → Sto → R W} (ho : IxR X (rM G E f)) (ha : PE X a (tM G E ma)) (hb : PE X b (tM G E mb)) (hs : PlainIx b := by exact fun _ _ => rfl) : PE X (.Subscript a b pos) (tM G E (mBin f ma mb)) := em_bin (fun _ _ h k => pe_ix ho h k hs) ha hb
theorem em_un {op : UnaryOp} {f : W → Sto → R W} (ho : UnR X (unaryOp op) (uM G E f)) (ha : PE X a (tM G E ma)) : PE X (.UnaryOp op a pos) (tM G E (mUn f ma)) :=
  (pe_un ho ha).weak fun σ H Q ⟨ρ, S, Z, μ, r, er, af⟩ => ⟨ρ, S, Z, μ, r, er, Aft.imp (Aft.bind af) fun w Z1 μ1 H1 S1 _ g1 r1 a1 x hx => ⟨w, S1, Z1, μ1, r1, hx, a1⟩⟩
theorem am_nil : PA X [] (tMA G E mNil) := pa_nil.weak fun σ H Q ⟨ρ, S, Z, μ, r, er, af⟩ => Aft.here r af [] VRs.nil
theorem am_cons (ha : PE X e (tM G E ma)) (hr : PA X es (tMA G E mr)) (hs : starEach (e :: es) X.env = (false, eval e X.env) :: starEach es X.env := by rfl) : PA X (e :: es) (tMA G E (mCons ma mr)) :=
  (pa_cons ha hr hs).weak fun σ H Q ⟨ρ, S, Z, μ, r, er, af⟩ => ⟨ρ, S, Z, μ, r, er, Aft.imp (Aft.bind af) fun w Z1 μ1 H1 S1 _ g1 r1 a1 x hx =>
    ⟨ρ, S1, Z1, μ1, r1, er.mono r g1, Aft.imp (Aft.bind a1) fun ws Z2 μ2 H2 S2 _ g2 r2 a2 vs hvs => Aft.here r2 a2 (x :: vs) (VRs.cons (hx.mono r1 g2) hvs)⟩⟩
/-- arguments, handed on to a reading -/
theorem args {σ : St} {H : Hp} {Q : VK} {f : List W → Sto → R W} (h : tM G E (mAp f mr) σ H Q) : tMA G E mr σ H fun vs H1 => cM G E f vs H1 Q := by
  obtain ⟨ρ, S, Z, μ, r, er, af⟩ := h
  exact ⟨ρ, S, Z, μ, r, er, Aft.imp (Aft.bind af) fun ws Z1 μ1 H1 S1 _ g1 r1 a1 vs hvs => ⟨ws, S1, Z1, μ1, r1, hvs, a1⟩⟩
theorem em_tup {k : Nat} (h : PA X es (tMA G E mr)) : PE X (.Tuple es k pos) (tM G E (mTup mr)) := (pe_tup h).weak fun σ H Q hh => by
  obtain ⟨ρ, S, Z, μ, r, er, af⟩ := hh
  refine ⟨ρ, S, Z, μ, r, er, Aft.imp (Aft.bind af) fun ws Z1 μ1 H1 S1 _ g1 r1 a1 vs hvs => ?_⟩
  unfold gTup' at a1
  split at a1
  · rename_i hl
    exact ⟨by rw [hvs.length]; exact Nat.le_trans hl (by decide), end_tup r1 hvs a1⟩
  · exact a1.elim
theorem em_lst (h : PA X es (tMA G E mr)) : PE X (.List es pos) (tM G E (mLst mr)) := (pe_lst h).weak fun σ H Q hh => by
  obtain ⟨ρ, S, Z, μ, r, er, af⟩ := hh
  refine ⟨ρ, S, Z, μ, r, er, Aft.imp (Aft.bind af) fun ws Z1 μ1 H1 S1 _ g1 r1 a1 vs hvs => ?_⟩
  unfold gLst at a1
  split at a1
  · rename_i hl
    exact ⟨by rw [hvs.length]; exact Nat.le_trans hl (by decide), end_lst r1 hvs a1⟩
  · exact a1.elim
theorem em_new (h : PA X es (tMA G E mr)) : PE X (.List es pos) (tM G E (mNew mr)) := (pe_lst h).weak fun σ H Q hh => by
  obtain ⟨ρ, S, Z, μ, r, er, af⟩ := hh
  refine ⟨ρ, S, Z, μ, r, er, Aft.imp (Aft.bind af) fun ws Z1 μ1 H1 S1 _ g1 r1 a1 vs hvs => ?_⟩
  unfold gNew at a1
  split at a1
  · rename_i hl
    exact ⟨by rw [hvs.length]; exact Nat.le_trans hl (by decide), end_new r1 hvs a1⟩
  · exact a1.elim
/-- a built-in function, a built-in class -/
theorem em_callB {f : List W → Sto → R W} {x : Str} {p : Pos} {id : String} (hc : CallR X (.builtin id) (cM G E f)) (hg : Gl X x) (hm : X.mg x = none) (hv : bootBuiltins x = some (.builtin id)) (ha : PA X (e :: es) (tMA G E mr)) (hn : x ≠ "__name__" := by decide) (hdb : (x == ("__debug__" : Str)) = false := by decide)
    (he : starEach (e :: es) X.env = (false, eval e X.env) :: starEach es X.env := by rfl) (hpl : (backTo pos (starEach es X.env)).any (·.1) = false := by rfl) : PE X (.Call (.Name x p) (e :: es) [] pos) (tM G E (mAp f mr)) :=
  (pe_callB hc hg hm hv ha hn hdb he hpl).weak fun σ H Q h => args h
theorem em_callTy {f : List W → Sto → R W} {x : Str} {p : Pos} {id : String} (hc : CallR X (.type id) (cM G E f)) (hg : Gl X x) (hm : X.mg x = none) (hv : bootBuiltins x = some (.type id)) (ha : PA X (e :: es) (tMA G E mr)) (hn : x ≠ "__name__" := by decide) (hdb : (x == ("__debug__" : Str)) = false := by decide)
    (he : starEach (e :: es) X.env = (false, eval e X.env) :: starEach es X.env := by rfl) (hpl : (backTo pos (starEach es X.env)).any (·.1) = false := by rfl) : PE X (.Call (.Name x p) (e :: es) [] pos) (tM G E (mAp f mr)) :=
  (pe_callTy hc hg hm hv ha hn hdb he hpl).weak fun σ H Q h => args h
end

/-! ### tests, and, or, not, chains -/
def mIsT (a : ME) : MT := fun ρ S => (a ρ S).bind fun w S1 => match w with
  | .bl b => .ok b S1
  | _ => .stuck
def mNotT (t : MT) : MT := fun ρ S => (t ρ S).bind fun b S1 => .ok (!b) S1
def mAndT (t u : MT) : MT := fun ρ S => (t ρ S).bind fun b S1 => match b with
  | true => u ρ S1
  | false => .ok false S1
def mOrT (t u : MT) : MT := fun ρ S => (t ρ S).bind fun b S1 => match b with
  | true => .ok true S1
  | false => u ρ S1
def mAnd (a b : ME) : ME := fun ρ S => (a ρ S).bind fun w S1 => match w with
  | .bl true => b ρ S1
  | .bl false => .ok (.bl false) S1
  | _ => .stuck
def mOr (a b : ME) : ME := fun ρ S => (a ρ S).bind fun w S1 => match w with
  | .bl true => .ok (.bl true) S1
  | .bl false => b ρ S1
  | _ => .stuck
def mNot (a : ME) : ME := fun ρ S => (a ρ S).bind fun w S1 => match w with
  | .bl b => .ok (.bl (!b)) S1
  | _ => .stuck
def mIf (t : MT) (a b : ME) : ME := fun ρ S => (t ρ S).bind fun c S1 => match c with
  | true => a ρ S1
  | false => b ρ S1
def mChain (f g : W → W → Sto → R W) (a b c : ME) : ME := fun ρ S => (a ρ S).bind fun x S1 => (b ρ S1).bind fun y S2 => (f x y S2).bind fun z S3 => match z with
  | .bl true => (c ρ S3).bind fun u S4 => g y u S4
  | .bl false => .ok (.bl false) S3
  | _ => .stuck
section
variable {X : Cx} {G : Glo} {E : XK} {a b c e : Expr} {rest : List Expr} {ma mb mc : ME} {mt mu : MT} {pos : Pos}
theorem vr_bl_of {Z : Addr → Prop} {μ : List Addr} {H : Hp} {k : Bool} {v : V} (h : VR G Z μ H (.bl k) v) : v = .bl k := by unfold VR at h; exact h
theorem tm_e (w : ∀ t, PE X e t → PT X e (tB t)) (h : PE X e (tM G E ma)) : PT X e (tMT G E (mIsT ma)) := (w _ h).weak fun σ H Q ⟨ρ, S, Z, μ, r, er, af⟩ =>
  ⟨ρ, S, Z, μ, r, er, Aft.imp (Aft.bind af) fun w Z1 μ1 H1 S1 _ g1 r1 a1 x hx => by
    cases w with
    | bl k => exact ⟨k, vr_bl_of hx, Aft.here (E := E) (P := PB Q) r1 a1⟩
    | _ => exact a1.elim⟩
theorem tm_val (h : PE X e (tM G E ma)) (he : ∀ whole, isTrue e X.env whole = (do let v ← whole; standAt e.pos; holding [v] (truthy v)) := by intro _; rfl) : PT X e (tMT G E (mIsT ma)) := tm_e (fun _ h => pt_val h he) h
theorem tm_cmp {op : CmpOp} {f : W → W → Sto → R W} (ho : OpR X (compareOp op) (rM G E f)) (ha : PE X a (tM G E ma)) (hb : PE X b (tM G E mb)) (hm : behindInMarks op b = false := by first | exact nomark _ | rfl) : PT X (.Compare a [op] [b] pos) (tMT G E (mIsT (mBin f ma mb))) :=
  (pt_cmpR ho ha hb hm).weak fun σ H Q ⟨ρ, S, Z, μ, r, er, af⟩ => by
    have h : tM G E (mBin f ma mb) σ H fun x H' => ∃ k, x = .bl k ∧ Q k H' := ⟨ρ, S, Z, μ, r, er, Aft.imp (Aft.bind af) fun w Z1 μ1 H1 S1 _ g1 r1 a1 x hx => by
      cases w with
      | bl k => exact ⟨k, vr_bl_of hx, Aft.here (E := E) (P := PB Q) r1 a1⟩
      | _ => exact a1.elim⟩
    exact two h
theorem tm_not (h : PT X a (tMT G E mt)) : PT X (.UnaryOp .Not a pos) (tMT G E (mNotT mt)) := (pt_not h).weak fun σ H Q ⟨ρ, S, Z, μ, r, er, af⟩ =>
  ⟨ρ, S, Z, μ, r, er, Aft.imp (Aft.bind af) fun b Z1 μ1 H1 S1 _ g1 r1 a1 => Aft.here (E := E) (P := PB Q) r1 a1⟩
theorem wm_and1 (h : PT X a (tMT G E mt)) : PW X (.BoolOp .And [a] pos) (tMT G E mt) := pw_and1 h
theorem wm_or1 (h : PT X a (tMT G E mt)) : PW X (.BoolOp .Or [a] pos) (tMT G E mt) := pw_or1 h
theorem _root_.L2.PW.weak {t t' : TT} (h : PW X e t) (w : ∀ σ H Q, t' σ H Q → t σ H Q) : PW X e t' := ⟨fun wh pins s σ H Q I q => h.run wh pins s σ H Q I (w _ _ _ q)⟩
theorem wm_and (ha : PT X a (tMT G E mt)) (hb : PW X (.BoolOp .And (b :: rest) pos) (tMT G E mu)) : PW X (.BoolOp .And (a :: b :: rest) pos) (tMT G E (mAndT mt mu)) := (pw_and ha hb).weak fun σ H Q ⟨ρ, S, Z, μ, r, er, af⟩ =>
  ⟨ρ, S, Z, μ, r, er, Aft.imp (Aft.bind af) fun k Z1 μ1 H1 S1 _ g1 r1 a1 => by
    cases k with
    | true => exact ⟨ρ, S1, Z1, μ1, r1, er.mono r g1, a1⟩
    | false => exact Aft.here (E := E) (P := PB Q) r1 a1⟩
theorem wm_or (ha : PT X a (tMT G E mt)) (hb : PW X (.BoolOp .Or (b :: rest) pos) (tMT G E mu)) : PW X (.BoolOp .Or (a :: b :: rest) pos) (tMT G E (mOrT mt mu)) := (pw_or ha hb).weak fun σ H Q ⟨ρ, S, Z, μ, r, er, af⟩ =>
  ⟨ρ, S, Z, μ, r, er, Aft.imp (Aft.bind af) fun k Z1 μ1 H1 S1 _ g1 r1 a1 => by
    cases k with
    | true => exact Aft.here (E := E) (P := PB Q) r1 a1
    | false => exact ⟨ρ, S1, Z1, μ1, r1, er.mono r g1, a1⟩⟩
theorem em_one {op : BoolOp} (h : PE X a (tM G E ma)) : PE X (.BoolOp op [a] pos) (tM G E ma) := pe_one h
theorem em_and (ha : PE X a (tM G E ma)) (hb : PE X (.BoolOp .And (b :: rest) pos) (tM G E mb)) : PE X (.BoolOp .And (a :: b :: rest) pos) (tM G E (mAnd ma mb)) := (pe_and ha hb).weak fun σ H Q ⟨ρ, S, Z, μ, r, er, af⟩ =>
  ⟨ρ, S, Z, μ, r, er, Aft.imp (Aft.bind af) fun w Z1 μ1 H1 S1 _ g1 r1 a1 x hx => by
    cases w with
    | bl k =>
      cases k with
      | true => exact ⟨true, vr_bl_of hx, ρ, S1, Z1, μ1, r1, er.mono r g1, a1⟩
      | false => exact ⟨false, vr_bl_of hx, end_val r1 (vr_bl _ _ _) a1⟩
    | _ => exact a1.elim⟩
theorem em_or (ha : PE X a (tM G E ma)) (hb : PE X (.BoolOp .Or (b :: rest) pos) (tM G E mb)) : PE X (.BoolOp .Or (a :: b :: rest) pos) (tM G E (mOr ma mb)) := (pe_or ha hb).weak fun σ H Q ⟨ρ, S, Z, μ, r, er, af⟩ =>
  ⟨ρ, S, Z, μ, r, er, Aft.imp (Aft.bind af) fun w Z1 μ1 H1 S1 _ g1 r1 a1 x hx => by
    cases w with
    | bl k =>
      cases k with
      | false => exact ⟨false, vr_bl_of hx, ρ, S1, Z1, μ1, r1, er.mono r g1, a1⟩
      | true => exact ⟨true, vr_bl_of hx, end_val r1 (vr_bl _ _ _) a1⟩
    | _ => exact a1.elim⟩
theorem em_not (ha : PE X a (tM G E ma)) : PE X (.UnaryOp .Not a pos) (tM G E (mNot ma)) := (pe_not ha).weak fun σ H Q ⟨ρ, S, Z, μ, r, er, af⟩ =>
  ⟨ρ, S, Z, μ, r, er, Aft.imp (Aft.bind af) fun w Z1 μ1 H1 S1 _ g1 r1 a1 x hx => by
    cases w with
    | bl k => exact ⟨k, vr_bl_of hx, end_val r1 (vr_bl _ _ _) a1⟩
    | _ => exact a1.elim⟩
theorem em_if (hc : PT X c (tMT G E mt)) (ha : PE X a (tM G E ma)) (hb : PE X b (tM G E mb)) : PE X (.IfExp c a b pos) (tM G E (mIf mt ma mb)) := (pe_ifExp hc ha hb).weak fun σ H Q ⟨ρ, S, Z, μ, r, er, af⟩ =>
  ⟨ρ, S, Z, μ, r, er, Aft.imp (Aft.bind af) fun k Z1 μ1 H1 S1 _ g1 r1 a1 => by
    cases k with
    | true => exact ⟨ρ, S1, Z1, μ1, r1, er.mono r g1, a1⟩
    | false => exact ⟨ρ, S1, Z1, μ1, r1, er.mono r g1, a1⟩⟩
/-- a < b < c -/
theorem chain_reads {f g : W → W → Sto → R W} {σ : St} {H : Hp} {Q : VK} (h : tM G E (mChain f g ma mb mc) σ H Q) : tChain (rM G E f) (rM G E g) (tM G E ma) (tM G E mb) (tM G E mc) σ H Q := by
  obtain ⟨ρ, S, Z, μ, r, er, af⟩ := h
  refine ⟨ρ, S, Z, μ, r, er, Aft.imp (Aft.bind af) fun w Z1 μ1 H1 S1 _ g1 r1 a1 x hx => ?_⟩
  have er1 := er.mono r g1
  refine ⟨ρ, S1, Z1, μ1, r1, er1, Aft.imp (Aft.bind a1) fun u Z2 μ2 H2 S2 _ g2 r2 a2 y hy => ?_⟩
  have er2 := er1.mono r1 g2
  refine ⟨w, u, S2, Z2, μ2, r2, hx.mono r1 g2, hy, Aft.imp (Aft.bind a2) fun z Z3 μ3 H3 S3 _ g3 r3 a3 v hv => ?_⟩
  cases z with
  | bl k =>
    refine ⟨k, vr_bl_of hv, ?_⟩
    cases k with
    | true =>
      refine iteT ⟨ρ, S3, Z3, μ3, r3, er2.mono r2 g3, Aft.imp (Aft.bind a3) fun t Z4 μ4 H4 S4 _ g4 r4 a4 x4 hx4 => ?_⟩
      exact ⟨u, t, S4, Z4, μ4, r4, (hy.mono r2 g3).mono r3 g4, hx4, a4⟩
    | false => exact iteF (end_val r3 (vr_bl _ _ _) a3)
  | _ => exact a3.elim
theorem em_chain {op op' : CmpOp} {f g : W → W → Sto → R W} (ho : OpR X (compareOp op) (rM G E f)) (ho' : OpR X (compareOp op') (rM G E g)) (ha : PE X a (tM G E ma)) (hb : PE X b (tM G E mb)) (hc : PE X c (tM G E mc))
    (hm : lastMarks [op, op'] [b, c] = false := by with_unfolding_all rfl) : PE X (.Compare a [op, op'] [b, c] pos) (tM G E (mChain f g ma mb mc)) := (pe_chain ho ho' ha hb hc hm).weak fun σ H Q h => chain_reads h
theorem tm_chain {op op' : CmpOp} {f g : W → W → Sto → R W} (ho : OpR X (compareOp op) (rM G E f)) (ho' : OpR X (compareOp op') (rM G E g)) (ha : PE X a (tM G E ma)) (hb : PE X b (tM G E mb)) (hc : PE X c (tM G E mc))
    (hm : lastMarks [op, op'] [b, c] = false := by with_unfolding_all rfl) : PT X (.Compare a [op, op'] [b, c] pos) (tMT G E (mIsT (mChain f g ma mb mc))) := (pt_chain ho ho' ha hb hc hm).weak fun σ H Q ⟨ρ, S, Z, μ, r, er, af⟩ => by
  have h : tM G E (mChain f g ma mb mc) σ H fun x H' => ∃ k, x = .bl k ∧ Q k H' := ⟨ρ, S, Z, μ, r, er, Aft.imp (Aft.bind af) fun w Z1 μ1 H1 S1 _ g1 r1 a1 x hx => by
    cases w with
    | bl k => exact ⟨k, vr_bl_of hx, Aft.here (E := E) (P := PB Q) r1 a1⟩
    | _ => exact a1.elim⟩
  exact chain_reads h
end
end Mo

set_option Elab.async false
set_option linter.all false
set_option maxRecDepth 100000
set_option autoImplicit false
/-! Mon3: statements, targets, what is walked, for, while, comprehensions, calls of defs. -/
namespace Mo
open PySem PySem.Spec L2
open PyProof.Rows hiding St

inductive Fl where
  | nx (ρ : Env') | ret (w : W) | brk (ρ : Env') | cnt (ρ : Env')
abbrev MS := Env' → Sto → R Fl
def PF (G : Glo) (D : Ends) : Fl → (Addr → Prop) → List Addr → Hp → Sto → Prop := fun f Z μ H _ => match f with
  | .nx ρ => ∀ σ, ER G Z μ H ρ σ → D.nx σ H
  | .ret w => ∀ v, VR G Z μ H w v → D.rt v H
  | .brk ρ => ∀ σ, ER G Z μ H ρ σ → D.bk σ H
  | .cnt ρ => ∀ σ, ER G Z μ H ρ σ → D.ct σ H
def tS (G : Glo) (E : XK) (m : MS) : TS := fun D σ H => ∃ ρ S Z μ, Rel G Z μ H S ∧ ER G Z μ H ρ σ ∧ Aft G E Z μ H (m ρ S) (PF G D)

def mSkip : MS := fun ρ S => .ok (.nx ρ) S
def mSeq (a b : MS) : MS := fun ρ S => (a ρ S).bind fun f S1 => match f with
  | .nx ρ1 => b ρ1 S1
  | f => .ok f S1
def mDo (a : ME) : MS := fun ρ S => (a ρ S).bind fun _ S1 => .ok (.nx ρ) S1
def mRet (a : ME) : MS := fun ρ S => (a ρ S).bind fun w S1 => .ok (.ret w) S1
def mRetN : MS := fun _ S => .ok (.ret .non) S
def mCond (t : MT) (a b : MS) : MS := fun ρ S => (t ρ S).bind fun c S1 => match c with
  | true => a ρ S1
  | false => b ρ S1
def mSet (i : Nat) (a : ME) : MS := fun ρ S => (a ρ S).bind fun w S1 => .ok (.nx (ρ.set i (some w))) S1
def mBrk : MS := fun ρ S => .ok (.brk ρ) S
def mCnt : MS := fun ρ S => .ok (.cnt ρ) S
def mRaise (c : Str) : MS := fun _ S => .err c S
/-- targets -/
abbrev MG := W → Env' → Option Env'
def tgN (i : Nat) : MG := fun w ρ => some (ρ.set i (some w))
def setAll : List Nat → List W → Env' → Option Env'
  | [], [], ρ => some ρ
  | i :: is, w :: ws, ρ => setAll is ws (ρ.set i (some w))
  | _, _, _ => none
def tgT (is : List Nat) : MG := fun w ρ => match w with
  | .tup ws => setAll is ws ρ
  | _ => none
def mAsg (g : MG) (a : ME) : MS := fun ρ S => (a ρ S).bind fun w S1 => match g w ρ with
  | some ρ1 => .ok (.nx ρ1) S1
  | none => .stuck
theorem wipe_at : ∀ (vs : List Nat) (σ : St) (j : Nat), (wipe σ vs)[j]? = if j ∈ vs then (if j < σ.length then some none else none) else σ[j]?
  | [], σ, j => by simp [wipe]
  | v :: vs, σ, j => by
    unfold wipe
    by_cases e : v = j
    · subst e
      by_cases hl : v < σ.length
      · rw [List.getElem?_set_self (by rw [wipe_length]; exact hl), if_pos (by simp), if_pos hl]
      · rw [List.getElem?_eq_none (by rw [List.length_set, wipe_length]; omega), if_pos (by simp), if_neg hl]
    · rw [List.getElem?_set_ne e, wipe_at vs σ j]
      have : (j ∈ v :: vs) ↔ j ∈ vs := by simp [Ne.symm e]
      by_cases h : j ∈ vs
      · rw [if_pos h, if_pos (this.mpr h)]
      · rw [if_neg h, if_neg (fun z => h (this.mp z))]
theorem wipe_set {σ : St} {vs : List Nat} {i : Nat} {x : Option V} (h : i ∈ vs) : wipe (σ.set i x) vs = wipe σ vs := by
  apply List.ext_getElem?
  intro j
  rw [wipe_at, wipe_at, List.length_set]
  by_cases hj : j ∈ vs
  · rw [if_pos hj, if_pos hj]
  · rw [if_neg hj, if_neg hj, List.getElem?_set_ne (fun e => hj (by rw [← e]; exact h))]
theorem wipe_wipe {σ : St} {vs : List Nat} : wipe (wipe σ vs) vs = wipe σ vs := by
  apply List.ext_getElem?
  intro j
  rw [wipe_at, wipe_at, wipe_length]
  by_cases hj : j ∈ vs
  · rw [if_pos hj, if_pos hj]
  · rw [if_neg hj, if_neg hj]
def GM (G : Glo) (is : List Nat) (g : TG) (t : MG) : Prop := ∀ (w : W) (ρ ρ1 : Env') (x : V) (σ : St) (Z : Addr → Prop) (μ : List Addr) (H : Hp) (S : Sto) (Q : St → Hp → Prop), Rel G Z μ H S → VR G Z μ H w x → ER G Z μ H ρ σ → t w ρ = some ρ1 →
  (∀ σ2, ER G Z μ H ρ1 σ2 → (∀ vs : List Nat, (∀ i ∈ is, i ∈ vs) → wipe σ2 vs = wipe σ vs) → Q σ2 H) → g x σ H Q
section
variable {X : Cx} {G : Glo} {E : XK} {e : Expr} {st : Stmt} {rest body suite : List Stmt} {ma : ME} {mt : MT} {m1 m2 : MS} {pos : Pos}
theorem sm_nil : PSs X [] (tS G E mSkip) := pss_nil.weak fun D σ H ⟨ρ, S, Z, μ, r, er, af⟩ => Aft.here (E := E) (P := PF G D) r af σ er
theorem seq_reads {D : Ends} {σ : St} {H : Hp} (h : tS G E (mSeq m1 m2) D σ H) : tSeq (tS G E m1) (tS G E m2) D σ H := by
  obtain ⟨ρ, S, Z, μ, r, er, af⟩ := h
  refine ⟨ρ, S, Z, μ, r, er, Aft.imp (Aft.bind af) fun f Z1 μ1 H1 S1 _ g1 r1 a1 => ?_⟩
  cases f with
  | nx ρ1 => exact fun σ1 er1 => ⟨ρ1, S1, Z1, μ1, r1, er1, a1⟩
  | ret w => exact Aft.here (E := E) (P := PF G D) r1 a1
  | brk ρ1 => exact Aft.here (E := E) (P := PF G D) r1 a1
  | cnt ρ1 => exact Aft.here (E := E) (P := PF G D) r1 a1
theorem sm_cons (h1 : PS X st (tS G E m1)) (h2 : PSs X rest (tS G E m2)) : PSs X (st :: rest) (tS G E (mSeq m1 m2)) := (pss_cons h1 h2).weak fun D σ H h => seq_reads h
theorem sm_one (h1 : PS X st (tS G E m1)) : PSs X [st] (tS G E m1) := pss_one h1
theorem sm_pass : PS X (.Pass pos) (tS G E mSkip) := ps_pass.weak fun D σ H ⟨ρ, S, Z, μ, r, er, af⟩ => Aft.here (E := E) (P := PF G D) r af σ er
theorem sm_brk : PS X (.Break pos) (tS G E mBrk) := ps_break.weak fun D σ H ⟨ρ, S, Z, μ, r, er, af⟩ => Aft.here (E := E) (P := PF G D) r af σ er
theorem sm_cnt : PS X (.Continue pos) (tS G E mCnt) := ps_continue.weak fun D σ H ⟨ρ, S, Z, μ, r, er, af⟩ => Aft.here (E := E) (P := PF G D) r af σ er
theorem sm_do (h : PE X e (tM G E ma)) (hs : swapsWith e none pos.line X.env = pure false := by rfl) : PS X (.Expr e pos) (tS G E (mDo ma)) := (ps_expr h hs).weak fun D σ H ⟨ρ, S, Z, μ, r, er, af⟩ =>
  ⟨ρ, S, Z, μ, r, er, Aft.imp (Aft.bind af) fun w Z1 μ1 H1 S1 _ g1 r1 a1 x hx => Aft.here (E := E) (P := PF G D) r1 a1 σ (er.mono r g1)⟩
theorem sm_ret (h : PE X e (tM G E ma)) : PS X (.Return (some e) pos) (tS G E (mRet ma)) := (ps_ret h).weak fun D σ H ⟨ρ, S, Z, μ, r, er, af⟩ =>
  ⟨ρ, S, Z, μ, r, er, Aft.imp (Aft.bind af) fun w Z1 μ1 H1 S1 _ g1 r1 a1 x hx => Aft.here (E := E) (P := PF G D) r1 a1 x hx⟩
theorem sm_retN : PS X (.Return none pos) (tS G E mRetN) := ps_retN.weak fun D σ H ⟨ρ, S, Z, μ, r, er, af⟩ => Aft.here (E := E) (P := PF G D) r af .non (vr_non _ _ _)
theorem sm_if {c : Expr} {a b : List Stmt} (hc : PT X c (tMT G E mt)) (ha : PSs X a (tS G E m1)) (hb : PSs X b (tS G E m2)) : PS X (.If c a b pos) (tS G E (mCond mt m1 m2)) := (ps_if hc ha hb).weak fun D σ H ⟨ρ, S, Z, μ, r, er, af⟩ =>
  ⟨ρ, S, Z, μ, r, er, Aft.imp (Aft.bind af) fun k Z1 μ1 H1 S1 _ g1 r1 a1 => by
    cases k with
    | true => exact ⟨ρ, S1, Z1, μ1, r1, er.mono r g1, a1⟩
    | false => exact ⟨ρ, S1, Z1, μ1, r1, er.mono r g1, a1⟩⟩
theorem set_reads {i : Nat} {D : Ends} {σ : St} {H : Hp} (h : tS G E (mSet i ma) D σ H) : tAsg (tM G E ma) (gName i) D σ H := by
  obtain ⟨ρ, S, Z, μ, r, er, af⟩ := h
  exact ⟨ρ, S, Z, μ, r, er, Aft.imp (Aft.bind af) fun w Z1 μ1 H1 S1 _ g1 r1 a1 x hx => Aft.here (E := E) (P := PF G D) r1 a1 _ ((er.mono r g1).set hx i)⟩
theorem sm_set {i : Nat} {x : Str} {pos' : Pos} (h : PE X e (tM G E ma)) (hN : X.N.Nodup) (hi : X.N[i]? = some x := by rfl) (hx : Loc X.env.scope x := by first | exact Or.inl rfl | exact Or.inr rfl) (hs : swapsWith e (some (.Name x pos')) pos.line X.env = pure false := by rfl) (hf : X.fn x = true ∨ X.env.scope.names.lookup x = some .local := by first | exact .inl rfl | exact .inr rfl | assumption) :
    PS X (.Assign [.Name x pos'] e pos) (tS G E (mSet i ma)) := (ps_set hN hi hx h hs hf).weak fun D σ H h => set_reads h
theorem asg_reads {g : TG} {t : MG} {is : List Nat} (hg : GM G is g t) {D : Ends} {σ : St} {H : Hp} (h : tS G E (mAsg t ma) D σ H) : tAsg (tM G E ma) g D σ H := by
  obtain ⟨ρ, S, Z, μ, r, er, af⟩ := h
  refine ⟨ρ, S, Z, μ, r, er, Aft.imp (Aft.bind af) fun w Z1 μ1 H1 S1 _ g1 r1 a1 x hx => ?_⟩
  cases e1 : t w ρ with
  | none => rw [e1] at a1; exact a1.elim
  | some ρ1 =>
    rw [e1] at a1
    exact hg w ρ ρ1 x σ Z1 μ1 H1 S1 _ r1 hx (er.mono r g1) e1 fun σ2 er2 _ => Aft.here (E := E) (P := PF G D) r1 a1 σ2 er2
theorem sm_asg {tg : Expr} {g : TG} {t : MG} {is : List Nat} (hg : GM G is g t) (he : PE X e (tM G E ma)) (hp : PG X tg g) (hs : swapsWithSole [tg] e pos.line X.env = pure false := by rfl) (hw : swappedStores [tg] e X.env = pure none := by rfl)
    (h1 : (assignEach [tg] X.env).map (·.2) = [assign tg X.env] := by rfl) : PS X (.Assign [tg] e pos) (tS G E (mAsg t ma)) := (ps_asg he hp hs hw h1).weak fun D σ H h => asg_reads hg h
theorem gm_name {i : Nat} : GM G [i] (gName i) (tgN i) := fun w ρ ρ1 x σ Z μ H S Q r hx er e q => by
  cases e
  exact q _ (er.set hx i) fun vs h => wipe_set (h i (by simp))
/-- several names -/
def gAll : List Nat → TGs
  | [] => gNil
  | i :: is => gCons (gName i) (gAll is)
theorem gm_all {Z : Addr → Prop} {μ : List Addr} {H : Hp} {Q : St → Hp → Prop} : ∀ (is : List Nat) (ws : List W) (vs : List V) (ρ ρ1 : Env') (σ : St), VRs G Z μ H ws vs → ER G Z μ H ρ σ → setAll is ws ρ = some ρ1 → (∀ σ2, ER G Z μ H ρ1 σ2 → (∀ vs : List Nat, (∀ i ∈ is, i ∈ vs) → wipe σ2 vs = wipe σ vs) → Q σ2 H) → gAll is vs σ H Q
  | [], [], vs, ρ, ρ1, σ, hv, er, e, q => by
    unfold VRs at hv
    unfold setAll at e
    cases e
    exact ⟨hv, q _ er fun _ _ => rfl⟩
  | i :: is, w :: ws, vs, ρ, ρ1, σ, hv, er, e, q => by
    unfold VRs at hv
    obtain ⟨v, r, rfl, h1, h2⟩ := hv
    unfold setAll at e
    exact ⟨v, r, rfl, gm_all is ws r _ ρ1 _ h2 (er.set h1 i) e fun σ2 er2 hw => q σ2 er2 fun vs h => (hw vs fun j hj => h j (List.mem_cons_of_mem _ hj)).trans (wipe_set (h i (by simp)))⟩
  | [], _ :: _, _, _, _, _, _, _, e, _ => by unfold setAll at e; cases e
  | _ :: _, [], _, _, _, _, _, _, e, _ => by unfold setAll at e; cases e
theorem setAll_len : ∀ (is : List Nat) (ws : List W) (ρ ρ1 : Env'), setAll is ws ρ = some ρ1 → ws.length = is.length
  | [], [], _, _, _ => rfl
  | i :: is, w :: ws, ρ, ρ1, e => by unfold setAll at e; simp [setAll_len is ws _ ρ1 e]
  | [], _ :: _, _, _, e => by unfold setAll at e; cases e
  | _ :: _, [], _, _, e => by unfold setAll at e; cases e
theorem gm_tup {K : PySem.W.Frag} {is : List Nat} {n : Nat} (hn : n = is.length) : GM G is (gTup K n (gAll is)) (tgT is) := fun w ρ ρ1 x σ Z μ H S Q r hx er e q => by
  cases w with
  | tup ws =>
    unfold VR at hx
    obtain ⟨a, vs, rfl, h1, h2⟩ := hx
    have hl := setAll_len is ws ρ ρ1 e
    exact ⟨a, vs, rfl, .inl (.inl h1), by rw [h2.length, hl, hn], gm_all is ws vs ρ ρ1 σ h2 er e q⟩
  | _ => unfold tgT at e; cases e
/-- raise X('..') -/
theorem sm_raise {W' : WX} {C : Addr} {c : Str} (hc : X.calm = true) (tk : Takes X W') (hW : ∀ cls d σ H, E cls d H → W' cls d σ H) (he : PMk X e (fun _ H Q => Q (.ref C) none H)) (gC : G.mg c = some (.ref C)) : PS X (.Raise (some e) none pos) (tS G E (mRaise c)) :=
  (ps_raise hc tk he).weak fun D σ H ⟨ρ, S, Z, μ, r, er, af⟩ => by
    obtain ⟨a, h1, h2⟩ := af Z μ H Grow.refl r
    rw [gC] at h1; cases h1
    exact hW _ _ _ _ h2
end

/-! ### equal values -/
mutual
def W.beq : W → W → Bool
  | .non, .non => true
  | .bl a, .bl b => a == b
  | .int a, .int b => decide (a = b)
  | .str a, .str b => decide (a = b)
  | .ty a, .ty b => decide (a = b)
  | .tup a, .tup b => beqs a b
  | .lst a, .lst b => beqs a b
  | .ref a, .ref b => decide (a = b)
  | .glob a, .glob b => decide (a = b)
  | .exc a, .exc b => decide (a = b)
  | .clo a x, .clo b y => decide (a = b) && beqs x y
  | .scr a, .scr b => decide (a = b)
  | _, _ => false
def beqs : List W → List W → Bool
  | [], [] => true
  | a :: as, b :: bs => W.beq a b && beqs as bs
  | _, _ => false
end
mutual
theorem W.beq_eq : ∀ {a b : W}, W.beq a b = true → a = b
  | .non, b, h => by cases b <;> first | rfl | (unfold W.beq at h; cases h)
  | .bl a, b, h => by cases b <;> first | (unfold W.beq at h; rw [eq_of_beq h]) | (unfold W.beq at h; cases h)
  | .int a, b, h => by cases b <;> first | (unfold W.beq at h; rw [of_decide_eq_true h]) | (unfold W.beq at h; cases h)
  | .str a, b, h => by cases b <;> first | (unfold W.beq at h; rw [of_decide_eq_true h]) | (unfold W.beq at h; cases h)
  | .ty a, b, h => by cases b <;> first | (unfold W.beq at h; rw [of_decide_eq_true h]) | (unfold W.beq at h; cases h)
  | .tup a, b, h => by cases b <;> first | (unfold W.beq at h; rw [beqs_eq h]) | (unfold W.beq at h; cases h)
  | .lst a, b, h => by cases b <;> first | (unfold W.beq at h; rw [beqs_eq h]) | (unfold W.beq at h; cases h)
  | .ref a, b, h => by cases b <;> first | (unfold W.beq at h; rw [of_decide_eq_true h]) | (unfold W.beq at h; cases h)
  | .glob a, b, h => by cases b <;> first | (unfold W.beq at h; rw [of_decide_eq_true h]) | (unfold W.beq at h; cases h)
  | .exc a, b, h => by cases b <;> first | (unfold W.beq at h; rw [of_decide_eq_true h]) | (unfold W.beq at h; cases h)
  | .clo a x, b, h => by cases b <;> first | (unfold W.beq at h; have h' := Bool.and_eq_true_iff.mp h; rw [of_decide_eq_true h'.1, beqs_eq h'.2]) | (unfold W.beq at h; cases h)
  | .scr a, b, h => by cases b <;> first | (unfold W.beq at h; rw [of_decide_eq_true h]) | (unfold W.beq at h; cases h)
theorem beqs_eq : ∀ {a b : List W}, beqs a b = true → a = b
  | [], b, h => by
    cases b with
    | nil => rfl
    | cons _ _ => unfold beqs at h; cases h
  | a :: as, b, h => by
    cases b with
    | nil => unfold beqs at h; cases h
    | cons b bs =>
      unfold beqs at h
      have h' := Bool.and_eq_true_iff.mp h
      rw [W.beq_eq h'.1, beqs_eq h'.2]
end
/-! ### what is walked: the items; a place of the store that is to stay as it is while they are -/
structure Its' where
  ws : List W
  at_ : Option Nat
abbrev MI := Env' → Sto → R Its'
def Its'.stays (J : Its') (S : Sto) : Bool := match J.at_ with
  | none => true
  | some n => match S[n]? with
    | some (.lst us) => beqs us J.ws
    | _ => false
structure ItM (G : Glo) (Z0 : Addr → Prop) (μ0 : List Addr) (H0 : Hp) (wi : Its') (J : It) : Prop where
  go : ∀ (Z : Addr → Prop) (μ : List Addr) (H : Hp) (S : Sto), Grow Z0 μ0 H0 Z μ H → Rel G Z μ H S → wi.stays S = true → ∀ (i : Nat) (w : W), wi.ws[i]? = some w → J.go i H ∧ ∀ x H', J.yld i H x H' → (∀ a o, H a = some o → H' a = some o) ∧ VR G Z μ H' w x
  stop : ∀ (Z : Addr → Prop) (μ : List Addr) (H : Hp) (S : Sto), Grow Z0 μ0 H0 Z μ H → Rel G Z μ H S → wi.stays S = true → J.stop wi.ws.length H
def PI' (G : Glo) (Rk : It → Hp → Prop) : Its' → (Addr → Prop) → List Addr → Hp → Sto → Prop := fun ws Z μ H _ => ∀ J, ItM G Z μ H ws J → Rk J H
def tI (G : Glo) (E : XK) (m : MI) : TI := fun σ H Rk => ∃ ρ S Z μ, Rel G Z μ H S ∧ ER G Z μ H ρ σ ∧ Aft G E Z μ H (m ρ S) (PI' G Rk)
theorem _root_.L2.PI.weak {X : Cx} {tg e : Expr} {t t' : TI} (h : PI X tg e t) (w : ∀ σ H Q, t' σ H Q → t σ H Q) : PI X tg e t' := ⟨fun pins s σ H Q I q => h.run pins s σ H Q I (w _ _ _ q)⟩
/-- the items of a tuple, of a frozen list -/
def mItV (a : ME) : MI := fun ρ S => (a ρ S).bind fun w S1 => match w with
  | .tup ws => .ok ⟨ws, none⟩ S1
  | .lst ws => .ok ⟨ws, none⟩ S1
  | .ref n => (match S1[n]? with
    | some (.lst ws) => .ok ⟨ws, some n⟩ S1
    | _ => .stuck)
  | _ => .stuck
/-- the script's items -/
def mItS (a : ME) : MI := fun ρ S => (a ρ S).bind fun w S1 => match w with
  | .scr ns => .ok ⟨ns.map .int, none⟩ S1
  | _ => .stuck
def rangeW (lo : Int) : Nat → List W
  | 0 => []
  | n + 1 => .int lo :: rangeW (lo + 1) n
def mRng1 (r : MA) : MI := fun ρ S => (r ρ S).bind fun ws S1 => match ws with
  | [.int j] => if j < 100000 ∧ -100000 < j then .ok ⟨rangeW 0 j.toNat, none⟩ S1 else .stuck
  | _ => .stuck
def mRng2 (r : MA) : MI := fun ρ S => (r ρ S).bind fun ws S1 => match ws with
  | [.int i, .int j] => if j < 100000 ∧ -100000 < j ∧ i < 100000 ∧ -100000 < i then .ok ⟨rangeW i (j - i).toNat, none⟩ S1 else .stuck
  | _ => .stuck
theorem rangeW_get : ∀ (n : Nat) (lo : Int) (i : Nat) (w : W), (rangeW lo n)[i]? = some w → w = .int (lo + i) ∧ i < n
  | 0, _, _, _, e => by simp [rangeW] at e
  | n + 1, lo, 0, w, e => by simp [rangeW] at e; subst e; simp
  | n + 1, lo, i + 1, w, e => by
    have e' : (rangeW (lo + 1) n)[i]? = some w := by simpa [rangeW] using e
    obtain ⟨h1, h2⟩ := rangeW_get n (lo + 1) i w e'
    refine ⟨by rw [h1]; congr 1; push_cast; omega, by omega⟩
theorem rangeW_len : ∀ (n : Nat) (lo : Int), (rangeW lo n).length = n
  | 0, _ => rfl
  | n + 1, lo => by simp [rangeW, rangeW_len n]
def iLT (K : PySem.W.Frag) (tl : TE) : TI := fun σ H R => tl σ H fun x H1 => (∃ a, x = .ref a ∧ (∃ xs, SqL K H1 a xs) ∧ R (Itl K a) H1) ∨ (∃ a, x = .ref a ∧ (∃ xs, SqT K H1 a xs) ∧ R (Itt K a) H1)
theorem pi_lt {X : Cx} {tg l : Expr} {tl : TE} (hl : PE X l tl) : PI X tg l (iLT X.K tl) := by
  refine ⟨fun pins s σ H R I h => ?_⟩
  refine thn (hl.run pins s σ H _ I h) fun v s1 ⟨x, H1, I1, r1, q1⟩ => ?_
  rcases q1 with ⟨a, e, hx, q⟩ | ⟨a, e, hx, q⟩
  · have pc : PE { X with } l (fun σ' H' Q' => σ' = σ ∧ H' = H1 ∧ True) → True := fun _ => trivial
    subst e
    cases r1
    obtain ⟨xs, hq⟩ := hx
    obtain ⟨its, rv, p, hz⟩ := I1.list hq
    refine wpAny_pyIter_list p.isList ?_
    refine ⟨s1.heap.objs.size, [s1.heap.objs.size], _, _, H1, rfl, I1.kept (t' := s1.toks) fun b o e => Heap.get?_push_of_some _ e, turn_list a _, ⟨_, Heap.get?_push_size _ rfl, rfl, rfl⟩, fun b hb => ?_, q⟩
    have e : b = s1.heap.objs.size := by simpa using hb
    subst e
    exact I1.fpOk (Nat.le_refl _) (I1.hok.fresh (Nat.le_refl _))
  · subst e
    cases r1
    obtain ⟨xs, hq⟩ := hx
    obtain ⟨its, rv, p, hz⟩ := I1.tuple hq
    refine wpAny_pyIter_tuple (show s1.heap.IsTuple a its.toArray from p) ?_
    refine ⟨s1.heap.objs.size, [s1.heap.objs.size], _, _, H1, rfl, I1.kept (t' := s1.toks) fun b o e => Heap.get?_push_of_some _ e, turn_tuple a _, ⟨_, Heap.get?_push_size _ rfl, rfl, rfl⟩, fun b hb => ?_, q⟩
    have e : b = s1.heap.objs.size := by simpa using hb
    subst e
    exact I1.fpOk (Nat.le_refl _) (I1.hok.fresh (Nat.le_refl _))
section
variable {X : Cx} {G : Glo} {E : XK} {e tg : Expr} {es : List Expr} {ma : ME} {mr : MA} {pos p : Pos} {Z : Addr → Prop} {μ : List Addr} {H : Hp} {S : Sto} {ws : List W} {vs : List V} {a : Addr} {K : PySem.W.Frag}
theorem rd_inj {u u' : List V} (h : Rd H a (.lst u)) (h' : Rd H a (.lst u')) : u = u' := by
  rcases h with h | ⟨o, h⟩ <;> rcases h' with h' | ⟨o', h'⟩ <;> rw [h] at h' <;> cases h' <;> rfl
theorem itm_tup (r : Rel G Z μ H S) (ha : H a = some (.tup vs)) (k : VRs G Z μ H ws vs) : ItM G Z μ H ⟨ws, none⟩ (Itt K a) where
  go := fun Z' μ' H' S' g r' _ i w hw => by
    have h' := g.still r a _ ha rfl
    obtain ⟨v, h1, h2⟩ := (VRs.mono r g k).get hw
    refine ⟨⟨vs, v, .inl (.inl h'), h1⟩, fun x H2 y => ?_⟩
    obtain ⟨rfl, y⟩ := y
    refine ⟨fun _ _ q => q, ?_⟩
    have := y vs (.inl (.inl h'))
    rw [h1] at this; cases this
    exact h2
  stop := fun Z' μ' H' S' g r' _ => ⟨vs, .inl (.inl (g.still r a _ ha rfl)), Nat.le_of_eq k.length⟩
theorem itm_range {lo : Int} {n : Nat} : ItM G Z μ H ⟨rangeW lo n, none⟩ (Itr lo n) where
  go := fun Z' μ' H' S' g r' _ i w hw => by
    obtain ⟨h1, h2⟩ := rangeW_get n lo i w hw
    refine ⟨h2, fun x H2 y => ?_⟩
    obtain ⟨rfl, rfl⟩ := y
    exact ⟨fun _ _ q => q, by rw [h1]; exact vr_int _ _ _⟩
  stop := fun Z' μ' H' S' g r' _ => by
    show n ≤ (rangeW lo n).length
    rw [rangeW_len]
    exact Nat.le_refl _
theorem im_val (h : PE X e (tM G E ma)) : PI X tg e (tI G E (mItV ma)) := (pi_lt h).weak fun σ H Q ⟨ρ, S, Z, μ, r, er, af⟩ =>
  ⟨ρ, S, Z, μ, r, er, Aft.imp (Aft.bind af) fun w Z1 μ1 H1 S1 _ g1 r1 a1 x hx => by
    cases w with
    | tup ws =>
      unfold VR at hx
      obtain ⟨a, vs, rfl, h1, h2⟩ := hx
      exact .inr ⟨a, rfl, ⟨vs, .inl (.inl h1)⟩, Aft.here (E := E) (P := PI' G Q) r1 a1 _ (itm_tup r1 h1 h2)⟩
    | lst ws =>
      unfold VR at hx
      obtain ⟨a, vs, rfl, h1, hz, h2⟩ := hx
      have h1 : Rd H1 a (.lst vs) := .inl h1
      refine .inl ⟨a, rfl, ⟨vs, .inl h1⟩, Aft.here (E := E) (P := PI' G Q) r1 a1 _ ⟨?_, ?_⟩⟩
      · intro Z' μ' H' S' g r' _ i w hw
        have h' := g.rd r1 hz h1
        obtain ⟨v, q1, q2⟩ := (VRs.mono r1 g h2).get hw
        refine ⟨⟨vs, v, .inl h', q1⟩, fun x H2 y => ?_⟩
        obtain ⟨rfl, y⟩ := y
        refine ⟨fun _ _ q => q, ?_⟩
        have := y vs (.inl h')
        rw [q1] at this; cases this
        exact q2
      · exact fun Z' μ' H' S' g r' _ => ⟨vs, .inl (g.rd r1 hz h1), Nat.le_of_eq h2.length⟩
    | ref n =>
      dsimp only at a1
      cases e1 : S1[n]? with
      | none => rw [e1] at a1; exact a1.elim
      | some o =>
        rw [e1] at a1
        cases o with
        | dict _ => exact a1.elim
        | lst ws =>
          obtain ⟨a, vs, rfl, q1, q2, q3⟩ := r1.lst hx e1
          have look : ∀ {Z' : Addr → Prop} {μ' : List Addr} {H' : Hp} {S' : Sto}, Grow Z1 μ1 H1 Z' μ' H' → Rel G Z' μ' H' S' → (Its'.stays ⟨ws, some n⟩ S') = true → ∃ us, H' a = some (.lst us) ∧ VRs G Z' μ' H' ws us := fun {Z' μ' H' S'} g r' st => by
            unfold Its'.stays at st
            dsimp only at st
            split at st
            · rename_i us hs
              rw [beqs_eq st] at hs
              exact r'.ob n a _ (g.get q1) hs
            · cases st
          refine .inl ⟨a, rfl, ⟨vs, .inl (.inl q2)⟩, Aft.here (E := E) (P := PI' G Q) r1 a1 _ ⟨?_, ?_⟩⟩
          · intro Z' μ' H' S' g r' st i w hw
            obtain ⟨us, h1, h2⟩ := look g r' st
            obtain ⟨v, k1, k2⟩ := h2.get hw
            refine ⟨⟨us, v, .inl (.inl h1), k1⟩, fun x H2 y => ?_⟩
            obtain ⟨rfl, y⟩ := y
            refine ⟨fun _ _ q => q, ?_⟩
            have := y us (.inl (.inl h1))
            rw [k1] at this; cases this
            exact k2
          · intro Z' μ' H' S' g r' st
            obtain ⟨us, h1, h2⟩ := look g r' st
            exact ⟨us, .inl (.inl h1), Nat.le_of_eq h2.length⟩
    | _ => exact a1.elim⟩
theorem im_rng1 (hg : Gl X "range") (hm : X.mg "range" = none) (ha : PA X [e] (tMA G E mr)) (hs : starEach [e] X.env = [(false, eval e X.env)] := by rfl) : PI X tg (.Call (.Name "range" p) [e] [] pos) (tI G E (mRng1 mr)) :=
  (pi_range1 hg hm ha hs).weak fun σ H Q ⟨ρ, S, Z, μ, r, er, af⟩ => ⟨ρ, S, Z, μ, r, er, Aft.imp (Aft.bind af) fun ws Z1 μ1 H1 S1 _ g1 r1 a1 vs hvs => by
    split at a1
    · rename_i j
      split at a1
      · rename_i hj
        unfold VRs at hvs
        obtain ⟨v, q, rfl, h1, h2⟩ := hvs
        unfold VR at h1; unfold VRs at h2
        subst h1 h2
        exact ⟨_, rfl, by omega, by omega, Aft.here (E := E) (P := PI' G Q) r1 a1 _ itm_range⟩
      · exact a1.elim
    · exact a1.elim⟩
theorem im_rng2 {b : Expr} (hg : Gl X "range") (hm : X.mg "range" = none) (ha : PA X [e, b] (tMA G E mr)) (hs : starEach [e, b] X.env = [(false, eval e X.env), (false, eval b X.env)] := by rfl) (hs2 : starEach [b] X.env = [(false, eval b X.env)] := by rfl) : PI X tg (.Call (.Name "range" p) [e, b] [] pos) (tI G E (mRng2 mr)) :=
  (pi_range2 hg hm ha hs hs2).weak fun σ H Q ⟨ρ, S, Z, μ, r, er, af⟩ => ⟨ρ, S, Z, μ, r, er, Aft.imp (Aft.bind af) fun ws Z1 μ1 H1 S1 _ g1 r1 a1 vs hvs => by
    split at a1
    · rename_i i j
      split at a1
      · rename_i hj
        unfold VRs at hvs
        obtain ⟨v, q, rfl, h1, h2⟩ := hvs
        unfold VRs at h2
        obtain ⟨v2, q2, rfl, h3, h4⟩ := h2
        unfold VR at h1 h3; unfold VRs at h4
        subst h1 h3 h4
        exact ⟨_, _, rfl, ⟨by omega, by omega, by omega, by omega⟩, Aft.here (E := E) (P := PI' G Q) r1 a1 _ itm_range⟩
      · exact a1.elim
    · exact a1.elim⟩
end

/-! ### for -/
def forGo (g : MG) (body : MS) (wi : Its') : List W → Env' → Sto → R Fl
  | [], ρ, S => if wi.stays S then .ok (.nx ρ) S else .stuck
  | w :: ws, ρ, S => if wi.stays S then (match g w ρ with
    | none => .stuck
    | some ρ1 => (body ρ1 S).bind fun f S2 => match f with
      | .nx ρ2 => forGo g body wi ws ρ2 S2
      | .cnt ρ2 => forGo g body wi ws ρ2 S2
      | .brk ρ2 => .ok (.nx ρ2) S2
      | .ret w => .ok (.ret w) S2) else .stuck
def mFor (it : MI) (g : MG) (body : MS) : MS := fun ρ S => (it ρ S).bind fun wi S1 => forGo g body wi wi.ws ρ S1
section
variable {X : Cx} {G : Glo} {E : XK} {e tg iter : Expr} {body : List Stmt} {mi : MI} {mb : MS} {pos : Pos} {g : TG} {t : MG}
theorem for_reads {is : List Nat} (hg : GM G is g t) {D : Ends} {σ : St} {H : Hp} (h : tS G E (mFor mi t mb) D σ H) : tFor (tI G E mi) g (tS G E mb) D σ H := by
  obtain ⟨ρ, S, Z, μ, r, er, af⟩ := h
  refine ⟨ρ, S, Z, μ, r, er, Aft.imp (Aft.bind af) fun wi Z1 μ1 H1 S1 _ g1 r1 a1 J hJ => ?_⟩
  refine ⟨fun i m σ H => ∃ ρ S Z μ, Rel G Z μ H S ∧ ER G Z μ H ρ σ ∧ Grow Z1 μ1 H1 Z μ H ∧ i ≤ wi.ws.length ∧ m = wi.ws.length - i ∧ Aft G E Z μ H (forGo t mb wi (wi.ws.drop i) ρ S) (PF G D), ⟨wi.ws.length, ρ, S1, Z1, μ1, r1, er.mono r g1, Grow.refl, Nat.zero_le _, rfl, a1⟩, ?_⟩
  rintro i m σ H ⟨ρ2, S2, Z2, μ2, r2, er2, g2, hi, rfl, a2⟩
  by_cases hlt : i < wi.ws.length
  · rw [List.drop_eq_getElem_cons hlt] at a2
    have hw : wi.ws[i]? = some wi.ws[i] := List.getElem?_eq_getElem hlt
    unfold forGo at a2
    cases st : wi.stays S2 with
    | false => rw [st, if_neg Bool.false_ne_true] at a2; exact a2.elim
    | true =>
    rw [st, if_pos rfl] at a2
    obtain ⟨hgo, hy⟩ := hJ.go Z2 μ2 H S2 g2 r2 st i _ hw
    refine .inr ⟨hgo, fun σ' H' => ∃ ρ S Z μ, Rel G Z μ H' S ∧ ER G Z μ H' ρ σ' ∧ Grow Z1 μ1 H1 Z μ H' ∧ Aft G E Z μ H' (forGo t mb wi (wi.ws.drop (i + 1)) ρ S) (PF G D), ?_, ?_⟩
    · rintro σ' H' ⟨ρ3, S3, Z3, μ3, r3, er3, g3, a3⟩
      exact ⟨wi.ws.length - (i + 1), by omega, ρ3, S3, Z3, μ3, r3, er3, g3, hlt, rfl, a3⟩
    · intro x H' hyx
      obtain ⟨hk, hv⟩ := hy x H' hyx
      obtain ⟨r3, g3⟩ := r2.ext hk
      have a3 := Aft.mono r3 g3 a2
      have er3 := er2.mono r2 g3
      cases e1 : t wi.ws[i] ρ2 with
      | none => rw [e1] at a3; exact a3.elim
      | some ρ4 =>
        rw [e1] at a3
        refine hg _ ρ2 ρ4 x σ Z2 μ2 H' S2 _ r3 hv er3 e1 fun σ4 er4 _ => ?_
        refine ⟨ρ4, S2, Z2, μ2, r3, er4, Aft.imp (Aft.bind a3) fun f Z5 μ5 H5 S5 _ g5 r5 a5 => ?_⟩
        have g15 : Grow Z1 μ1 H1 Z5 μ5 H5 := Grow.trans r3 (Grow.trans r2 g2 g3) g5
        cases f with
        | nx ρ6 => exact fun σ6 er6 => ⟨ρ6, S5, Z5, μ5, r5, er6, g15, a5⟩
        | cnt ρ6 => exact fun σ6 er6 => ⟨ρ6, S5, Z5, μ5, r5, er6, g15, a5⟩
        | brk ρ6 => exact fun σ6 er6 => Aft.here (E := E) (P := PF G D) r5 a5 σ6 er6
        | ret w => exact fun v hv => Aft.here (E := E) (P := PF G D) r5 a5 v hv
  · have e : i = wi.ws.length := by omega
    subst e
    rw [List.drop_length] at a2
    unfold forGo at a2
    cases st : wi.stays S2 with
    | false => rw [st, if_neg Bool.false_ne_true] at a2; exact a2.elim
    | true =>
      rw [st, if_pos rfl] at a2
      exact .inl ⟨hJ.stop Z2 μ2 H S2 g2 r2 st, Aft.here (E := E) (P := PF G D) r2 a2 σ er2⟩
theorem sm_for {is : List Nat} (hg : GM G is g t) (hp : PassesOwn (model X.prog X.w) X.A X.env X.xe) (hc : X.calm = true) (hi : PI X tg iter (tI G E mi)) (hpg : PG X tg g) (hb : PSs X body (tS G E mb)) (hs : ∀ x, foldedSetIterable iter X.env x = pure x := by intro _; rfl) :
    PS X (.For tg iter body [] pos) (tS G E (mFor mi t mb)) := (ps_for hp hc hi hpg hb hs).weak fun D σ H h => for_reads hg h
end

/-! ### while -/
def whGo (c : MT) (body : MS) : Nat → Env' → Sto → R Fl
  | 0, _, _ => .stuck
  | n + 1, ρ, S => (c ρ S).bind fun b S1 => match b with
    | false => .ok (.nx ρ) S1
    | true => (body ρ S1).bind fun f S2 => match f with
      | .nx ρ2 => whGo c body n ρ2 S2
      | .cnt ρ2 => whGo c body n ρ2 S2
      | .brk ρ2 => .ok (.nx ρ2) S2
      | .ret w => .ok (.ret w) S2
def mWhile (n : Nat) (c : MT) (body : MS) : MS := whGo c body n
section
variable {X : Cx} {G : Glo} {E : XK} {e c : Expr} {body : List Stmt} {mt : MT} {mb : MS} {pos : Pos}
theorem while_reads {n : Nat} {D : Ends} {σ : St} {H : Hp} (h : tS G E (mWhile n mt mb) D σ H) : tWhile (tMT G E mt) (tS G E mb) D σ H := by
  refine ⟨fun m σ H => tS G E (whGo mt mb m) D σ H, ⟨n, h⟩, ?_⟩
  rintro m σ H ⟨ρ, S, Z, μ, r, er, af⟩
  cases m with
  | zero => exact af.elim
  | succ m =>
    refine ⟨ρ, S, Z, μ, r, er, Aft.imp (Aft.bind af) fun b Z1 μ1 H1 S1 _ g1 r1 a1 => ?_⟩
    have er1 := er.mono r g1
    cases b with
    | false =>
      unfold PB
      dsimp only
      rw [if_neg Bool.false_ne_true]
      exact Aft.here (E := E) (P := PF G D) r1 a1 σ er1
    | true =>
      unfold PB
      dsimp only
      rw [if_pos rfl]
      refine ⟨fun σ' H' => tS G E (whGo mt mb m) D σ' H', fun σ' H' q => ⟨m, Nat.lt_succ_self _, q⟩, ρ, S1, Z1, μ1, r1, er1, Aft.imp (Aft.bind a1) fun f Z2 μ2 H2 S2 _ g2 r2 a2 => ?_⟩
      cases f with
      | nx ρ6 => exact fun σ6 er6 => ⟨ρ6, S2, Z2, μ2, r2, er6, a2⟩
      | cnt ρ6 => exact fun σ6 er6 => ⟨ρ6, S2, Z2, μ2, r2, er6, a2⟩
      | brk ρ6 => exact fun σ6 er6 => Aft.here (E := E) (P := PF G D) r2 a2 σ6 er6
      | ret w => exact fun v hv => Aft.here (E := E) (P := PF G D) r2 a2 v hv
theorem sm_while {n : Nat} (hp : PassesOwn (model X.prog X.w) X.A X.env X.xe) (hc : PT X c (tMT G E mt)) (hb : PSs X body (tS G E mb)) : PS X (.While c body [] pos) (tS G E (mWhile n mt mb)) := (ps_while hp hc hb).weak fun D σ H h => while_reads h
end
end Mo

set_option Elab.async false
set_option linter.all false
set_option maxRecDepth 100000
set_option autoImplicit false
/-! Mon4: comprehensions, calls of defs, defs. -/
namespace Mo
open PySem PySem.Spec L2
open PyProof.Rows hiding St

section
variable {G : Glo} {Z Z' : Addr → Prop} {μ μ' : List Addr} {H H' : Hp} {S S' : Sto}
mutual
theorem VR.lessZ (hz : ∀ a, Z' a → Z a) : ∀ {w : W} {v : V}, VR G Z μ H w v → VR G Z' μ H w v
  | .non, _, h => h
  | .bl _, _, h => h
  | .int _, _, h => h
  | .str _, _, h => h
  | .ty _, _, h => h
  | .tup ws, v, h => by
    unfold VR at h ⊢
    obtain ⟨a, vs, e, ha, hs⟩ := h
    exact ⟨a, vs, e, ha, VRs.lessZ hz hs⟩
  | .lst ws, v, h => by
    unfold VR at h ⊢
    obtain ⟨a, vs, e, ha, q, hs⟩ := h
    exact ⟨a, vs, e, ha, fun z => q (hz a z), VRs.lessZ hz hs⟩
  | .scr ns, v, h => by
    unfold VR at h ⊢
    obtain ⟨a, e, h⟩ := h
    exact ⟨a, e, h.elim (fun h => .inl ⟨h.1, fun z => h.2 (hz a z)⟩) .inr⟩
  | .ref n, v, h => by unfold VR at h ⊢; exact h
  | .glob _, _, h => by unfold VR at h ⊢; exact h
  | .exc c, v, h => by unfold VR at h ⊢; exact h
  | .clo k cap, v, h => by
    unfold VR at h ⊢
    obtain ⟨a, vs, h1, h2, h3, h4⟩ := h
    exact ⟨a, vs, h1, h2, h3, VRs.lessZ hz h4⟩
theorem VRs.lessZ (hz : ∀ a, Z' a → Z a) : ∀ {ws : List W} {vs : List V}, VRs G Z μ H ws vs → VRs G Z' μ H ws vs
  | [], _, h => by unfold VRs at h ⊢; exact h
  | w :: ws, vs, h => by
    unfold VRs at h ⊢
    obtain ⟨v, q, e, h1, h2⟩ := h
    exact ⟨v, q, e, VR.lessZ hz h1, VRs.lessZ hz h2⟩
end
theorem KVR.lessZ (hz : ∀ a, Z' a → Z a) : ∀ {ws : List (Key × W)} {vs : List (Key × V)}, KVR G Z μ H ws vs → KVR G Z' μ H ws vs
  | [], _, h => by unfold KVR at h ⊢; exact h
  | (k, w) :: ws, vs, h => by
    unfold KVR at h ⊢
    obtain ⟨v, q, e, h1, h2⟩ := h
    exact ⟨v, q, e, VR.lessZ hz h1, KVR.lessZ hz h2⟩
theorem Rel.lessZ (r : Rel G Z μ H S) (hz : ∀ a, Z' a → Z a) (hm : ∀ a ∈ μ, Z' a) : Rel G Z' μ H S :=
  ⟨r.len, r.nd, hm, fun a h => r.zm a (hz a h), r.inv, fun n a o h1 h2 => by
    have := r.ob n a o h1 h2
    cases o with
    | lst ws => obtain ⟨vs, e, k⟩ := this; exact ⟨vs, e, VRs.lessZ hz k⟩
    | dict kvs => obtain ⟨vs, e, k⟩ := this; exact ⟨vs, e, KVR.lessZ hz k⟩⟩
/-- a foreign changing thing is written -/
structure Foreign (Z : Addr → Prop) (H : Hp) (D : Addr) : Prop where
  z : Z D
  m : ∃ o, H D = some o ∧ isMut o = true ∧ isTbl o = false
theorem Foreign.ne {D : Addr} (f : Foreign Z H D) {a : Addr} {o : HO} (h : H a = some o) (hm : isMut o = false) : a ≠ D := fun e => by
  obtain ⟨u, h1, h2, _⟩ := f.m
  rw [e, h1] at h; cases h; rw [hm] at h2; cases h2
mutual
theorem VR.foreign {D : Addr} {ho : HO} (f : Foreign Z H D) : ∀ {w : W} {v : V}, VR G Z μ H w v → VR G Z μ (upd H D ho) w v
  | .non, _, h => h
  | .bl _, _, h => h
  | .int _, _, h => h
  | .str _, _, h => h
  | .ty _, _, h => h
  | .tup ws, v, h => by
    unfold VR at h ⊢
    obtain ⟨a, vs, e, ha, hs⟩ := h
    exact ⟨a, vs, e, by rw [upd_ne (f.ne ha rfl)]; exact ha, VRs.foreign f hs⟩
  | .lst ws, v, h => by
    unfold VR at h ⊢
    obtain ⟨a, vs, e, ha, q, hs⟩ := h
    have ne : a ≠ D := fun e => q (by rw [e]; exact f.z)
    exact ⟨a, vs, e, by rw [upd_ne ne]; exact ha, q, VRs.foreign f hs⟩
  | .scr ns, v, h => by
    unfold VR at h ⊢
    obtain ⟨a, e, h⟩ := h
    refine ⟨a, e, ?_⟩
    rcases h with ⟨h, q⟩ | h
    · have ne : a ≠ D := fun e => q (by rw [e]; exact f.z)
      refine .inl ⟨?_, q⟩
      rcases h with ha | ⟨o, ha⟩
      · exact .inl (by rw [upd_ne ne]; exact ha)
      · exact .inr ⟨o, by rw [upd_ne ne]; exact ha⟩
    · exact .inr h
  | .ref n, v, h => by unfold VR at h ⊢; exact h
  | .glob _, _, h => by unfold VR at h ⊢; exact h
  | .exc c, v, h => by
    unfold VR at h ⊢
    obtain ⟨a, h1, h2⟩ := h
    exact ⟨a, h1, G.exk _ _ _ _ (fun b o q hm => by rw [upd_ne (f.ne q hm)]; exact q) h2⟩
  | .clo k cap, v, h => by
    unfold VR at h ⊢
    obtain ⟨a, vs, h1, h2, h3, h4⟩ := h
    exact ⟨a, vs, h1, G.ctk _ _ _ _ (fun b o q hm => by rw [upd_ne (f.ne q hm)]; exact q) h2, h3, VRs.foreign f h4⟩
theorem VRs.foreign {D : Addr} {ho : HO} (f : Foreign Z H D) : ∀ {ws : List W} {vs : List V}, VRs G Z μ H ws vs → VRs G Z μ (upd H D ho) ws vs
  | [], _, h => by unfold VRs at h ⊢; exact h
  | w :: ws, vs, h => by
    unfold VRs at h ⊢
    obtain ⟨v, q, e, h1, h2⟩ := h
    exact ⟨v, q, e, VR.foreign f h1, VRs.foreign f h2⟩
end
theorem KVR.foreign {D : Addr} {ho : HO} (f : Foreign Z H D) : ∀ {ws : List (Key × W)} {vs : List (Key × V)}, KVR G Z μ H ws vs → KVR G Z μ (upd H D ho) ws vs
  | [], _, h => by unfold KVR at h ⊢; exact h
  | (k, w) :: ws, vs, h => by
    unfold KVR at h ⊢
    obtain ⟨v, q, e, h1, h2⟩ := h
    exact ⟨v, q, e, VR.foreign f h1, KVR.foreign f h2⟩
theorem Rel.foreign {D : Addr} {ho : HO} (r : Rel G Z μ H S) (f : Foreign Z H D) (hD : D ∉ μ) (hm : isMut ho = true ∧ isTbl ho = false) : Rel G Z μ (upd H D ho) S :=
  ⟨r.len, r.nd, r.mz, fun a h => by
    by_cases e : a = D
    · subst e; exact ⟨ho, upd_same, hm.1, hm.2⟩
    · rw [upd_ne e]; exact r.zm a h,
   G.invk _ _ (fun b u h hq => by
    have hb : b ≠ D := fun e => by
      obtain ⟨v, k1, k2, k3⟩ := f.m
      rw [e, k1] at h; cases h
      rcases hq with hq | hq
      · rw [hq] at k2; cases k2
      · rw [hq] at k3; cases k3
    rw [upd_ne hb]; exact h) r.inv,
   fun n a o h1 h2 => by
    have ne : a ≠ D := fun e => hD (by rw [← e]; exact List.mem_of_getElem? h1)
    have := r.ob n a o h1 h2
    cases o with
    | lst ws => obtain ⟨vs, e, k⟩ := this; exact ⟨vs, by rw [upd_ne ne]; exact e, VRs.foreign f k⟩
    | dict kvs => obtain ⟨vs, e, k⟩ := this; exact ⟨vs, by rw [upd_ne ne]; exact e, KVR.foreign f k⟩⟩
theorem ER.foreign {D : Addr} {ho : HO} {ρ : Env'} {σ : St} (e : ER G Z μ H ρ σ) (f : Foreign Z H D) : ER G Z μ (upd H D ho) ρ σ :=
  ⟨e.len, fun i w h => let ⟨v, h1, h2⟩ := e.at_ i w h; ⟨v, h1, VR.foreign f h2⟩⟩
mutual
theorem VR.moreμ {e : List Addr} : ∀ {w : W} {v : V}, VR G Z μ H w v → VR G Z (μ ++ e) H w v
  | .non, _, h => h
  | .bl _, _, h => h
  | .int _, _, h => h
  | .str _, _, h => h
  | .ty _, _, h => h
  | .tup ws, v, h => by
    unfold VR at h ⊢
    obtain ⟨a, vs, e, ha, hs⟩ := h
    exact ⟨a, vs, e, ha, VRs.moreμ hs⟩
  | .lst ws, v, h => by
    unfold VR at h ⊢
    obtain ⟨a, vs, e, ha, q, hs⟩ := h
    exact ⟨a, vs, e, ha, q, VRs.moreμ hs⟩
  | .scr ns, v, h => by unfold VR at h ⊢; exact h
  | .ref n, v, h => by
    unfold VR at h ⊢
    obtain ⟨a, h1, h2⟩ := h
    exact ⟨a, by rw [List.getElem?_append_left (List.getElem?_eq_some_iff.mp h1).1]; exact h1, h2⟩
  | .glob _, _, h => by unfold VR at h ⊢; exact h
  | .exc c, v, h => by unfold VR at h ⊢; exact h
  | .clo k cap, v, h => by
    unfold VR at h ⊢
    obtain ⟨a, vs, h1, h2, h3, h4⟩ := h
    exact ⟨a, vs, h1, h2, h3, VRs.moreμ h4⟩
theorem VRs.moreμ {e : List Addr} : ∀ {ws : List W} {vs : List V}, VRs G Z μ H ws vs → VRs G Z (μ ++ e) H ws vs
  | [], _, h => by unfold VRs at h ⊢; exact h
  | w :: ws, vs, h => by
    unfold VRs at h ⊢
    obtain ⟨v, q, e, h1, h2⟩ := h
    exact ⟨v, q, e, VR.moreμ h1, VRs.moreμ h2⟩
end
theorem KVR.moreμ {e : List Addr} : ∀ {ws : List (Key × W)} {vs : List (Key × V)}, KVR G Z μ H ws vs → KVR G Z (μ ++ e) H ws vs
  | [], _, h => by unfold KVR at h ⊢; exact h
  | (k, w) :: ws, vs, h => by
    unfold KVR at h ⊢
    obtain ⟨v, q, e, h1, h2⟩ := h
    exact ⟨v, q, e, VR.moreμ h1, KVR.moreμ h2⟩
theorem Aft.of_ok {α : Type} {E : XK} {r : R α} {x : α} {P : α → (Addr → Prop) → List Addr → Hp → Sto → Prop} (e : r = .ok x S') (h : ∀ Z' μ' H', Grow Z μ H Z' μ' H' → Rel G Z' μ' H' S' → P x Z' μ' H' S') : Aft G E Z μ H r P := by
  rw [e]; exact h
end

/-! ### comprehensions -/
def wipeW (ρ : Env') : List Nat → Env'
  | [] => ρ
  | v :: vs => (wipeW ρ vs).set v none
def lcGo (g : MG) (t : MT) (m : ME) (ρ : Env') (wi : Its') : List W → Sto → R (List W)
  | [], S => if wi.stays S then .ok [] S else .stuck
  | w :: ws, S => if wi.stays S then (match g w ρ with
    | none => .stuck
    | some ρ1 => (t ρ1 S).bind fun b S1 => match b with
      | true => (m ρ1 S1).bind fun y S2 => (lcGo g t m ρ wi ws S2).bind fun ys S3 => .ok (y :: ys) S3
      | false => lcGo g t m ρ wi ws S1) else .stuck
def noErr {α : Type} (r : R α) : R α := match r with
  | .ok ys S2 => .ok ys S2
  | _ => .stuck
def mLcI (it : MI) (own : List Nat) (g : MG) (t : MT) (m : ME) : Env' → Sto → R (List W) := fun ρ S => (it ρ S).bind fun wi S1 => if wi.ws.length ≤ 100000 then noErr (lcGo g t m (wipeW ρ own) wi wi.ws S1) else .stuck
def mLc (it : MI) (own : List Nat) (g : MG) (t : MT) (m : ME) : ME := fun ρ S => (mLcI it own g t m ρ S).bind fun ys S2 => .ok (.lst ys) S2
def mLcN (it : MI) (own : List Nat) (g : MG) (t : MT) (m : ME) : ME := fun ρ S => (mLcI it own g t m ρ S).bind fun ys S2 => .ok (.ref S2.length) (S2 ++ [.lst ys])
def tYesM : MT := fun _ S => .ok true S
abbrev E0' : XK := fun _ _ _ => False
section
variable {X : Cx} {G : Glo} {E : XK} {e tg iter : Expr} {mi : MI} {mt : MT} {me : ME} {pos : Pos} {g : TG} {t : MG} {is own : List Nat} {Q : VK} {σ : St} {Z : Addr → Prop} {μ : List Addr} {H : Hp} {S : Sto}
theorem wipeW_len (ρ : Env') : ∀ vs : List Nat, (wipeW ρ vs).length = ρ.length
  | [] => rfl
  | v :: vs => by unfold wipeW; rw [List.length_set, wipeW_len ρ vs]
theorem ER.wipe {ρ : Env'} (e : ER G Z μ H ρ σ) : ∀ vs : List Nat, ER G Z μ H (wipeW ρ vs) (L2.wipe σ vs)
  | [] => e
  | v :: vs => by
    have ih := ER.wipe e vs
    unfold wipeW L2.wipe
    refine ⟨by simp [ih.len], fun i w h => ?_⟩
    by_cases hi : v = i
    · subst hi
      by_cases hl : v < (wipeW ρ vs).length
      · rw [List.getElem?_set_self hl] at h; cases h
      · rw [List.getElem?_eq_none (by simpa using hl)] at h; cases h
    · rw [List.getElem?_set_ne hi] at h
      obtain ⟨x, h1, h2⟩ := ih.at_ i w h
      exact ⟨x, by rw [List.getElem?_set_ne hi]; exact h1, h2⟩
/-- the loop of a comprehension: fin is what its end hands on -/
theorem lc_reads (hg : GM G is g t) (his : ∀ i ∈ is, i ∈ own) (fin : List W → Sto → R W) {m : ME} (hm : ∀ ρ S, m ρ S = (mLcI mi own t mt me ρ S).bind fin)
    (hfin : ∀ (Z1 : Addr → Prop) (μ1 : List Addr) (H1 : Hp) (ys : List W) (acc : List V) (D : Addr) (Z : Addr → Prop) (μ : List Addr) (H : Hp) (S : Sto), H1 D = none → (∀ a, Z1 a → ∃ o, H1 a = some o ∧ isMut o = true ∧ isTbl o = false) → Grow Z1 μ1 H1 Z μ H → Rel G Z μ H S → Z D → D ∉ μ → H D = some (.lst acc) → VRs G Z μ H ys acc →
      Aft G E Z1 μ1 H1 (fin ys S) (PQ G Q) → Q (.ref D) H)
    (h : tM G E m σ H Q) : tLc (tI G E mi) g (tMT G E0' mt) (tM G E0' me) own σ H Q := by
  obtain ⟨ρ, S, Z, μ, r, er, af⟩ := h
  rw [hm] at af
  unfold mLcI at af
  rw [R.bind_bind] at af
  refine ⟨ρ, S, Z, μ, r, er, Aft.imp (Aft.bind af) fun wi Z1 μ1 H1 S1 _ g1 r1 a1 J hJ D hD => ?_⟩
  by_cases hlen : wi.ws.length ≤ 100000
  case neg => rw [if_neg hlen] at a1; exact a1.elim
  rw [if_pos hlen] at a1
  cases e2 : lcGo t mt me (wipeW ρ own) wi wi.ws S1 with
  | err c S2 => rw [e2] at a1; exact a1.elim
  | stuck => rw [e2] at a1; exact a1.elim
  | ok yall Sf =>
    rw [e2] at a1
    have a1 : Aft G E Z1 μ1 H1 (fin yall Sf) (PQ G Q) := a1
    have er1 := er.mono r g1
    have nDm : D ∉ μ1 := fun z => r1.fresh hD (r1.mz D z)
    have g0 : Grow Z1 μ1 H1 (fun a => Z1 a ∨ a = D) μ1 (upd H1 D (.lst [])) := ⟨⟨[], by simp, fun a h => by simp at h⟩, fun a h => h.elim .inl fun e => .inr (by rw [e]; exact hD), fun _ h => .inl h, fun a u h _ _ => by rw [upd_ne (ne_of_none h hD)]; exact h, fun a u h => ⟨u, by rw [upd_ne (ne_of_none h hD)]; exact h⟩⟩
    have r0 : Rel G (fun a => Z1 a ∨ a = D) μ1 (upd H1 D (.lst [])) S1 := by
      refine ⟨r1.len, r1.nd, fun a h => .inl (r1.mz a h), fun a h => ?_, G.invk _ _ (fun b u h _ => by rw [upd_ne (ne_of_none h hD)]; exact h) r1.inv, fun n a u h1 h2 => ?_⟩
      · rcases h with h | h
        · obtain ⟨u, h1, h2⟩ := r1.zm a h
          exact ⟨u, by rw [upd_ne (ne_of_none h1 hD)]; exact h1, h2⟩
        · subst h; exact ⟨_, upd_same, rfl, rfl⟩
      · obtain ⟨u', hu⟩ := r1.some h1
        exact OR.mono r1 g0 (upd_ne (ne_of_none hu hD)) (r1.ob n a u h1 h2)
    refine ⟨fun i m H => ∃ S Z μ acc accW, Rel G Z μ H S ∧ Z D ∧ D ∉ μ ∧ H D = some (.lst acc) ∧ VRs G Z μ H accW acc ∧ ER G Z μ H (wipeW ρ own) (L2.wipe σ own) ∧ Grow Z1 μ1 H1 Z μ H ∧ i ≤ wi.ws.length ∧ m = wi.ws.length - i ∧ acc.length ≤ i ∧
        (lcGo t mt me (wipeW ρ own) wi (wi.ws.drop i) S).bind (fun ys S' => .ok (accW ++ ys) S') = .ok yall Sf, ⟨wi.ws.length, S1, _, μ1, [], [], r0, .inr rfl, nDm, upd_same, VRs.nil, (er1.wipe own).mono r1 g0, g0, Nat.zero_le _, rfl, Nat.le_refl _, ?_⟩, ?_⟩
    · rw [List.drop_zero, e2]; rfl
    rintro i m H2 ⟨S2, Z2, μ2, acc, accW, r2, zD, nD, hDa, hacc, er2, g2, hi, rfl, hal, eq⟩
    by_cases hlt : i < wi.ws.length
    · rw [List.drop_eq_getElem_cons hlt] at eq
      have hw : wi.ws[i]? = some wi.ws[i] := List.getElem?_eq_getElem hlt
      unfold lcGo at eq
      cases st : wi.stays S2 with
      | false => rw [st, if_neg Bool.false_ne_true] at eq; cases eq
      | true =>
      rw [st, if_pos rfl] at eq
      obtain ⟨hgo, hy⟩ := hJ.go Z2 μ2 H2 S2 g2 r2 st i _ hw
      refine .inr ⟨hgo, fun H' => ∃ S Z μ acc accW, Rel G Z μ H' S ∧ Z D ∧ D ∉ μ ∧ H' D = some (.lst acc) ∧ VRs G Z μ H' accW acc ∧ ER G Z μ H' (wipeW ρ own) (L2.wipe σ own) ∧ Grow Z1 μ1 H1 Z μ H' ∧ acc.length ≤ i + 1 ∧
        (lcGo t mt me (wipeW ρ own) wi (wi.ws.drop (i + 1)) S).bind (fun ys S' => .ok (accW ++ ys) S') = .ok yall Sf, ?_, ?_⟩
      · rintro H' ⟨S3, Z3, μ3, acc3, accW3, q1, q2, q3, q4, q5, q6, q7, q8, q9⟩
        exact ⟨wi.ws.length - (i + 1), by omega, S3, Z3, μ3, acc3, accW3, q1, q2, q3, q4, q5, q6, q7, hlt, rfl, q8, q9⟩
      · intro x H' hyx
        obtain ⟨hk, hv⟩ := hy x H' hyx
        obtain ⟨r3, g3⟩ := r2.ext hk
        have er3 := er2.mono r2 g3
        cases e3 : t wi.ws[i] (wipeW ρ own) with
        | none => rw [e3] at eq; cases eq
        | some ρ4 =>
          rw [e3] at eq
          simp only [R.bind_bind] at eq
          refine hg _ _ ρ4 x (L2.wipe σ own) Z2 μ2 H' S2 _ r3 hv er3 e3 fun σ4 er4 hwp => ⟨(hwp own his).trans wipe_wipe, ?_⟩
          refine ⟨ρ4, S2, Z2, μ2, r3, er4, ?_⟩
          cases e4 : mt ρ4 S2 with
          | err c S5 => rw [e4] at eq; cases eq
          | stuck => rw [e4] at eq; cases eq
          | ok b S5 =>
            rw [e4, R.bind_ok] at eq
            refine fun Z5 μ5 H5 g5 r5 => ?_
            have g25 := Grow.trans r3 (Grow.trans r2 g2 g3) g5
            have hD' : H' D = some (.lst acc) := hk _ _ hDa
            have hD5 : H5 D = some (.lst acc) := g5.keep _ _ hD' nD rfl
            have nD5 : D ∉ μ5 := by
              obtain ⟨e, rfl, fe⟩ := g5.mu
              intro z
              rcases List.mem_append.mp z with z | z
              · exact nD z
              · rw [fe D z] at hD'; cases hD'
            have zD5 : Z5 D := g5.zk D zD
            have hacc5 := (hacc.mono r2 g3).mono r3 g5
            have er5 := er3.mono r3 g5
            cases b with
            | false =>
              unfold PB
              dsimp only
              rw [if_neg Bool.false_ne_true]
              exact ⟨S5, Z5, μ5, acc, accW, r5, zD5, nD5, hD5, hacc5, er5, g25, by omega, eq⟩
            | true =>
              unfold PB
              dsimp only
              rw [if_pos rfl]
              refine ⟨ρ4, S5, Z5, μ5, r5, er4.mono r3 g5, ?_⟩
              cases e6 : me ρ4 S5 with
              | err c S6 => simp only [R.bind_bind, e6, R.bind_err] at eq; cases eq
              | stuck => simp only [R.bind_bind, e6, R.bind_stuck] at eq; cases eq
              | ok y S6 =>
                simp only [R.bind_bind, e6, R.bind_ok] at eq
                refine fun Z6 μ6 H6 g6 r6 v hvy => ?_
                have hD6 : H6 D = some (.lst acc) := g6.keep _ _ hD5 nD5 rfl
                have nD6 : D ∉ μ6 := by
                  obtain ⟨e, rfl, fe⟩ := g6.mu
                  intro z
                  rcases List.mem_append.mp z with z | z
                  · exact nD5 z
                  · rw [fe D z] at hD5; cases hD5
                have zD6 : Z6 D := g6.zk D zD5
                have fo : Foreign Z6 H6 D := ⟨zD6, _, hD6, rfl, rfl⟩
                have g26 := Grow.trans r5 g25 g6
                refine ⟨acc, hD6, Nat.lt_of_le_of_lt (Nat.le_trans hal (Nat.le_trans hi hlen)) (by decide), S6, Z6, μ6, acc ++ [v], accW ++ [y], r6.foreign fo nD6 ⟨rfl, rfl⟩, zD6, nD6, upd_same, VRs.foreign fo ((hacc5.mono r5 g6).append (VRs.cons hvy VRs.nil)), (er5.mono r5 g6).foreign fo, ?_, by simp; omega, ?_⟩
                · obtain ⟨k1, k2, k3, k4, k5⟩ := g26
                  exact ⟨k1, k2, k3, fun a o h hm ht => by rw [upd_ne (ne_of_none h hD)]; exact k4 a o h hm ht, fun a o h => let ⟨u, hu⟩ := k5 a o h; ⟨u, by rw [upd_ne (ne_of_none h hD)]; exact hu⟩⟩
                · rw [← eq]
                  congr 1
                  funext ys S3
                  rw [List.append_assoc]
                  rfl
    · have e : i = wi.ws.length := by omega
      subst e
      rw [List.drop_length] at eq
      unfold lcGo at eq
      cases st : wi.stays S2 with
      | false => rw [st, if_neg Bool.false_ne_true] at eq; cases eq
      | true =>
      rw [st, if_pos rfl] at eq
      have eq' : R.ok (accW ++ []) S2 = .ok yall Sf := eq
      rw [List.append_nil] at eq'
      injection eq' with q1 q2
      rw [← q1, ← q2] at a1
      exact .inl ⟨hJ.stop Z2 μ2 H2 S2 g2 r2 st, hfin Z1 μ1 H1 accW acc D Z2 μ2 H2 S2 hD r1.zm g2 r2 zD nD hDa hacc a1⟩
theorem lc_frozen (hg : GM G is g t) (his : ∀ i ∈ is, i ∈ own) (h : tM G E (mLc mi own t mt me) σ H Q) : tLc (tI G E mi) g (tMT G E0' mt) (tM G E0' me) own σ H Q := by
  refine lc_reads hg his (fun ys S2 => .ok (.lst ys) S2) (fun _ _ => rfl) (fun Z1 μ1 H1 ys acc D Z μ H S hD hz1 g r zD nD hDa hacc a1 => ?_) h
  have hz : ∀ a, (Z a ∧ a ≠ D) → Z a := fun a h => h.1
  have g' : Grow Z1 μ1 H1 (fun a => Z a ∧ a ≠ D) μ H := ⟨g.mu, fun a h => g.zz a h.1, fun a h => ⟨g.zk a h, fun e => by
    obtain ⟨o, h1, _⟩ := hz1 a h
    rw [e, hD] at h1; cases h1⟩, g.keep, g.th⟩
  refine a1 (fun a => Z a ∧ a ≠ D) μ H g' (r.lessZ hz fun a h => ⟨r.mz a h, fun e => nD (by rw [← e]; exact h)⟩) _ ?_
  unfold VR
  exact ⟨D, acc, rfl, hDa, fun h => h.2 rfl, VRs.lessZ hz hacc⟩
theorem lc_new (hg : GM G is g t) (his : ∀ i ∈ is, i ∈ own) (h : tM G E (mLcN mi own t mt me) σ H Q) : tLc (tI G E mi) g (tMT G E0' mt) (tM G E0' me) own σ H Q := by
  refine lc_reads hg his (fun ys S2 => .ok (.ref S2.length) (S2 ++ [O.lst ys])) (fun _ _ => rfl) (fun Z1 μ1 H1 ys acc D Z μ H S hD hz1 g r zD nD hDa hacc a1 => ?_) h
  have g0 : Grow Z μ H Z μ H := Grow.refl
  have vrm : ∀ {w : W} {v : V}, VR G Z μ H w v → VR G Z (μ ++ [D]) H w v := fun {w v} h => VR.moreμ h
  refine a1 Z (μ ++ [D]) H ⟨?_, g.zz, g.zk, g.keep, g.th⟩ ⟨by simp [r.len], ?_, fun a h => ?_, r.zm, r.inv, fun n a o h1 h2 => ?_⟩ _ ?_
  · obtain ⟨e, rfl, fe⟩ := g.mu
    exact ⟨e ++ [D], by simp, fun a h => by
      rcases List.mem_append.mp h with h | h
      · exact fe a h
      · simp at h; subst h; exact hD⟩
  · rw [List.nodup_append]
    exact ⟨r.nd, by simp, fun a ha b hb e => by simp at hb; rw [hb] at e; rw [e] at ha; exact nD ha⟩
  · rcases List.mem_append.mp h with h | h
    · exact r.mz a h
    · simp at h; subst h; exact zD
  · by_cases hn : n < μ.length
    · rw [List.getElem?_append_left hn] at h1
      rw [List.getElem?_append_left (by rw [← r.len]; exact hn)] at h2
      have := r.ob n a o h1 h2
      cases o with
      | lst ws => obtain ⟨vs, e, k⟩ := this; exact ⟨vs, e, VRs.moreμ k⟩
      | dict kvs => obtain ⟨vs, e, k⟩ := this; exact ⟨vs, e, KVR.moreμ k⟩
    · rw [List.getElem?_append_right (by omega)] at h1
      rw [List.getElem?_append_right (by rw [← r.len]; omega)] at h2
      have e1 : n - μ.length = 0 := by
        have := (List.getElem?_eq_some_iff.mp h1).1
        simp at this; omega
      rw [e1] at h1
      rw [← r.len, e1] at h2
      simp at h1 h2
      subst h1 h2
      exact ⟨acc, hDa, VRs.moreμ hacc⟩
  · unfold VR
    exact ⟨D, by rw [← r.len]; simp, rfl⟩
end
end Mo

set_option Elab.async false
set_option linter.all false
set_option maxRecDepth 100000
set_option autoImplicit false
/-! Mon5: comprehensions as expressions, calls of defs, defs. -/
namespace Mo
open PySem PySem.Spec L2
open PyProof.Rows hiding St

/-! ### comprehensions as expressions -/
section
variable {X : Cx} {G : Glo} {E : XK} {elt tg iter : Expr} {ifs : List Expr} {scope : Scope} {mi : MI} {mt : MT} {me : ME} {pos spos : Pos} {g : TG} {t : MG} {is : List Nat} {own : List (Str × Nat)}
theorem ptm_nil : PTs X [] (tMT G E tYesM) := by
  refine ⟨fun pins s σ H Q I h => pts_nil.run pins s σ H Q I ?_⟩
  obtain ⟨ρ, S, Z, μ, r, er, af⟩ := h
  exact Aft.here (E := E) (P := PB Q) r af
theorem em_lc (hg : GM G is g t) (his : ∀ i ∈ is, i ∈ own.map (·.2)) (hc : X.calm = true) (hN : X.N.Nodup) (hi : PI X tg iter (tI G E mi)) (ok : BlkOk X.N X.env.scope scope own)
    (hp : ∀ (s : Shared) (H : Hp) (C : Addr) (cl : List (Str × Addr)) (fp : List Addr), PG (X.blk s H scope (compEnvC scope cl C X.env) fp) tg g) (ht : ∀ (s : Shared) (H : Hp) (C : Addr) (cl : List (Str × Addr)) (fp : List Addr), PTs (X.blk s H scope (compEnvC scope cl C X.env) fp) ifs (tMT G E0' mt))
    (he : ∀ (s : Shared) (H : Hp) (C : Addr) (cl : List (Str × Addr)) (fp : List Addr), PE (X.blk s H scope (compEnvC scope cl C X.env) fp) elt (tM G E0' me)) (hs : ∀ x, foldedSetIterable iter X.env x = pure x := by intro _; rfl) :
    PE X (.ListComp elt [⟨tg, iter, ifs, 0⟩] scope pos) (tM G E (mLc mi (own.map (·.2)) t mt me)) := (pe_lc hc hN hi ok hp ht he hs).weak fun σ H Q h => lc_frozen hg his h
theorem em_lcN (hg : GM G is g t) (his : ∀ i ∈ is, i ∈ own.map (·.2)) (hc : X.calm = true) (hN : X.N.Nodup) (hi : PI X tg iter (tI G E mi)) (ok : BlkOk X.N X.env.scope scope own)
    (hp : ∀ (s : Shared) (H : Hp) (C : Addr) (cl : List (Str × Addr)) (fp : List Addr), PG (X.blk s H scope (compEnvC scope cl C X.env) fp) tg g) (ht : ∀ (s : Shared) (H : Hp) (C : Addr) (cl : List (Str × Addr)) (fp : List Addr), PTs (X.blk s H scope (compEnvC scope cl C X.env) fp) ifs (tMT G E0' mt))
    (he : ∀ (s : Shared) (H : Hp) (C : Addr) (cl : List (Str × Addr)) (fp : List Addr), PE (X.blk s H scope (compEnvC scope cl C X.env) fp) elt (tM G E0' me)) (hs : ∀ x, foldedSetIterable iter X.env x = pure x := by intro _; rfl) :
    PE X (.ListComp elt [⟨tg, iter, ifs, 0⟩] scope pos) (tM G E (mLcN mi (own.map (·.2)) t mt me)) := (pe_lc hc hN hi ok hp ht he hs).weak fun σ H Q h => lc_new hg his h
theorem setAny_reads {i : Nat} {ma : ME} {te : TE} {D : Ends} {σ : St} {H : Hp} (w : ∀ Q, tM G E ma σ H Q → te σ H Q) (h : tS G E (mSet i ma) D σ H) : tAsg te (gName i) D σ H := w _ (set_reads h)
theorem sm_setLc {i : Nat} {y : Str} {py : Pos} (hg : GM G is g t) (his : ∀ i ∈ is, i ∈ own.map (·.2)) (hc : X.calm = true) (hN : X.N.Nodup) (hy : X.N[i]? = some y) (hyl : X.env.scope.names.lookup y = some .local)
    (hsw : swapsWith (.ListComp elt [⟨tg, iter, ifs, 0⟩] scope pos) (some (.Name y py)) spos.line X.env = pure true) (hi : PI X tg iter (tI G E mi)) (ok : BlkOk X.N X.env.scope scope own)
    (hp : ∀ (s : Shared) (H : Hp) (C : Addr) (cl : List (Str × Addr)) (fp : List Addr), PG (X.blk s H scope (compEnvC scope cl C X.env) fp) tg g) (ht : ∀ (s : Shared) (H : Hp) (C : Addr) (cl : List (Str × Addr)) (fp : List Addr), PTs (X.blk s H scope (compEnvC scope cl C X.env) fp) ifs (tMT G E0' mt))
    (he : ∀ (s : Shared) (H : Hp) (C : Addr) (cl : List (Str × Addr)) (fp : List Addr), PE (X.blk s H scope (compEnvC scope cl C X.env) fp) elt (tM G E0' me)) (hs : ∀ x, foldedSetIterable iter X.env x = pure x := by intro _; rfl) :
    PS X (.Assign [.Name y py] (.ListComp elt [⟨tg, iter, ifs, 0⟩] scope pos) spos) (tS G E (mSet i (mLc mi (own.map (·.2)) t mt me))) := (ps_setLc hc hN hy hyl hsw hi ok hp ht he hs).weak fun D σ H h => setAny_reads (fun Q q => lc_frozen hg his q) h
theorem sm_setLcN {i : Nat} {y : Str} {py : Pos} (hg : GM G is g t) (his : ∀ i ∈ is, i ∈ own.map (·.2)) (hc : X.calm = true) (hN : X.N.Nodup) (hy : X.N[i]? = some y) (hyl : X.env.scope.names.lookup y = some .local)
    (hsw : swapsWith (.ListComp elt [⟨tg, iter, ifs, 0⟩] scope pos) (some (.Name y py)) spos.line X.env = pure true) (hi : PI X tg iter (tI G E mi)) (ok : BlkOk X.N X.env.scope scope own)
    (hp : ∀ (s : Shared) (H : Hp) (C : Addr) (cl : List (Str × Addr)) (fp : List Addr), PG (X.blk s H scope (compEnvC scope cl C X.env) fp) tg g) (ht : ∀ (s : Shared) (H : Hp) (C : Addr) (cl : List (Str × Addr)) (fp : List Addr), PTs (X.blk s H scope (compEnvC scope cl C X.env) fp) ifs (tMT G E0' mt))
    (he : ∀ (s : Shared) (H : Hp) (C : Addr) (cl : List (Str × Addr)) (fp : List Addr), PE (X.blk s H scope (compEnvC scope cl C X.env) fp) elt (tM G E0' me)) (hs : ∀ x, foldedSetIterable iter X.env x = pure x := by intro _; rfl) :
    PS X (.Assign [.Name y py] (.ListComp elt [⟨tg, iter, ifs, 0⟩] scope pos) spos) (tS G E (mSet i (mLcN mi (own.map (·.2)) t mt me))) := (ps_setLc hc hN hy hyl hsw hi ok hp ht he hs).weak fun D σ H h => setAny_reads (fun Q q => lc_new hg his q) h
end

/-! ### values without places in the store, without lists -/
mutual
def W.nr : W → Bool
  | .ref _ => false
  | .clo _ ws => nrs ws
  | .tup ws => nrs ws
  | .lst ws => nrs ws
  | _ => true
def nrs : List W → Bool
  | [] => true
  | w :: ws => w.nr && nrs ws
end
mutual
def W.nl : W → Bool
  | .ref _ => false
  | .clo _ ws => nls ws
  | .lst _ => false
  | .scr _ => false
  | .tup ws => nls ws
  | _ => true
def nls : List W → Bool
  | [] => true
  | w :: ws => w.nl && nls ws
end
def mapO (f : W → Option W) : List W → Option (List W)
  | [] => some []
  | w :: ws => match f w with
    | none => none
    | some u => match mapO f ws with
      | none => none
      | some us => some (u :: us)
/-- the value with the lists of the store laid in -/
def fz (S : Sto) : Nat → W → Option W
  | 0, _ => none
  | k + 1, w => if w.nr then some w else match w with
    | .ref n => match S[n]? with
      | some (.lst ws) => (mapO (fz S k) ws).map .lst
      | _ => none
    | .tup ws => (mapO (fz S k) ws).map .tup
    | .lst ws => (mapO (fz S k) ws).map .lst
    | _ => none
section
variable {G : Glo} {Z Z' Zn : Addr → Prop} {μ μ' μn : List Addr} {H H' : Hp} {S S' : Sto}
mutual
theorem VR.nr (hz : ∀ a, Zn a → Z a) : ∀ {w : W} {v : V}, w.nr = true → VR G Z μ H w v → VR G Zn μn H w v
  | .non, _, _, h => h
  | .bl _, _, _, h => h
  | .int _, _, _, h => h
  | .str _, _, _, h => h
  | .ty _, _, _, h => h
  | .tup ws, v, n, h => by
    unfold VR at h ⊢
    obtain ⟨a, vs, e, ha, hs⟩ := h
    exact ⟨a, vs, e, ha, VRs.nr hz n hs⟩
  | .lst ws, v, n, h => by
    unfold VR at h ⊢
    obtain ⟨a, vs, e, ha, q, hs⟩ := h
    exact ⟨a, vs, e, ha, fun z => q (hz a z), VRs.nr hz n hs⟩
  | .scr ns, v, n, h => by
    unfold VR at h ⊢
    obtain ⟨a, e, h⟩ := h
    exact ⟨a, e, h.elim (fun h => .inl ⟨h.1, fun z => h.2 (hz a z)⟩) .inr⟩
  | .ref n, v, k, h => by cases k
  | .glob _, _, _, h => by unfold VR at h ⊢; exact h
  | .exc c, v, _, h => by unfold VR at h ⊢; exact h
  | .clo k cap, v, n, h => by
    unfold VR at h ⊢
    obtain ⟨a, vs, h1, h2, h3, h4⟩ := h
    exact ⟨a, vs, h1, h2, h3, VRs.nr hz n h4⟩
theorem VRs.nr (hz : ∀ a, Zn a → Z a) : ∀ {ws : List W} {vs : List V}, nrs ws = true → VRs G Z μ H ws vs → VRs G Zn μn H ws vs
  | [], _, _, h => by unfold VRs at h ⊢; exact h
  | w :: ws, vs, n, h => by
    unfold VRs at h ⊢
    unfold nrs at n
    obtain ⟨v, q, e, h1, h2⟩ := h
    have n' := Bool.and_eq_true_iff.mp n
    exact ⟨v, q, e, VR.nr hz n'.1 h1, VRs.nr hz n'.2 h2⟩
end
mutual
theorem VR.nl : ∀ {w : W} {v : V}, w.nl = true → VR G Z μ H w v → VR G Zn μn H w v
  | .non, _, _, h => h
  | .bl _, _, _, h => h
  | .int _, _, _, h => h
  | .str _, _, _, h => h
  | .ty _, _, _, h => h
  | .tup ws, v, n, h => by
    unfold VR at h ⊢
    obtain ⟨a, vs, e, ha, hs⟩ := h
    exact ⟨a, vs, e, ha, VRs.nl n hs⟩
  | .lst ws, v, n, h => by cases n
  | .scr ws, v, n, h => by cases n
  | .ref n, v, k, h => by cases k
  | .glob _, _, _, h => by unfold VR at h ⊢; exact h
  | .exc c, v, _, h => by unfold VR at h ⊢; exact h
  | .clo k cap, v, n, h => by
    unfold VR at h ⊢
    obtain ⟨a, vs, h1, h2, h3, h4⟩ := h
    exact ⟨a, vs, h1, h2, h3, VRs.nl n h4⟩
theorem VRs.nl : ∀ {ws : List W} {vs : List V}, nls ws = true → VRs G Z μ H ws vs → VRs G Zn μn H ws vs
  | [], _, _, h => by unfold VRs at h ⊢; exact h
  | w :: ws, vs, n, h => by
    unfold VRs at h ⊢
    unfold nls at n
    obtain ⟨v, q, e, h1, h2⟩ := h
    have n' := Bool.and_eq_true_iff.mp n
    exact ⟨v, q, e, VR.nl n'.1 h1, VRs.nl n'.2 h2⟩
end
theorem mapO_vr {f : W → Option W} (hf : ∀ w u v, f w = some u → VR G Z μ H w v → VR G Zn μn H u v) : ∀ {ws us : List W} {vs : List V}, mapO f ws = some us → VRs G Z μ H ws vs → VRs G Zn μn H us vs
  | [], us, vs, e, h => by unfold mapO at e; cases e; unfold VRs at h ⊢; exact h
  | w :: ws, us, vs, e, h => by
    unfold VRs at h
    obtain ⟨v, q, rfl, h1, h2⟩ := h
    unfold mapO at e
    cases e1 : f w with
    | none => rw [e1] at e; cases e
    | some u =>
      rw [e1] at e
      cases e2 : mapO f ws with
      | none => rw [e2] at e; cases e
      | some us' =>
        rw [e2] at e; cases e
        exact VRs.cons (hf _ _ _ e1 h1) (mapO_vr hf e2 h2)
theorem fz_vr (r : Rel G Z μ H S) (hz : ∀ a, Zn a → Z a) (hm : ∀ a ∈ μ, ¬ Zn a) : ∀ (k : Nat) (w u : W) (v : V), fz S k w = some u → VR G Z μ H w v → VR G Zn μn H u v
  | 0, _, _, _, e, _ => by unfold fz at e; cases e
  | k + 1, w, u, v, e, h => by
    unfold fz at e
    split at e
    · rename_i hn
      cases e
      exact VR.nr hz hn h
    · cases w with
      | ref n =>
        dsimp only at e
        split at e
        · rename_i ws hs
          obtain ⟨a, vs, rfl, h1, h2, h3⟩ := r.lst h hs
          cases e2 : mapO (fz S k) ws with
          | none => rw [e2] at e; cases e
          | some us =>
            rw [e2] at e; cases e
            unfold VR
            exact ⟨a, vs, rfl, h2, hm a (List.mem_of_getElem? h1), mapO_vr (fun w u v q1 q2 => fz_vr r hz hm k w u v q1 q2) e2 h3⟩
        · cases e
      | tup ws =>
        dsimp only at e
        cases e2 : mapO (fz S k) ws with
        | none => rw [e2] at e; cases e
        | some us =>
          rw [e2] at e; cases e
          unfold VR at h ⊢
          obtain ⟨a, vs, e, ha, hs⟩ := h
          exact ⟨a, vs, e, ha, mapO_vr (fun w u v q1 q2 => fz_vr r hz hm k w u v q1 q2) e2 hs⟩
      | lst ws =>
        dsimp only at e
        cases e2 : mapO (fz S k) ws with
        | none => rw [e2] at e; cases e
        | some us =>
          rw [e2] at e; cases e
          unfold VR at h ⊢
          obtain ⟨a, vs, e, ha, q, hs⟩ := h
          exact ⟨a, vs, e, ha, fun z => q (hz a z), mapO_vr (fun w u v q1 q2 => fz_vr r hz hm k w u v q1 q2) e2 hs⟩
      | _ => cases e
end

/-! ### calls -/
/-- a def on values: a run over a store -/
abbrev MD := List W → Sto → R W
def spM (G : Glo) (n : Nat) (m : MD) : Sp := fun vs H Q E => vs.length = n ∧ cM G E m vs H Q
/-- with the store handed on -/
def gCall (n : Nat) (m : MD) (ws : List W) (S : Sto) : R W := if ws.length = n then m ws S else .stuck
/-- apart: over an empty store -/
def gPure (n : Nat) (m : MD) (ws : List W) (S : Sto) : R W := if ws.length = n then (match mapO (fz S 4) ws with
  | none => .stuck
  | some us => match m us [] with
    | .ok w S' => match fz S' 6 w with
      | none => .stuck
      | some w' => if nrs ws || w'.nl then .ok w' S else .stuck
    | .err c _ => .err c S
    | .stuck => .stuck) else .stuck
section
variable {X : Cx} {G : Glo} {E : XK} {e : Expr} {es : List Expr} {mr : MA} {pos p : Pos} {n : Nat} {m : MD} {Q : VK} {vs : List V} {H : Hp}
theorem call_spS (h : cM G E (gCall n m) vs H Q) : spM G n m vs H Q E := by
  obtain ⟨ws, S, Z, μ, r, hv, af⟩ := h
  unfold gCall at af
  split at af
  · rename_i hl
    exact ⟨by rw [hv.length]; exact hl, ws, S, Z, μ, r, hv, af⟩
  · exact af.elim
theorem fz_nr {S : Sto} : ∀ {ws : List W}, nrs ws = true → mapO (fz S 4) ws = some ws
  | [], _ => rfl
  | w :: ws, h => by
    unfold nrs at h
    have h' := Bool.and_eq_true_iff.mp h
    unfold mapO
    have e : fz S 4 w = some w := by
      unfold fz
      rw [if_pos h'.1]
    rw [e, fz_nr h'.2]
theorem rel_nil {Z : Addr → Prop} (h : ∀ a, Z a → ∃ o, H a = some o ∧ isMut o = true ∧ isTbl o = false) (hi : G.inv H) : Rel G Z [] H [] := ⟨rfl, List.nodup_nil, fun a (h : a ∈ []) => (List.not_mem_nil h).elim, h, hi, fun n a o h => by simp at h⟩
theorem call_spP (h : cM G E (gPure n m) vs H Q) : spM G n m vs H Q E := by
  obtain ⟨ws, S, Z, μ, r, hv, af⟩ := h
  unfold gPure at af
  split at af
  case isFalse => exact af.elim
  rename_i hl
  refine ⟨by rw [hv.length]; exact hl, ?_⟩
  cases e1 : mapO (fz S 4) ws with
  | none => rw [e1] at af; exact af.elim
  | some us =>
    rw [e1] at af
    dsimp only at af
    -- behind the callee
    have fin : ∀ {Z0 Z' : Addr → Prop} {μ' : List Addr} {H' : Hp}, Grow Z0 [] H Z' μ' H' → G.inv H' → Rel G Z μ H' S ∧ Grow Z μ H Z μ H' := fun g hi => r.extN (fun a o q ht => g.keep a o q (by simp) ht) g.th hi
    cases hn : nrs ws with
    | true =>
      rw [fz_nr hn] at e1
      cases e1
      refine ⟨ws, [], Z, [], rel_nil r.zm r.inv, VRs.nr (fun _ h => h) hn hv, ?_⟩
      cases e2 : m ws [] with
      | stuck => rw [e2] at af; exact af.elim
      | err c S' =>
        rw [e2] at af
        exact fun Z' μ' H' g r' => af Z μ H' (fin g r'.inv).2 (fin g r'.inv).1
      | ok w S' =>
        rw [e2] at af
        dsimp only at af
        cases e3 : fz S' 6 w with
        | none => rw [e3] at af; exact af.elim
        | some w' =>
          rw [e3] at af
          dsimp only at af
          rw [hn, Bool.true_or, if_pos rfl] at af
          intro Z' μ' H' g r' v hw
          refine af Z μ H' (fin g r'.inv).2 (fin g r'.inv).1 v (fz_vr r' g.zk (fun a ha => ?_) 6 w w' v e3 hw)
          obtain ⟨e, rfl, fe⟩ := g.mu
          exact r.fresh (fe a (by simpa using ha))
    | false =>
      refine ⟨us, [], fun a => Z a ∧ a ∉ μ, [], rel_nil (fun a h => r.zm a h.1) r.inv, mapO_vr (fun w u v q1 q2 => fz_vr r (fun _ h => h.1) (fun a ha z => z.2 ha) 4 w u v q1 q2) e1 hv, ?_⟩
      cases e2 : m us [] with
      | stuck => rw [e2] at af; exact af.elim
      | err c S' =>
        rw [e2] at af
        exact fun Z' μ' H' g r' => af Z μ H' (fin g r'.inv).2 (fin g r'.inv).1
      | ok w S' =>
        rw [e2] at af
        dsimp only at af
        cases e3 : fz S' 6 w with
        | none => rw [e3] at af; exact af.elim
        | some w' =>
          rw [e3] at af
          dsimp only at af
          rw [hn, Bool.false_or] at af
          cases hnl : w'.nl with
          | false => rw [hnl, if_neg Bool.false_ne_true] at af; exact af.elim
          | true =>
            rw [hnl, if_pos rfl] at af
            intro Z' μ' H' g r' v hw
            exact af Z μ H' (fin g r'.inv).2 (fin g r'.inv).1 v (VR.nl hnl (fz_vr (Zn := fun _ => False) (μn := []) r' (fun _ h => h.elim) (fun _ _ h => h) 6 w w' v e3 hw))
/-- f(e, ..), a def of the module -/
theorem em_call {k : Nat} {f : Addr} {fd : FuncData} {ps : List Str} {x : Str} {sp : Sp} {q : List W → Sto → R W} (hq : ∀ vs H Q, cM G E q vs H Q → sp vs H Q E) (F : FnOk X.prog X.w X.K X.mg X.base (L2.CX X.prog X.w) k f fd ps sp) (hr : Room k X.A) (hg : Gl X x) (hm : X.mg x = some (.ref f)) (hk : PySem.W.keepIn X.K (.ref f) = true) (hb : Binds X.K fd ps [])
    (hx : Passes (L2.CX X.prog X.w) X E) (ha : PA X (e :: es) (tMA G E mr)) (hdb : (x == ("__debug__" : Str)) = false := by decide) (he : starEach (e :: es) X.env = (false, eval e X.env) :: starEach es X.env := by rfl) (hpl : (backTo pos (starEach es X.env)).any (·.1) = false := by rfl) :
    PE X (.Call (.Name x p) (e :: es) [] pos) (tM G E (mAp q mr)) := (pe_call F hr hg hm hk hb .nil hx ha hdb he hpl).weak fun σ H Q h => by
  obtain ⟨ρ, S, Z, μ, r, er, af⟩ := args h
  refine ⟨ρ, S, Z, μ, r, er, Aft.imp af fun ws Z1 μ1 H1 S1 _ g1 r1 a1 vs hvs => ?_⟩
  have e : (vs ++ [] : List V) = vs := List.append_nil vs
  show sp (vs ++ []) H1 Q E
  rw [e]
  exact hq _ _ _ (a1 vs hvs)
theorem em_callS {k : Nat} {f : Addr} {fd : FuncData} {ps : List Str} {x : Str} (F : FnOk X.prog X.w X.K X.mg X.base (L2.CX X.prog X.w) k f fd ps (spM G n m)) (hr : Room k X.A) (hg : Gl X x) (hm : X.mg x = some (.ref f)) (hk : PySem.W.keepIn X.K (.ref f) = true) (hb : Binds X.K fd ps [])
    (hx : Passes (L2.CX X.prog X.w) X E) (ha : PA X (e :: es) (tMA G E mr)) (hdb : (x == ("__debug__" : Str)) = false := by decide) (he : starEach (e :: es) X.env = (false, eval e X.env) :: starEach es X.env := by rfl) (hpl : (backTo pos (starEach es X.env)).any (·.1) = false := by rfl) :
    PE X (.Call (.Name x p) (e :: es) [] pos) (tM G E (mAp (gCall n m) mr)) := em_call (fun _ _ _ h => call_spS h) F hr hg hm hk hb hx ha hdb he hpl
theorem em_callP {k : Nat} {f : Addr} {fd : FuncData} {ps : List Str} {x : Str} (F : FnOk X.prog X.w X.K X.mg X.base (L2.CX X.prog X.w) k f fd ps (spM G n m)) (hr : Room k X.A) (hg : Gl X x) (hm : X.mg x = some (.ref f)) (hk : PySem.W.keepIn X.K (.ref f) = true) (hb : Binds X.K fd ps [])
    (hx : Passes (L2.CX X.prog X.w) X E) (ha : PA X (e :: es) (tMA G E mr)) (hdb : (x == ("__debug__" : Str)) = false := by decide) (he : starEach (e :: es) X.env = (false, eval e X.env) :: starEach es X.env := by rfl) (hpl : (backTo pos (starEach es X.env)).any (·.1) = false := by rfl) :
    PE X (.Call (.Name x p) (e :: es) [] pos) (tM G E (mAp (gPure n m) mr)) := em_call (fun _ _ _ h => call_spP h) F hr hg hm hk hb hx ha hdb he hpl
end

/-! ### defs -/
def mDef (L : Nat) (b : MS) : MD := fun ws S => (b (ws.map some ++ List.replicate (L - ws.length) none) S).bind fun f S' => match f with
  | .ret w => .ok w S'
  | .nx _ => .ok .non S'
  | _ => .stuck
section
variable {P : Program} {w : World} {K : PySem.W.Frag} {mg : Str → Option Value} {base : Heap} {G : Glo}
theorem VRs.start {Z : Addr → Prop} {μ : List Addr} {H : Hp} {ws : List W} {vs : List V} {N : List Str} (h : VRs G Z μ H ws vs) : ER G Z μ H (ws.map some ++ List.replicate (N.length - ws.length) none) (L2.start N vs) := by
  refine ⟨by unfold L2.start; simp [h.length], fun i w hi => ?_⟩
  have hl : i < ws.length := by
    by_cases hl : i < ws.length
    · exact hl
    · rw [List.getElem?_append_right (by simpa using hl), List.getElem?_replicate] at hi
      split at hi <;> cases hi
  rw [List.getElem?_append_left (by simpa using hl), List.getElem?_map] at hi
  have hi' : ws[i]? = some w := by
    cases e : ws[i]? with
    | none => rw [e] at hi; cases hi
    | some u => rw [e] at hi; cases hi; rfl
  obtain ⟨v, h1, h2⟩ := h.get hi'
  refine ⟨v, ?_, h2⟩
  unfold L2.start
  rw [List.getElem?_append_left (by rw [List.length_map, h.length]; exact hl), List.getElem?_map, h1]
  rfl
theorem def_reads {E : XK} {N : List Str} {n : Nat} {mb : MS} {vs : List V} {H : Hp} {Q : VK} (h : spM G n (mDef N.length mb) vs H Q E) : tS G E mb { nx := fun _ H' => Q .non H', rt := Q } (L2.start N vs) H := by
  obtain ⟨hl, ws, S, Z, μ, r, hv, af⟩ := h
  refine ⟨_, S, Z, μ, r, hv.start (N := N), Aft.imp (Aft.bind af) fun f Z1 μ1 H1 S1 _ g1 r1 a1 => ?_⟩
  cases f with
  | nx ρ1 => exact fun σ _ => end_val r1 (vr_non _ _ _) a1
  | ret w => exact fun v hv => Aft.here (E := E) (P := PQ G Q) r1 a1 v hv
  | brk ρ1 => exact a1.elim
  | cnt ρ1 => exact a1.elim
/-- THE RULE for a def -/
theorem fn_ok {x qual : Str} {params : Arguments} {body : List Stmt} {scope : Scope} {dvs : List V} {kws : List (Str × V)} {f : Addr} {fd : FuncData} {N ps : List Str} {k : Nat} {mb : MS} (F : FunD K x qual params body scope dvs kws f fd) (S : FnScope N ps scope)
    (hbody : ∀ (cdv : Value) (A : Around) (outer : List Env) (s : Shared) (H : Hp) (E : XK), Room k (A.deeper (envOfC qual scope s.heap.objs.size f cdv)) → PSs (cxOf (L2.CX P w) P w K mg base N qual scope f cdv A outer s H E) body (tS G E mb)) : FnOk P w K mg base (L2.CX P w) (k + 1) f fd ps (spM G ps.length (mDef N.length mb)) :=
  F.ok S (fun vs H Q E h => h.1) fun cdv A outer s H vs Q E hr h => ⟨_, hbody cdv A outer s H E hr, def_reads h⟩
theorem fn_stuck {k n : Nat} {f : Addr} {fd : FuncData} {ps : List Str} : FnOk P w K mg base (L2.CX P w) k f fd ps (spM G n (fun _ _ => .stuck)) :=
  ⟨fun vs H Q E ⟨_, ws, S, Z, μ, r, hv, af⟩ => af.elim, fun A outer s H args us vs Q E _ _ _ _ ⟨_, ws, S, Z, μ, r, hv, af⟩ => af.elim⟩
end
end Mo

set_option Elab.async false
set_option linter.all false
set_option maxRecDepth 100000
set_option autoImplicit false
/-! Mon6: operations on values. -/
namespace Mo
open PySem PySem.Spec L2
open PyProof.Rows hiding St

section
variable {G : Glo} {Z : Addr → Prop} {μ : List Addr} {H : Hp} {S : Sto} {v : V}
theorem i_non (h : VR G Z μ H .non v) : v = .non := by unfold VR at h; exact h
theorem i_bl {b : Bool} (h : VR G Z μ H (.bl b) v) : v = .bl b := by unfold VR at h; exact h
theorem i_int {i : Int} (h : VR G Z μ H (.int i) v) : v = .int i := by unfold VR at h; exact h
theorem i_str {i : Str} (h : VR G Z μ H (.str i) v) : v = .str i := by unfold VR at h; exact h
theorem i_ty {i : String} (h : VR G Z μ H (.ty i) v) : v = .ty i := by unfold VR at h; exact h
theorem i_tup {ws : List W} (h : VR G Z μ H (.tup ws) v) : ∃ a vs, v = .ref a ∧ H a = some (.tup vs) ∧ VRs G Z μ H ws vs := by unfold VR at h; exact h
theorem i_lst {ws : List W} (h : VR G Z μ H (.lst ws) v) : ∃ a vs, v = .ref a ∧ H a = some (.lst vs) ∧ ¬ Z a ∧ VRs G Z μ H ws vs := by unfold VR at h; exact h
theorem i_ref {n : Nat} (h : VR G Z μ H (.ref n) v) : ∃ a, μ[n]? = some a ∧ v = .ref a := by unfold VR at h; exact h
theorem i_scr {ns : List Int} (h : VR G Z μ H (.scr ns) v) : ∃ a, v = .ref a ∧ SqL G.K H a (ns.map V.int) := by
  unfold VR at h
  obtain ⟨a, e, h⟩ := h
  exact ⟨a, e, h.elim (fun h => .inl h.1) fun h => h H⟩
theorem vrs_ints : ∀ {ns : List Int} {vs : List V}, VRs G Z μ H (ns.map W.int) vs → vs = ns.map V.int
  | [], vs, h => by unfold VRs at h; exact h
  | n :: ns, vs, h => by
    unfold VRs at h
    obtain ⟨v, q, rfl, h1, h2⟩ := h
    rw [i_int h1, vrs_ints h2]; rfl
theorem ints_vrs : ∀ (ns : List Int), VRs G Z μ H (ns.map W.int) (ns.map V.int)
  | [] => VRs.nil
  | n :: ns => VRs.cons (vr_int _ _ _) (ints_vrs ns)
theorem one_of {w : W} {vs : List V} (h : VRs G Z μ H [w] vs) : ∃ v, vs = [v] ∧ VR G Z μ H w v := by
  unfold VRs at h
  obtain ⟨v, q, rfl, h1, h2⟩ := h
  unfold VRs at h2
  subst h2
  exact ⟨v, rfl, h1⟩
theorem two_of {w u : W} {vs : List V} (h : VRs G Z μ H [w, u] vs) : ∃ v x, vs = [v, x] ∧ VR G Z μ H w v ∧ VR G Z μ H u x := by
  unfold VRs at h
  obtain ⟨v, q, rfl, h1, h2⟩ := h
  obtain ⟨x, rfl, h3⟩ := one_of h2
  exact ⟨v, x, rfl, h1, h3⟩
/-- the items of a list that is read: frozen, of the store, the script's -/
def itemsL (S : Sto) : W → Option (List W)
  | .lst ws => some ws
  | .ref n => match S[n]? with
    | some (.lst ws) => some ws
    | _ => none
  | .scr ns => some (ns.map .int)
  | _ => none
theorem itemsL_ok (r : Rel G Z μ H S) {w : W} {ws : List W} (e : itemsL S w = some ws) (h : VR G Z μ H w v) : ∃ a vs, v = .ref a ∧ SqL G.K H a vs ∧ VRs G Z μ H ws vs := by
  unfold itemsL at e
  split at e
  · cases e
    obtain ⟨a, vs, rfl, h1, h2, h3⟩ := i_lst h
    exact ⟨a, vs, rfl, .inl (.inl h1), h3⟩
  · split at e
    · rename_i hs
      cases e
      obtain ⟨a, vs, rfl, h1, h2, h3⟩ := r.lst h hs
      exact ⟨a, vs, rfl, .inl (.inl h2), h3⟩
    · cases e
  · cases e
    obtain ⟨a, rfl, h1⟩ := i_scr h
    exact ⟨a, _, rfl, h1, ints_vrs _⟩
  · cases e
theorem VRs.atI {ws : List W} {vs : List V} {i : Int} {w : W} (h : VRs G Z μ H ws vs) (e : L2.atI ws i = some w) : ∃ v, L2.atI vs i = some v ∧ VR G Z μ H w v := by
  unfold L2.atI at e ⊢
  rw [h.length]
  cases e1 : ixN ws.length i with
  | none => rw [e1] at e; cases e
  | some j =>
    rw [e1] at e
    obtain ⟨v, h1, h2⟩ := h.get (i := j) e
    exact ⟨v, h1, h2⟩
end

/-! ### arithmetic -/
def small (i : Int) : Bool := decide (-(2 ^ 64) < i) && decide (i < 2 ^ 64)
def addW (x y : W) (S : Sto) : R W := match x with
  | .int i => (match y with | .int j => .ok (.int (i + j)) S | _ => .stuck)
  | .str a => (match y with | .str b => if a.length + b.length ≤ 100000 then .ok (.str (a ++ b)) S else .stuck | _ => .stuck)
  | .tup a => (match y with | .tup b => if a.length + b.length ≤ 100000 then .ok (.tup (a ++ b)) S else .stuck | _ => .stuck)
  | .lst a => (match y with | .lst b => if a.length + b.length ≤ 100000 then .ok (.lst (a ++ b)) S else .stuck | _ => .stuck)
  | _ => .stuck
def subW (x y : W) (S : Sto) : R W := match x with
  | .int i => (match y with | .int j => .ok (.int (i - j)) S | _ => .stuck)
  | _ => .stuck
def repL {α : Type} (k : Nat) (xs : List α) : List α := (List.replicate k xs).flatten
def mulW (x y : W) (S : Sto) : R W := match x with
  | .int i => (match y with | .int j => if small i || small j then .ok (.int (i * j)) S else .stuck | _ => .stuck)
  | .lst a => (match y with | .int k => if decide (-100000 < k) && decide (k < 100000) && decide (a.length * k.toNat ≤ 100000) then .ok (.lst (repL k.toNat a)) S else .stuck | _ => .stuck)
  | .tup a => (match y with | .int k => if !a.isEmpty && decide (2 ≤ k) && decide (k ≤ 1000) && decide (a.length ≤ 1000) then .ok (.tup (repL k.toNat a)) S else .stuck | _ => .stuck)
  | _ => .stuck
def fdivW (x y : W) (S : Sto) : R W := match x with
  | .int i => (match y with | .int j => if decide (j ≠ 0) && decide (j.natAbs < 1073741824) then .ok (.int (i.fdiv j)) S else .stuck | _ => .stuck)
  | _ => .stuck
def modW (x y : W) (S : Sto) : R W := match x with
  | .int i => (match y with | .int j => if j ≠ 0 then .ok (.int (i.fmod j)) S else .stuck | _ => .stuck)
  | _ => .stuck
def powW (x y : W) (S : Sto) : R W := match x with
  | .int i => (match y with | .int j => if decide (0 ≤ j) && decide (j ≤ 1000) && decide (i.natAbs < 2 ^ 64) then .ok (.int (i ^ j.toNat)) S else .stuck | _ => .stuck)
  | _ => .stuck
def xorW (x y : W) (S : Sto) : R W := match x with
  | .int i => (match y with | .int j => .ok (.int (Builtin.bitXor i j)) S | _ => .stuck)
  | _ => .stuck
def shlW (x y : W) (S : Sto) : R W := match x with
  | .int i => (match y with | .int j => if decide (0 ≤ j) && decide (j ≤ 1000) && decide (i.natAbs < 2 ^ 64) then .ok (.int (i * 2 ^ j.toNat)) S else .stuck | _ => .stuck)
  | _ => .stuck
def negW (x : W) (S : Sto) : R W := match x with
  | .int i => .ok (.int (-i)) S
  | _ => .stuck
def ltW (x y : W) (S : Sto) : R W := match x with
  | .int i => (match y with | .int j => .ok (.bl (decide (i < j))) S | _ => .stuck)
  | _ => .stuck
def leW (x y : W) (S : Sto) : R W := match x with
  | .int i => (match y with | .int j => .ok (.bl (decide (i ≤ j))) S | _ => .stuck)
  | _ => .stuck
def gtW (x y : W) (S : Sto) : R W := match x with
  | .int i => (match y with | .int j => .ok (.bl (decide (j < i))) S | _ => .stuck)
  | _ => .stuck
def geW (x y : W) (S : Sto) : R W := match x with
  | .int i => (match y with | .int j => .ok (.bl (decide (j ≤ i))) S | _ => .stuck)
  | _ => .stuck
section
variable {X : Cx} {G : Glo} {E : XK}
theorem o_i {f : W → W → Sto → R W} {F : Value → Value → Sem Value} {C : Int → Int → Prop} {g : Int → Int → V} (rule : OpR X F (rI C g)) (hf : ∀ x y S, f x y S = .stuck ∨ ∃ i j w, x = .int i ∧ y = .int j ∧ C i j ∧ f x y S = .ok w S ∧ ∀ Z μ H, VR G Z μ H w (g i j)) : OpR X F (rM G E f) := by
  intro pins s σ H x y v u Q I rx ry ⟨w1, w2, S, Z, μ, r, h1, h2, af⟩
  rcases hf w1 w2 S with e | ⟨i, j, w, rfl, rfl, hc, e, hv⟩
  · rw [e] at af; exact af.elim
  · rw [e] at af
    exact rule pins s σ H x y v u Q I rx ry ⟨i, j, i_int h1, i_int h2, hc, end_val r (hv _ _ _) af⟩
theorem o_i0 {f : W → W → Sto → R W} {F : Value → Value → Sem Value} {g : Int → Int → V} (rule : OpR X F (rI0 g)) (hf : ∀ x y S, f x y S = .stuck ∨ ∃ i j w, x = .int i ∧ y = .int j ∧ f x y S = .ok w S ∧ ∀ Z μ H, VR G Z μ H w (g i j)) : OpR X F (rM G E f) := by
  intro pins s σ H x y v u Q I rx ry ⟨w1, w2, S, Z, μ, r, h1, h2, af⟩
  rcases hf w1 w2 S with e | ⟨i, j, w, rfl, rfl, e, hv⟩
  · rw [e] at af; exact af.elim
  · rw [e] at af
    exact rule pins s σ H x y v u Q I rx ry ⟨i, j, i_int h1, i_int h2, end_val r (hv _ _ _) af⟩
theorem o_sub : OpR X (binaryOp .Sub) (rM G E subW) := o_i0 op_sub (by intro x y S; cases x <;> first | (exact Or.inl rfl) | (cases y <;> first | (exact Or.inl rfl) | exact Or.inr ⟨_, _, _, rfl, rfl, rfl, fun _ _ _ => vr_int _ _ _⟩ | exact Or.inr ⟨_, _, _, rfl, rfl, rfl, fun _ _ _ => vr_bl _ _ _⟩))
theorem o_xor : OpR X (binaryOp .BitXor) (rM G E xorW) := o_i0 op_xor (by intro x y S; cases x <;> first | (exact Or.inl rfl) | (cases y <;> first | (exact Or.inl rfl) | exact Or.inr ⟨_, _, _, rfl, rfl, rfl, fun _ _ _ => vr_int _ _ _⟩ | exact Or.inr ⟨_, _, _, rfl, rfl, rfl, fun _ _ _ => vr_bl _ _ _⟩))
theorem o_lt : OpR X (compareOp .Lt) (rM G E ltW) := o_i0 op_lt (by intro x y S; cases x <;> first | (exact Or.inl rfl) | (cases y <;> first | (exact Or.inl rfl) | exact Or.inr ⟨_, _, _, rfl, rfl, rfl, fun _ _ _ => vr_int _ _ _⟩ | exact Or.inr ⟨_, _, _, rfl, rfl, rfl, fun _ _ _ => vr_bl _ _ _⟩))
theorem o_le : OpR X (compareOp .LtE) (rM G E leW) := o_i0 op_le (by intro x y S; cases x <;> first | (exact Or.inl rfl) | (cases y <;> first | (exact Or.inl rfl) | exact Or.inr ⟨_, _, _, rfl, rfl, rfl, fun _ _ _ => vr_int _ _ _⟩ | exact Or.inr ⟨_, _, _, rfl, rfl, rfl, fun _ _ _ => vr_bl _ _ _⟩))
theorem o_gt : OpR X (compareOp .Gt) (rM G E gtW) := o_i0 op_gt (by intro x y S; cases x <;> first | (exact Or.inl rfl) | (cases y <;> first | (exact Or.inl rfl) | exact Or.inr ⟨_, _, _, rfl, rfl, rfl, fun _ _ _ => vr_int _ _ _⟩ | exact Or.inr ⟨_, _, _, rfl, rfl, rfl, fun _ _ _ => vr_bl _ _ _⟩))
theorem o_ge : OpR X (compareOp .GtE) (rM G E geW) := o_i0 op_ge (by intro x y S; cases x <;> first | (exact Or.inl rfl) | (cases y <;> first | (exact Or.inl rfl) | exact Or.inr ⟨_, _, _, rfl, rfl, rfl, fun _ _ _ => vr_int _ _ _⟩ | exact Or.inr ⟨_, _, _, rfl, rfl, rfl, fun _ _ _ => vr_bl _ _ _⟩))
theorem o_fdiv : OpR X (binaryOp .FloorDiv) (rM G E fdivW) := o_i op_fdivN fun x y S => by
  cases x <;> first | exact .inl rfl | skip
  cases y <;> first | exact .inl rfl | skip
  rename_i i j
  unfold fdivW
  dsimp only
  split
  · rename_i h
    simp only [Bool.and_eq_true, decide_eq_true_eq] at h
    exact .inr ⟨_, _, _, rfl, rfl, h, rfl, vr_int⟩
  · exact .inl rfl
theorem o_mod : OpR X (binaryOp .Mod) (rM G E modW) := o_i op_modN fun x y S => by
  cases x <;> first | exact .inl rfl | skip
  cases y <;> first | exact .inl rfl | skip
  rename_i i j
  unfold modW
  dsimp only
  split
  · rename_i h
    exact .inr ⟨_, _, _, rfl, rfl, h, rfl, vr_int⟩
  · exact .inl rfl
theorem o_pow : OpR X (binaryOp .Pow) (rM G E powW) := o_i op_pow fun x y S => by
  cases x <;> first | exact .inl rfl | skip
  cases y <;> first | exact .inl rfl | skip
  rename_i i j
  unfold powW
  dsimp only
  split
  · rename_i h
    simp only [Bool.and_eq_true, decide_eq_true_eq] at h
    exact .inr ⟨_, _, _, rfl, rfl, ⟨h.1.1, by omega, h.2⟩, rfl, vr_int⟩
  · exact .inl rfl
theorem o_shl : OpR X (binaryOp .LShift) (rM G E shlW) := o_i op_shl fun x y S => by
  cases x <;> first | exact .inl rfl | skip
  cases y <;> first | exact .inl rfl | skip
  rename_i i j
  unfold shlW
  dsimp only
  split
  · rename_i h
    simp only [Bool.and_eq_true, decide_eq_true_eq] at h
    exact .inr ⟨_, _, _, rfl, rfl, ⟨h.1.1, by omega, h.2⟩, rfl, vr_int⟩
  · exact .inl rfl
theorem o_add : OpR X (binaryOp .Add) (rM G E addW) := by
  intro pins s σ H x y v u Q I rx ry ⟨w1, w2, S, Z, μ, r, h1, h2, af⟩
  unfold addW at af
  split at af
  · split at af
    · exact op_add pins s σ H x y v u Q I rx ry ⟨_, _, i_int h1, i_int h2, end_val r (vr_int _ _ _) af⟩
    · exact af.elim
  · split at af
    · split at af
      · rename_i hl
        exact op_add_str pins s σ H x y v u Q I rx ry ⟨_, _, i_str h1, i_str h2, Nat.le_trans hl (by decide), end_val r (vr_str _ _ _) af⟩
      · exact af.elim
    · exact af.elim
  · split at af
    · split at af
      · rename_i hl
        obtain ⟨a, vs, rfl, q1, q2⟩ := i_tup h1
        obtain ⟨b, us, rfl, q3, q4⟩ := i_tup h2
        refine op_catA pins s σ H _ _ v u Q I rx ry ⟨a, b, vs, us, rfl, rfl, .inl (.inl q1), .inl (.inl q3), by rw [q2.length, q4.length]; exact Nat.le_trans hl (by decide), fun e => ?_, fun e e2 => ?_, fun e e2 => end_tup r (q2.append q4) af⟩
        · refine end_val r ?_ af
          have : (VRs.append q2 q4) = (VRs.append q2 q4) := rfl
          have k := q2.append q4
          rw [e, List.nil_append] at k
          unfold VR
          exact ⟨b, us, rfl, q3, k⟩
        · refine end_val r ?_ af
          have k := q2.append q4
          rw [e2, List.append_nil] at k
          unfold VR
          exact ⟨a, vs, rfl, q1, k⟩
      · exact af.elim
    · exact af.elim
  · split at af
    · split at af
      · rename_i hl
        obtain ⟨a, vs, rfl, q1, _, q2⟩ := i_lst h1
        obtain ⟨b, us, rfl, q3, _, q4⟩ := i_lst h2
        exact op_cat pins s σ H _ _ v u Q I rx ry ⟨a, b, vs, us, rfl, rfl, q1, q3, by rw [q2.length, q4.length]; exact Nat.le_trans hl (by decide), end_lst r (q2.append q4) af⟩
      · exact af.elim
    · exact af.elim
  · exact af.elim
theorem VRs.rep {Z : Addr → Prop} {μ : List Addr} {H : Hp} {ws : List W} {vs : List V} (h : VRs G Z μ H ws vs) : ∀ k : Nat, VRs G Z μ H (repL k ws) (repL k vs)
  | 0 => VRs.nil
  | k + 1 => by
    unfold repL
    rw [List.replicate_succ, List.replicate_succ, List.flatten_cons, List.flatten_cons]
    exact h.append (VRs.rep h k)
theorem o_mul : OpR X (binaryOp .Mult) (rM G E mulW) := by
  intro pins s σ H x y v u Q I rx ry ⟨w1, w2, S, Z, μ, r, h1, h2, af⟩
  unfold mulW at af
  split at af
  · split at af
    · split at af
      · rename_i hs
        refine op_mul pins s σ H x y v u Q I rx ry ⟨_, _, i_int h1, i_int h2, ?_, end_val r (vr_int _ _ _) af⟩
        simp only [small, Bool.or_eq_true, Bool.and_eq_true, decide_eq_true_eq] at hs
        exact hs
      · exact af.elim
    · exact af.elim
  · split at af
    · split at af
      · rename_i hs
        simp only [Bool.and_eq_true, decide_eq_true_eq] at hs
        obtain ⟨a, vs, rfl, q1, _, q2⟩ := i_lst h1
        exact op_rep pins s σ H _ _ v u Q I rx ry ⟨a, _, vs, rfl, i_int h2, q1, by omega, by omega, by rw [q2.length]; exact Nat.le_trans hs.2 (by decide), end_lst r (q2.rep _) af⟩
      · exact af.elim
    · exact af.elim
  · split at af
    · split at af
      · rename_i hs
        simp only [Bool.and_eq_true, decide_eq_true_eq, Bool.not_eq_true'] at hs
        obtain ⟨a, vs, rfl, q1, q2⟩ := i_tup h1
        refine op_repT pins s σ H _ _ v u Q I rx ry ⟨a, _, vs, rfl, i_int h2, .inl (.inl q1), fun e => ?_, hs.1.1.2, hs.1.2, by rw [q2.length]; exact hs.2, end_tup r (q2.rep _) af⟩
        have hl := q2.length
        rw [e] at hl
        have h0 := hs.1.1.1
        rw [List.eq_nil_of_length_eq_zero hl.symm] at h0
        cases h0
      · exact af.elim
    · exact af.elim
  · exact af.elim
theorem o_neg : UnR X (unaryOp .USub) (uM G E negW) := by
  intro pins s σ H x v Q I rx ⟨w, S, Z, μ, r, h1, af⟩
  unfold negW at af
  split at af
  · exact un_neg pins s σ H x v Q I rx ⟨_, i_int h1, end_val r (vr_int _ _ _) af⟩
  · exact af.elim
end

/-! ### == and != -/
mutual
def W.data : W → Option PyData
  | .non => some .none
  | .bl b => some (.bool b)
  | .int i => some (.int i)
  | .str x => some (.str x)
  | .tup ws => match datas ws with
    | some ds => some (.tuple ds)
    | none => none
  | .lst ws => match datas ws with
    | some ds => some (.list ds)
    | none => none
  | _ => none
def datas : List W → Option (List PyData)
  | [] => some []
  | w :: ws => match w.data with
    | some d => match datas ws with
      | some ds => some (d :: ds)
      | none => none
    | none => none
end
/-- the value's data; a list of the store at the top is looked at -/
def dataS (S : Sto) (w : W) : Option PyData := match w with
  | .ref n => match S[n]? with
    | some (.lst ws) => (W.lst ws).data
    | _ => none
  | w => w.data
def eqD (x y : W) (S : Sto) : Option Bool := match dataS S x with
  | some d => match dataS S y with
    | some e => if SeqAt.shaped d && SeqAt.shaped e then some (PyData.eqv d e) else none
    | none => none
  | none => none
def eqW (x y : W) (S : Sto) : R W := match eqD x y S with
  | some b => .ok (.bl b) S
  | none => .stuck
def neW (x y : W) (S : Sto) : R W := match eqD x y S with
  | some b => .ok (.bl (!b)) S
  | none => .stuck
section
variable {X : Cx} {G : Glo} {E : XK} {Z : Addr → Prop} {μ : List Addr} {H : Hp} {S : Sto}
mutual
theorem data_dp : ∀ {w : W} {v : V} {d : PyData}, w.data = some d → VR G Z μ H w v → Dp G.K H v d
  | .non, v, d, e, h => by unfold W.data at e; cases e; rw [i_non h]; exact .non
  | .bl b, v, d, e, h => by unfold W.data at e; cases e; rw [i_bl h]; exact .bl b
  | .int i, v, d, e, h => by unfold W.data at e; cases e; rw [i_int h]; exact .int i
  | .str i, v, d, e, h => by unfold W.data at e; cases e; rw [i_str h]; exact .str i
  | .tup ws, v, d, e, h => by
    unfold W.data at e
    cases e1 : datas ws with
    | none => rw [e1] at e; cases e
    | some ds =>
      rw [e1] at e; cases e
      obtain ⟨a, vs, rfl, h1, h2⟩ := i_tup h
      exact .tup (.inl (.inl h1)) (data_dps e1 h2)
  | .lst ws, v, d, e, h => by
    unfold W.data at e
    cases e1 : datas ws with
    | none => rw [e1] at e; cases e
    | some ds =>
      rw [e1] at e; cases e
      obtain ⟨a, vs, rfl, h1, _, h2⟩ := i_lst h
      exact .lst (.inl (.inl h1)) (data_dps e1 h2)
  | .ty _, _, _, e, _ => by unfold W.data at e; cases e
  | .ref _, _, _, e, _ => by unfold W.data at e; cases e
  | .glob _, _, _, e, _ => by unfold W.data at e; cases e
  | .exc _, _, _, e, _ => by unfold W.data at e; cases e
  | .clo _ _, _, _, e, _ => by unfold W.data at e; cases e
  | .scr _, _, _, e, _ => by unfold W.data at e; cases e
theorem data_dps : ∀ {ws : List W} {vs : List V} {ds : List PyData}, datas ws = some ds → VRs G Z μ H ws vs → DpAll G.K H vs ds
  | [], vs, ds, e, h => by unfold datas at e; cases e; unfold VRs at h; subst h; exact .nil
  | w :: ws, vs, ds, e, h => by
    unfold datas at e
    cases e1 : w.data with
    | none => rw [e1] at e; cases e
    | some d =>
      rw [e1] at e
      cases e2 : datas ws with
      | none => rw [e2] at e; cases e
      | some ds' =>
        rw [e2] at e; cases e
        unfold VRs at h
        obtain ⟨v, q, rfl, h1, h2⟩ := h
        exact .cons (data_dp e1 h1) (data_dps e2 h2)
end
theorem dataS_dp (r : Rel G Z μ H S) {w : W} {v : V} {d : PyData} (e : dataS S w = some d) (h : VR G Z μ H w v) : Dp G.K H v d := by
  unfold dataS at e
  split at e
  · split at e
    · rename_i hs
      obtain ⟨a, vs, rfl, h1, h2, h3⟩ := r.lst h hs
      unfold W.data at e
      split at e
      · rename_i e1
        cases e
        exact .lst (.inl (.inl h2)) (data_dps e1 h3)
      · cases e
    · cases e
  · exact data_dp e h
theorem eqD_ok (r : Rel G Z μ H S) {w u : W} {x y : V} {b : Bool} (e : eqD w u S = some b) (h : VR G Z μ H w x) (k : VR G Z μ H u y) : ∃ d e', Dp G.K H x d ∧ Dp G.K H y e' ∧ SeqAt.shaped d = true ∧ SeqAt.shaped e' = true ∧ b = PyData.eqv d e' := by
  unfold eqD at e
  split at e
  · rename_i d e1
    split at e
    · rename_i d2 e2
      split at e
      · rename_i hs
        cases e
        have hs' := Bool.and_eq_true_iff.mp hs
        exact ⟨d, d2, dataS_dp r e1 h, dataS_dp r e2 k, hs'.1, hs'.2, rfl⟩
      · cases e
    · cases e
  · cases e
theorem o_eq (hK : X.K = G.K) (hu : X.A.units + 64 < cLine) : OpR X (compareOp .Eq) (rM G E eqW) := by
  intro pins s σ H x y v u Q I rx ry ⟨w1, w2, S, Z, μ, r, h1, h2, af⟩
  unfold eqW at af
  split at af
  · rename_i b e
    obtain ⟨d, d2, q1, q2, q3, q4, rfl⟩ := eqD_ok r e h1 h2
    exact op_eqD hu pins s σ H x y v u Q I rx ry ⟨d, d2, by rw [hK]; exact q1, by rw [hK]; exact q2, q3, q4, end_val r (vr_bl _ _ _) af⟩
  · exact af.elim
theorem o_ne (hK : X.K = G.K) (hu : X.A.units + 64 < cLine) : OpR X (compareOp .NotEq) (rM G E neW) := by
  intro pins s σ H x y v u Q I rx ry ⟨w1, w2, S, Z, μ, r, h1, h2, af⟩
  unfold neW at af
  split at af
  · rename_i b e
    obtain ⟨d, d2, q1, q2, q3, q4, rfl⟩ := eqD_ok r e h1 h2
    exact op_neD hu pins s σ H x y v u Q I rx ry ⟨d, d2, by rw [hK]; exact q1, by rw [hK]; exact q2, q3, q4, end_val r (vr_bl _ _ _) af⟩
  · exact af.elim
end
/-! ### is -/
def isNon : W → Bool
  | .non => true
  | _ => false
def isW (x y : W) (S : Sto) : R W := match y with
  | .non => (match x with
    | .non => .ok (.bl true) S
    | _ => .ok (.bl false) S)
  | .bl b => (match x with
    | .bl a => .ok (.bl (a == b)) S
    | _ => .stuck)
  | _ => .stuck
def isntW (x y : W) (S : Sto) : R W := match isW x y S with
  | .ok (.bl b) S => .ok (.bl (!b)) S
  | r => r
section
variable {X : Cx} {G : Glo} {E : XK} {Z : Addr → Prop} {μ : List Addr} {H : Hp} {S : Sto}
theorem vr_is_non {w : W} {v : V} (h : VR G Z μ H w v) : decide (v = .non) = isNon w := by
  cases w with
  | non => rw [i_non h]; rfl
  | bl b => rw [i_bl h]; rfl
  | int b => rw [i_int h]; rfl
  | str b => rw [i_str h]; rfl
  | ty b => rw [i_ty h]; rfl
  | tup b => obtain ⟨a, vs, rfl, _⟩ := i_tup h; rfl
  | lst b => obtain ⟨a, vs, rfl, _⟩ := i_lst h; rfl
  | ref b => obtain ⟨a, _, rfl⟩ := i_ref h; rfl
  | glob b => unfold VR at h; obtain ⟨a, _, rfl⟩ := h; rfl
  | exc b => unfold VR at h; obtain ⟨a, rfl, _⟩ := h; rfl
  | clo b c => unfold VR at h; obtain ⟨a, vs, rfl, _⟩ := h; rfl
  | scr b => obtain ⟨a, rfl, _⟩ := i_scr h; rfl
theorem o_is : OpR X (compareOp .Is) (rM G E isW) := by
  intro pins s σ H x y v u Q I rx ry ⟨w1, w2, S, Z, μ, r, h1, h2, af⟩
  cases w2 with
  | non =>
    refine op_isN pins s σ H x y v u Q I rx ry ⟨i_non h2, ?_⟩
    rw [vr_is_non h1]
    cases w1 <;> exact end_val r (vr_bl _ _ _) af
  | bl b =>
    cases w1 with
    | bl a =>
      refine op_is_bl pins s σ H x y v u Q I rx ry ⟨a, b, i_bl h1, i_bl h2, ?_⟩
      have e : (a == b) = decide (a = b) := Bool.beq_eq_decide_eq a b
      unfold isW at af
      rw [← e]
      exact end_val r (vr_bl _ _ _) af
    | _ => exact af.elim
  | _ => exact af.elim
theorem o_isnt : OpR X (compareOp .IsNot) (rM G E isntW) := by
  intro pins s σ H x y v u Q I rx ry ⟨w1, w2, S, Z, μ, r, h1, h2, af⟩
  cases w2 with
  | non =>
    refine op_notN pins s σ H x y v u Q I rx ry ⟨i_non h2, ?_⟩
    rw [vr_is_non h1]
    cases w1 <;> exact end_val r (vr_bl _ _ _) af
  | bl b =>
    cases w1 with
    | bl a =>
      refine op_isnot_bl pins s σ H x y v u Q I rx ry ⟨a, b, i_bl h1, i_bl h2, ?_⟩
      have e : (a == b) = decide (a = b) := Bool.beq_eq_decide_eq a b
      unfold isntW isW at af
      dsimp only at af
      rw [← e]
      exact end_val r (vr_bl _ _ _) af
    | _ => exact af.elim
  | _ => exact af.elim
end
end Mo

set_option Elab.async false
set_option linter.all false
set_option maxRecDepth 100000
set_option autoImplicit false
/-! Mon7: items, lengths, types, built-ins, methods, stores. -/
namespace Mo
open PySem PySem.Spec L2
open PyProof.Rows hiding St

/-! ### x[i] -/
def idxW (x y : W) (S : Sto) : R W := match y with
  | .int i => (match x with
    | .tup ws => (match L2.atI ws i with
      | some w => .ok w S
      | none => .stuck)
    | .str z => (match L2.atI z.cps.toList i with
      | some c => if z.length ≤ 100000 then .ok (.str ⟨#[c]⟩) S else .stuck
      | none => .stuck)
    | x => (match itemsL S x with
      | some ws => (match L2.atI ws i with
        | some w => .ok w S
        | none => .stuck)
      | none => .stuck))
  | _ => .stuck
section
variable {X : Cx} {G : Glo} {E : XK}
theorem o_idx (hK : X.K = G.K) : IxR X (rM G E idxW) := by
  intro value slice pins s σ H x y v u Q I rx ry ⟨w1, w2, S, Z, μ, r, h1, h2, af⟩ hs
  refine ix_seq value slice pins s σ H x y v u Q I rx ry ?_ hs
  unfold idxW at af
  split at af
  · split at af
    · split at af
      · rename_i e
        obtain ⟨a, vs, rfl, q1, q2⟩ := i_tup h1
        obtain ⟨z, k1, k2⟩ := q2.atI e
        exact .inr (.inl ⟨a, vs, _, z, rfl, i_int h2, .inl (.inl q1), k1, end_val r k2 af⟩)
      · exact af.elim
    · split at af
      · rename_i e
        split at af
        · rename_i hl
          exact .inr (.inr ⟨_, _, _, i_str h1, i_int h2, Nat.le_trans hl (by decide), e, end_val r (vr_str _ _ _) af⟩)
        · exact af.elim
      · exact af.elim
    · split at af
      · rename_i e
        split at af
        · rename_i e2
          obtain ⟨a, vs, rfl, q1, q2⟩ := itemsL_ok r e h1
          obtain ⟨z, k1, k2⟩ := q2.atI e2
          exact .inl ⟨a, vs, _, z, rfl, i_int h2, by rw [hK]; exact q1, k1, end_val r k2 af⟩
        · exact af.elim
      · exact af.elim
  · exact af.elim
end
/-! ### built-ins -/
def lenW (ws : List W) (S : Sto) : R W := match ws with
  | [.tup xs] => .ok (.int xs.length) S
  | [.str z] => if z.length ≤ 100000 then .ok (.int z.length) S else .stuck
  | [x] => (match itemsL S x with
    | some xs => .ok (.int xs.length) S
    | none => .stuck)
  | _ => .stuck
/-- which built-in class a value is of -/
def tyW (S : Sto) : W → Option String
  | .non => some "NoneType"
  | .bl _ => some "bool"
  | .int _ => some "int"
  | .str _ => some "str"
  | .tup _ => some "tuple"
  | .lst _ => some "list"
  | .ref n => match S[n]? with
    | some (.lst _) => some "list"
    | some (.dict _) => some "dict"
    | none => none
  | _ => none
/-- T <= n -/
def subT (T n : String) : Option Bool := if ["int", "bool", "str", "tuple", "list", "dict"].contains n then some (T == n || (T == "bool" && n == "int")) else none
def isiW (ws : List W) (S : Sto) : R W := match ws with
  | [x, .ty n] => (match tyW S x with
    | some T => (match subT T n with
      | some b => .ok (.bl b) S
      | none => .stuck)
    | none => .stuck)
  | [x, .tup [.ty n, .ty m]] => (match tyW S x with
    | some T => (match subT T n with
      | some b => (match subT T m with
        | some c => .ok (.bl (b || c)) S
        | none => .stuck)
      | none => .stuck)
    | none => .stuck)
  | _ => .stuck
def bools : List W → Option (List Bool)
  | [] => some []
  | .bl b :: ws => match bools ws with
    | some bs => some (b :: bs)
    | none => none
  | _ => none
def intsW : List W → Option (List Int)
  | [] => some []
  | .int b :: ws => match intsW ws with
    | some bs => some (b :: bs)
    | none => none
  | _ => none
def onList {α : Type} (f : List W → Option α) (g : α → W) (ws : List W) (S : Sto) : R W := match ws with
  | [x] => (match itemsL S x with
    | some xs => (match f xs with
      | some bs => .ok (g bs) S
      | none => .stuck)
    | none => .stuck)
  | _ => .stuck
def allW : List W → Sto → R W := onList bools fun bs => .bl (bs.all id)
def anyW : List W → Sto → R W := onList bools fun bs => .bl (bs.any id)
def sumW : List W → Sto → R W := onList intsW fun ns => .int ns.sum
def maxI : List Int → Int
  | [] => 0
  | [n] => n
  | n :: ns => let m := maxI ns; if n < m then m else n
def minI : List Int → Int
  | [] => 0
  | [n] => n
  | n :: ns => let m := minI ns; if m < n then m else n
def nonempty (f : List W → Option (List Int)) (ws : List W) : Option (List Int) := match f ws with
  | some (n :: ns) => some (n :: ns)
  | _ => none
def maxW : List W → Sto → R W := onList (nonempty intsW) fun ns => .int (maxI ns)
def minW : List W → Sto → R W := onList (nonempty intsW) fun ns => .int (minI ns)
def max2W (ws : List W) (S : Sto) : R W := match ws with
  | [.int i, .int j] => .ok (.int (if j > i then j else i)) S
  | _ => .stuck
def min2W (ws : List W) (S : Sto) : R W := match ws with
  | [.int i, .int j] => .ok (.int (if j < i then j else i)) S
  | _ => .stuck
def absW (ws : List W) (S : Sto) : R W := match ws with
  | [.int i] => .ok (.int (if i < 0 then -i else i)) S
  | _ => .stuck
def intW (ws : List W) (S : Sto) : R W := match ws with
  | [.int i] => .ok (.int i) S
  | [.bl b] => .ok (.int (if b then 1 else 0)) S
  | _ => .stuck
def listW (ws : List W) (S : Sto) : R W := match ws with
  | [.tup xs] => .ok (.lst xs) S
  | [x] => (match itemsL S x with
    | some xs => .ok (.lst xs) S
    | none => .stuck)
  | _ => .stuck
/-- list(..) whose list is changed later -/
def listN (ws : List W) (S : Sto) : R W := match ws with
  | [.tup xs] => .ok (.ref S.length) (S ++ [.lst xs])
  | [x] => (match itemsL S x with
    | some xs => .ok (.ref S.length) (S ++ [.lst xs])
    | none => .stuck)
  | _ => .stuck
def tupleW (ws : List W) (S : Sto) : R W := match ws with
  | [.tup xs] => .ok (.tup xs) S
  | [x] => (match itemsL S x with
    | some xs => .ok (.tup xs) S
    | none => .stuck)
  | _ => .stuck
section
variable {X : Cx} {G : Glo} {E : XK} {Z : Addr → Prop} {μ : List Addr} {H : Hp} {S : Sto}
theorem c_len (hK : X.K = G.K) : CallR X (.builtin "len") (cM G E lenW) := by
  intro pins s σ H vs us Q I rv ⟨ws, S, Z, μ, r, hv, af⟩
  unfold lenW at af
  split at af
  · obtain ⟨v, rfl, h1⟩ := one_of hv
    obtain ⟨a, xs, rfl, q1, q2⟩ := i_tup h1
    refine call_len_seq pins s σ H _ us Q I rv ⟨a, xs, rfl, .inr (.inl (.inl q1)), ?_⟩
    rw [q2.length]
    exact end_val r (vr_int _ _ _) af
  · obtain ⟨v, rfl, h1⟩ := one_of hv
    split at af
    · rename_i hl
      exact call_len_str pins s σ H _ us Q I rv ⟨_, by rw [i_str h1], Nat.le_trans hl (by decide), end_val r (vr_int _ _ _) af⟩
    · exact af.elim
  · obtain ⟨v, rfl, h1⟩ := one_of hv
    split at af
    · rename_i e
      obtain ⟨a, xs, rfl, q1, q2⟩ := itemsL_ok r e h1
      refine call_len_seq pins s σ H _ us Q I rv ⟨a, xs, rfl, .inl (by rw [hK]; exact q1), ?_⟩
      rw [q2.length]
      exact end_val r (vr_int _ _ _) af
    · exact af.elim
  · exact af.elim
theorem tyW_ok (r : Rel G Z μ H S) {w : W} {v : V} {T : String} (e : tyW S w = some T) (h : VR G Z μ H w v) : TyX G.K H v (.type T) := by
  unfold tyW at e
  split at e
  · cases e; rw [i_non h]; exact .base .non
  · cases e; rw [i_bl h]; exact .base (.bl _)
  · cases e; rw [i_int h]; exact .base (.int _)
  · cases e; rw [i_str h]; exact .base (.str _)
  · cases e; obtain ⟨a, vs, rfl, q1, _⟩ := i_tup h; exact .base (.tup q1)
  · cases e; obtain ⟨a, vs, rfl, q1, _⟩ := i_lst h; exact .base (.lst q1)
  · split at e
    · rename_i hs; cases e
      obtain ⟨a, vs, rfl, _, q1, _⟩ := r.lst h hs
      exact .base (.lst q1)
    · rename_i hs; cases e
      obtain ⟨a, h1, rfl⟩ := i_ref h
      obtain ⟨es, h2, _⟩ := r.ob _ a _ h1 hs
      exact .base (.dK h2)
    · cases e
  · cases e
theorem subT_ok {K : PySem.W.Frag} {n : String} {w : W} {T : String} {b : Bool} (e : tyW S w = some T) (h : subT T n = some b) : PySem.W.kitOne K (.type T) (.type n) = some b := by
  have hn : n = "int" ∨ n = "bool" ∨ n = "str" ∨ n = "tuple" ∨ n = "list" ∨ n = "dict" := by
    unfold subT at h
    split at h
    · rename_i hc
      simpa using hc
    · cases h
  have hT : T = "NoneType" ∨ T = "bool" ∨ T = "int" ∨ T = "str" ∨ T = "tuple" ∨ T = "list" ∨ T = "dict" := by
    unfold tyW at e
    split at e <;> first | (cases e; simp; done) | skip
    · split at e <;> first | (cases e; simp; done) | (cases e)
    · cases e
  rcases hn with rfl | rfl | rfl | rfl | rfl | rfl <;> rcases hT with rfl | rfl | rfl | rfl | rfl | rfl | rfl <;> (have hb : some b = _ := h.symm; refine Eq.trans (kit_ty (K := K) (r := b) ?_) rfl; rw [hb]; decide +kernel)
theorem c_isi (hK : X.K = G.K) : CallR X (.builtin "isinstance") (cM G E isiW) := by
  intro pins s σ H vs us Q I rv ⟨ws, S, Z, μ, r, hv, af⟩
  unfold isiW at af
  split at af
  · rename_i x n
    split at af
    · rename_i T e
      split at af
      · rename_i b e2
        obtain ⟨v, u, rfl, h1, h2⟩ := two_of hv
        refine call_isi pins s σ H _ us Q I rv ⟨v, u, .type T, .type n, b, rfl, by rw [i_ty h2]; exact .ty n, by rw [hK]; exact tyW_ok r e h1, subT_ok e e2, end_val r (vr_bl _ _ _) af⟩
      · exact af.elim
    · exact af.elim
  · rename_i x n m
    split at af
    · rename_i T e
      split at af
      · rename_i b e2
        split at af
        · rename_i c e3
          obtain ⟨v, u, rfl, h1, h2⟩ := two_of hv
          obtain ⟨tp, cs, rfl, q1, q2⟩ := i_tup h2
          obtain ⟨c1, c2, rfl, k1, k2⟩ := two_of q2
          rw [i_ty k1, i_ty k2] at q1
          refine call_isiT pins s σ H _ us Q I rv ⟨v, tp, _, .type T, [.type n, .type m], b || c, rfl, q1, .cons (.ty n) (.cons (.ty m) .nil), by rw [hK]; exact tyW_ok r e h1, ?_, end_val r (vr_bl _ _ _) af⟩
          refine kitAny_cons (subT_ok e e2) (fun hb => ?_) (fun hb => by rw [hb]; rfl)
          refine kitAny_cons (subT_ok e e3) (fun hc => ?_) (fun hc => by rw [hc, Bool.or_true])
          rw [hb, hc]
          exact kitAny_nil
        · exact af.elim
      · exact af.elim
    · exact af.elim
  · exact af.elim
theorem bools_ok : ∀ {ws : List W} {vs : List V} {bs : List Bool}, bools ws = some bs → VRs G Z μ H ws vs → vs = bs.map V.bl
  | [], vs, bs, e, h => by unfold bools at e; cases e; unfold VRs at h; exact h
  | w :: ws, vs, bs, e, h => by
    unfold VRs at h
    obtain ⟨v, q, rfl, h1, h2⟩ := h
    unfold bools at e
    split at e
    · cases ‹_ :: _ = []›
    · rename_i b ws' e0
      cases e0
      split at e
      · rename_i bs' e1
        cases e
        rw [i_bl h1, bools_ok e1 h2]; rfl
      · cases e
    · cases e
theorem intsW_ok : ∀ {ws : List W} {vs : List V} {bs : List Int}, intsW ws = some bs → VRs G Z μ H ws vs → vs = bs.map V.int
  | [], vs, bs, e, h => by unfold intsW at e; cases e; unfold VRs at h; exact h
  | w :: ws, vs, bs, e, h => by
    unfold VRs at h
    obtain ⟨v, q, rfl, h1, h2⟩ := h
    unfold intsW at e
    split at e
    · cases ‹_ :: _ = []›
    · rename_i b ws' e0
      cases e0
      split at e
      · rename_i bs' e1
        cases e
        rw [i_int h1, intsW_ok e1 h2]; rfl
      · cases e
    · cases e
theorem onList_ok {α : Type} {f : List W → Option α} {g : α → W} {ws : List W} {vs : List V} {Q : VK} (r : Rel G Z μ H S) (hv : VRs G Z μ H ws vs) (af : Aft G E Z μ H (onList f g ws S) (PQ G Q)) : ∃ a us xs bs, vs = [.ref a] ∧ SqL G.K H a us ∧ VRs G Z μ H xs us ∧ f xs = some bs ∧ Aft G E Z μ H (.ok (g bs) S) (PQ G Q) := by
  unfold onList at af
  split at af
  · split at af
    · rename_i e
      split at af
      · rename_i e2
        obtain ⟨v, rfl, h1⟩ := one_of hv
        obtain ⟨a, xs, rfl, q1, q2⟩ := itemsL_ok r e h1
        exact ⟨a, xs, _, _, rfl, q1, q2, e2, af⟩
      · exact af.elim
    · exact af.elim
  · exact af.elim
theorem c_all (hK : X.K = G.K) (hc : X.calm = true) : CallR X (.builtin "all") (cM G E allW) := by
  intro pins s σ H vs us Q I rv ⟨ws, S, Z, μ, r, hv, af⟩
  obtain ⟨a, us', xs, bs, rfl, q1, q2, e, af⟩ := onList_ok r hv af
  exact cr_all hc pins s σ H _ us Q I rv ⟨a, bs, rfl, by rw [hK, ← bools_ok e q2]; exact q1, end_val r (vr_bl _ _ _) af⟩
theorem c_any (hK : X.K = G.K) (hc : X.calm = true) : CallR X (.builtin "any") (cM G E anyW) := by
  intro pins s σ H vs us Q I rv ⟨ws, S, Z, μ, r, hv, af⟩
  obtain ⟨a, us', xs, bs, rfl, q1, q2, e, af⟩ := onList_ok r hv af
  exact cr_any hc pins s σ H _ us Q I rv ⟨a, bs, rfl, by rw [hK, ← bools_ok e q2]; exact q1, end_val r (vr_bl _ _ _) af⟩
theorem c_sum (hK : X.K = G.K) (hc : X.calm = true) : CallR X (.builtin "sum") (cM G E sumW) := by
  intro pins s σ H vs us Q I rv ⟨ws, S, Z, μ, r, hv, af⟩
  obtain ⟨a, us', xs, bs, rfl, q1, q2, e, af⟩ := onList_ok r hv af
  exact cr_sum hc pins s σ H _ us Q I rv ⟨a, bs, rfl, by rw [hK, ← intsW_ok e q2]; exact q1, end_val r (vr_int _ _ _) af⟩
theorem maxI_mem : ∀ (n : Int) (ns : List Int), maxI (n :: ns) ∈ n :: ns ∧ ∀ y, y ∈ n :: ns → y ≤ maxI (n :: ns)
  | n, [] => by simp [maxI]
  | n, m :: ms => by
    obtain ⟨h1, h2⟩ := maxI_mem m ms
    have e : maxI (n :: m :: ms) = if n < maxI (m :: ms) then maxI (m :: ms) else n := rfl
    rw [e]
    by_cases h : n < maxI (m :: ms)
    · rw [if_pos h]
      exact ⟨List.mem_cons_of_mem _ h1, fun y hy => (List.mem_cons.mp hy).elim (fun e => by omega) (h2 y)⟩
    · rw [if_neg h]
      exact ⟨List.mem_cons_self, fun y hy => (List.mem_cons.mp hy).elim (fun e => by omega) fun hy => by have := h2 y hy; omega⟩
theorem minI_mem : ∀ (n : Int) (ns : List Int), minI (n :: ns) ∈ n :: ns ∧ ∀ y, y ∈ n :: ns → minI (n :: ns) ≤ y
  | n, [] => by simp [minI]
  | n, m :: ms => by
    obtain ⟨h1, h2⟩ := minI_mem m ms
    have e : minI (n :: m :: ms) = if minI (m :: ms) < n then minI (m :: ms) else n := rfl
    rw [e]
    by_cases h : minI (m :: ms) < n
    · rw [if_pos h]
      exact ⟨List.mem_cons_of_mem _ h1, fun y hy => (List.mem_cons.mp hy).elim (fun e => by omega) (h2 y)⟩
    · rw [if_neg h]
      exact ⟨List.mem_cons_self, fun y hy => (List.mem_cons.mp hy).elim (fun e => by omega) fun hy => by have := h2 y hy; omega⟩
theorem nonempty_ok {xs : List W} {ns : List Int} (e : nonempty intsW xs = some ns) : intsW xs = some ns ∧ ∃ n ms, ns = n :: ms := by
  unfold nonempty at e
  split at e
  · rename_i n ms e1
    cases e
    exact ⟨e1, n, ms, rfl⟩
  · cases e
theorem c_max (hK : X.K = G.K) (hc : X.calm = true) : CallR X (.builtin "max") (cM G E maxW) := by
  intro pins s σ H vs us Q I rv ⟨ws, S, Z, μ, r, hv, af⟩
  obtain ⟨a, us', xs, bs, rfl, q1, q2, e, af⟩ := onList_ok r hv af
  obtain ⟨e1, n, ms, rfl⟩ := nonempty_ok e
  refine cr_max hc pins s σ H _ us Q I rv ⟨a, _, rfl, by rw [hK, ← intsW_ok e1 q2]; exact q1, by simp, fun m hm hle => ?_⟩
  obtain ⟨k1, k2⟩ := maxI_mem n ms
  have : m = maxI (n :: ms) := Int.le_antisymm (k2 m hm) (hle _ k1)
  subst this
  exact end_val r (vr_int _ _ _) af
theorem c_min (hK : X.K = G.K) (hc : X.calm = true) : CallR X (.builtin "min") (cM G E minW) := by
  intro pins s σ H vs us Q I rv ⟨ws, S, Z, μ, r, hv, af⟩
  obtain ⟨a, us', xs, bs, rfl, q1, q2, e, af⟩ := onList_ok r hv af
  obtain ⟨e1, n, ms, rfl⟩ := nonempty_ok e
  refine cr_min hc pins s σ H _ us Q I rv ⟨a, _, rfl, by rw [hK, ← intsW_ok e1 q2]; exact q1, by simp, fun m hm hle => ?_⟩
  obtain ⟨k1, k2⟩ := minI_mem n ms
  have : m = minI (n :: ms) := Int.le_antisymm (hle _ k1) (k2 m hm)
  subst this
  exact end_val r (vr_int _ _ _) af
theorem c_max2 (hc : X.calm = true) : CallR X (.builtin "max") (cM G E max2W) := by
  intro pins s σ H vs us Q I rv ⟨ws, S, Z, μ, r, hv, af⟩
  unfold max2W at af
  split at af
  · obtain ⟨v, u, rfl, h1, h2⟩ := two_of hv
    exact call_max2 hc pins s σ H _ us Q I rv ⟨_, _, by rw [i_int h1, i_int h2], end_val r (vr_int _ _ _) af⟩
  · exact af.elim
theorem c_min2 (hc : X.calm = true) : CallR X (.builtin "min") (cM G E min2W) := by
  intro pins s σ H vs us Q I rv ⟨ws, S, Z, μ, r, hv, af⟩
  unfold min2W at af
  split at af
  · obtain ⟨v, u, rfl, h1, h2⟩ := two_of hv
    exact call_min2 hc pins s σ H _ us Q I rv ⟨_, _, by rw [i_int h1, i_int h2], end_val r (vr_int _ _ _) af⟩
  · exact af.elim
theorem c_abs : CallR X (.builtin "abs") (cM G E absW) := by
  intro pins s σ H vs us Q I rv ⟨ws, S, Z, μ, r, hv, af⟩
  unfold absW at af
  split at af
  · obtain ⟨v, rfl, h1⟩ := one_of hv
    exact call_abs pins s σ H _ us Q I rv ⟨_, by rw [i_int h1], end_val r (vr_int _ _ _) af⟩
  · exact af.elim
theorem c_int : CallR X (.type "int") (cM G E intW) := by
  intro pins s σ H vs us Q I rv ⟨ws, S, Z, μ, r, hv, af⟩
  unfold intW at af
  split at af
  · obtain ⟨v, rfl, h1⟩ := one_of hv
    exact call_int1 pins s σ H _ us Q I rv (.inl ⟨_, by rw [i_int h1], end_val r (vr_int _ _ _) af⟩)
  · obtain ⟨v, rfl, h1⟩ := one_of hv
    exact call_int1 pins s σ H _ us Q I rv (.inr ⟨_, by rw [i_bl h1], end_val r (vr_int _ _ _) af⟩)
  · exact af.elim
theorem c_list (hK : X.K = G.K) : CallR X (.type "list") (cM G E listW) := by
  intro pins s σ H vs us Q I rv ⟨ws, S, Z, μ, r, hv, af⟩
  unfold listW at af
  split at af
  · obtain ⟨v, rfl, h1⟩ := one_of hv
    obtain ⟨a, xs, rfl, q1, q2⟩ := i_tup h1
    exact call_list_of pins s σ H _ us Q I rv ⟨a, xs, rfl, .inr (.inl (.inl q1)), end_lst r q2 af⟩
  · obtain ⟨v, rfl, h1⟩ := one_of hv
    split at af
    · rename_i e
      obtain ⟨a, xs, rfl, q1, q2⟩ := itemsL_ok r e h1
      exact call_list_of pins s σ H _ us Q I rv ⟨a, xs, rfl, .inl (by rw [hK]; exact q1), end_lst r q2 af⟩
    · exact af.elim
  · exact af.elim
theorem c_listN (hK : X.K = G.K) : CallR X (.type "list") (cM G E listN) := by
  intro pins s σ H vs us Q I rv ⟨ws, S, Z, μ, r, hv, af⟩
  unfold listN at af
  split at af
  · obtain ⟨v, rfl, h1⟩ := one_of hv
    obtain ⟨a, xs, rfl, q1, q2⟩ := i_tup h1
    exact call_list_of pins s σ H _ us Q I rv ⟨a, xs, rfl, .inr (.inl (.inl q1)), end_new r q2 af⟩
  · obtain ⟨v, rfl, h1⟩ := one_of hv
    split at af
    · rename_i e
      obtain ⟨a, xs, rfl, q1, q2⟩ := itemsL_ok r e h1
      exact call_list_of pins s σ H _ us Q I rv ⟨a, xs, rfl, .inl (by rw [hK]; exact q1), end_new r q2 af⟩
    · exact af.elim
  · exact af.elim
theorem c_tuple (hK : X.K = G.K) : CallR X (.type "tuple") (cM G E tupleW) := by
  intro pins s σ H vs us Q I rv ⟨ws, S, Z, μ, r, hv, af⟩
  unfold tupleW at af
  split at af
  · obtain ⟨v, rfl, h1⟩ := one_of hv
    obtain ⟨a, xs, rfl, q1, q2⟩ := i_tup h1
    exact call_tuple_of pins s σ H _ us Q I rv ⟨a, xs, rfl, .inr ⟨.inl (.inl q1), end_val r h1 af⟩⟩
  · obtain ⟨v, rfl, h1⟩ := one_of hv
    split at af
    · rename_i e
      obtain ⟨a, xs, rfl, q1, q2⟩ := itemsL_ok r e h1
      exact call_tuple_of pins s σ H _ us Q I rv ⟨a, xs, rfl, .inl ⟨by rw [hK]; exact q1, end_tup r q2 af⟩⟩
    · exact af.elim
  · exact af.elim
end
/-! ### methods of lists -/
def mMt (f : W → List W → Sto → R W) (a : ME) (r : MA) : ME := fun ρ S => (a ρ S).bind fun w S1 => match itemsL S1 w with
  | some _ => (r ρ S1).bind fun ws S2 => f w ws S2
  | none => .stuck
def appW (w : W) (ws : List W) (S : Sto) : R W := match w with
  | .ref n => (match S[n]? with
    | some (.lst xs) => (match ws with
      | [u] => if xs.length < 100000 then .ok .non (S.set n (.lst (xs ++ [u]))) else .stuck
      | _ => .stuck)
    | _ => .stuck)
  | _ => .stuck
def extW (w : W) (ws : List W) (S : Sto) : R W := match w with
  | .ref n => (match S[n]? with
    | some (.lst xs) => (match ws with
      | [.lst us] => if xs.length + us.length < 100000 then .ok .non (S.set n (.lst (xs ++ us))) else .stuck
      | _ => .stuck)
    | _ => .stuck)
  | _ => .stuck
def popAtW (w : W) (ws : List W) (S : Sto) : R W := match w with
  | .ref n => (match S[n]? with
    | some (.lst xs) => (match ws with
      | [.int i] => if decide (-100000 < i) && decide (i < 100000) then (match seqIndex? i xs.length with
        | some k => (match xs[k]? with
          | some u => .ok u (S.set n (.lst (xs.eraseIdx k)))
          | none => .stuck)
        | none => .stuck) else .stuck
      | _ => .stuck)
    | _ => .stuck)
  | _ => .stuck
section
variable {X : Cx} {G : Glo} {E : XK} {o e : Expr} {es : List Expr} {ma : ME} {mr : MA} {name : Str} {apos cpos : Pos} {id : String}
theorem mt_reads (hK : X.K = G.K) {f : W → List W → Sto → R W} {σ : L2.St} {H : Hp} {Q : VK} (h : tM G E (mMt f ma mr) σ H Q) : tBM X.K "list" (mtM G E f) (tM G E ma) (tMA G E mr) σ H Q := by
  obtain ⟨ρ, S, Z, μ, r, er, af⟩ := h
  refine ⟨ρ, S, Z, μ, r, er, Aft.imp (Aft.bind af) fun w Z1 μ1 H1 S1 _ g1 r1 a1 x hx => ?_⟩
  split at a1
  · rename_i e
    obtain ⟨a, vs, rfl, q1, q2⟩ := itemsL_ok r1 e hx
    refine ⟨.inl ⟨rfl, vs, by rw [hK]; exact q1⟩, ρ, S1, Z1, μ1, r1, er.mono r g1, Aft.imp (Aft.bind a1) fun ws Z2 μ2 H2 S2 _ g2 r2 a2 vs hvs => ?_⟩
    exact ⟨w, ws, S2, Z2, μ2, r2, hx.mono r1 g2, hvs, a2⟩
  · exact a1.elim
theorem em_mt (hK : X.K = G.K) {f : W → List W → Sto → R W} (slot : Slot "list" name id) (hty : typeOf (.builtin id) = pure (.type "method_descriptor")) (hm : MtR X id (mtM G E f)) (ho : PE X o (tM G E ma)) (ha : PA X (e :: es) (tMA G E mr))
    (hbase : attributeBase o name X.env (eval o X.env) = eval o X.env := by rfl)
    (hfew : ((backTo cpos (starEach (e :: es) X.env)).all (fun x => !x.1) && (backToKw cpos (keywordEach [] X.env)).all (fun x => x.1.isSome)
      && decide ((e :: es).length + ([] : List Keyword).length + (if ([] : List Keyword).isEmpty then 0 else 1) < 30)) = true := by rfl)
    (hline : (apos.endLine == cpos.line) = true := by rfl) (hs : starEach (e :: es) X.env = (false, eval e X.env) :: starEach es X.env := by rfl) (hplain : (backTo cpos (starEach es X.env)).any (·.1) = false := by rfl) :
    PE X (.Call (.Attribute o name apos) (e :: es) [] cpos) (tM G E (mMt f ma mr)) := (pe_bm PySem.F.plainAttrs_list slot hty hm ho ha hbase hfew hline hs hplain).weak fun σ H Q h => mt_reads hK h
theorem m_app : MtR X "list.append" (mtM G E appW) := by
  intro pins s σ H x vs v us Q I rx rv ⟨w, ws, S, Z, μ, r, hw, hv, af⟩
  unfold appW at af
  split at af
  · split at af
    · rename_i hs
      split at af
      · split at af
        · rename_i hl
          obtain ⟨a, xs, rfl, q0, q1, q2⟩ := r.lst hw hs
          obtain ⟨y, rfl, h1⟩ := one_of hv
          exact mt_append pins s σ H _ _ v us Q I rx rv ⟨a, xs, y, rfl, rfl, q1, by rw [q2.length]; exact Nat.lt_of_lt_of_le hl (by decide), end_put r q0 (q2.append (VRs.cons h1 VRs.nil)) (vr_non _ _ _) af⟩
        · exact af.elim
      · exact af.elim
    · exact af.elim
  · exact af.elim
theorem m_ext : MtR X "list.extend" (mtM G E extW) := by
  intro pins s σ H x vs v us Q I rx rv ⟨w, ws, S, Z, μ, r, hw, hv, af⟩
  unfold extW at af
  split at af
  · split at af
    · rename_i hs
      split at af
      · split at af
        · rename_i hl
          obtain ⟨a, xs, rfl, q0, q1, q2⟩ := r.lst hw hs
          obtain ⟨y, rfl, h1⟩ := one_of hv
          obtain ⟨b, zs, rfl, k1, _, k2⟩ := i_lst h1
          exact mt_extend pins s σ H _ _ v us Q I rx rv ⟨a, b, xs, zs, rfl, rfl, q1, k1, by rw [q2.length, k2.length]; exact Nat.le_of_lt (Nat.lt_of_lt_of_le hl (by decide)), end_put r q0 (q2.append k2) (vr_non _ _ _) af⟩
        · exact af.elim
      · exact af.elim
    · exact af.elim
  · exact af.elim
theorem VRs.erase {Z : Addr → Prop} {μ : List Addr} {H : Hp} : ∀ {ws : List W} {vs : List V} (n : Nat), VRs G Z μ H ws vs → VRs G Z μ H (ws.eraseIdx n) (vs.eraseIdx n)
  | [], vs, n, h => by unfold VRs at h; subst h; exact VRs.nil
  | w :: ws, vs, 0, h => by
    unfold VRs at h
    obtain ⟨v, q, rfl, _, h2⟩ := h
    exact h2
  | w :: ws, vs, n + 1, h => by
    unfold VRs at h
    obtain ⟨v, q, rfl, h1, h2⟩ := h
    exact VRs.cons h1 (VRs.erase n h2)
theorem m_popAt : MtR X "list.pop" (mtM G E popAtW) := by
  intro pins s σ H x vs v us Q I rx rv ⟨w, ws, S, Z, μ, r, hw, hv, af⟩
  unfold popAtW at af
  split at af
  · split at af
    · rename_i hs
      split at af
      · split at af
        · rename_i hl
          simp only [Bool.and_eq_true, decide_eq_true_eq] at hl
          split at af
          · rename_i k e1
            split at af
            · rename_i u e2
              obtain ⟨a, xs, rfl, q0, q1, q2⟩ := r.lst hw hs
              obtain ⟨y, rfl, h1⟩ := one_of hv
              obtain ⟨z, k1, k2⟩ := q2.get e2
              exact mt_popAt pins s σ H _ _ v us Q I rx rv ⟨a, xs, _, k, z, rfl, by rw [i_int h1], q1, by omega, by omega, by rw [q2.length]; exact e1, k1, end_put r q0 (q2.erase k) k2 af⟩
            · exact af.elim
          · exact af.elim
        · exact af.elim
      · exact af.elim
    · exact af.elim
  · exact af.elim
end
/-! ### stores -/
def mSetIx (mv mo mi : ME) : MS := fun ρ S => (mv ρ S).bind fun v S1 => (mo ρ S1).bind fun o S2 => (mi ρ S2).bind fun i S3 => match o with
  | .ref n => (match i with
    | .int k => (match S3[n]? with
      | some (.lst xs) => (match L2.ixN xs.length k with
        | some j => .ok (.nx ρ) (S3.set n (.lst (xs.set j v)))
        | none => .stuck)
      | _ => .stuck)
    | _ => .stuck)
  | _ => .stuck
def mPar (i j : Nat) (r : MA) : MS := fun ρ S => (r ρ S).bind fun ws S1 => match ws with
  | [v, w] => .ok (.nx ((ρ.set i (some v)).set j (some w))) S1
  | _ => .stuck
section
variable {X : Cx} {G : Glo} {E : XK} {e o i : Expr} {mv mo mi : ME} {mr : MA} {pos p : Pos}
theorem sm_setIx (hv : PE X e (tM G E mv)) (ho : PE X o (tM G E mo)) (hi : PE X i (tM G E mi)) (ha : ∀ v, assign (.Subscript o i p) X.env v = (do
      let ov ← holding [v] (eval o X.env)
      let iv ← holding [v, ov] (eval i X.env)
      standAt p
      holding [v, ov, iv] (setItem ov iv v)
      release [v, ov, iv] []) := by intro _; rfl) (hs : swapsWithSole [.Subscript o i p] e pos.line X.env = pure false := by rfl) (hw : swappedStores [.Subscript o i p] e X.env = pure none := by rfl)
    (h1 : (assignEach [.Subscript o i p] X.env).map (·.2) = [assign (.Subscript o i p) X.env] := by rfl) : PS X (.Assign [.Subscript o i p] e pos) (tS G E (mSetIx mv mo mi)) :=
  (ps_asg hv (pg_sub ho hi set_list ha) hs hw h1).weak fun D σ H ⟨ρ, S, Z, μ, r, er, af⟩ => by
    refine ⟨ρ, S, Z, μ, r, er, Aft.imp (Aft.bind af) fun w Z1 μ1 H1 S1 _ g1 r1 a1 x hx => ?_⟩
    have er1 := er.mono r g1
    refine ⟨ρ, S1, Z1, μ1, r1, er1, Aft.imp (Aft.bind a1) fun ow Z2 μ2 H2 S2 _ g2 r2 a2 ov hov => ?_⟩
    have er2 := er1.mono r1 g2
    refine ⟨ρ, S2, Z2, μ2, r2, er2, Aft.imp (Aft.bind a2) fun iw Z3 μ3 H3 S3 _ g3 r3 a3 iv hiv => ?_⟩
    have er3 := er2.mono r2 g3
    have hx3 := (hx.mono r1 g2).mono r2 g3
    have ho3 := hov.mono r2 g3
    split at a3
    · split at a3
      · split at a3
        · rename_i hs
          split at a3
          · rename_i j hj
            obtain ⟨a, xs, rfl, q0, q1, q2⟩ := r3.lst ho3 hs
            refine ⟨a, xs, _, j, rfl, i_int hiv, q1, by rw [q2.length]; exact hj, ?_⟩
            have g : Grow Z3 μ3 H3 Z3 μ3 (upd H3 a (.lst (xs.set j x))) := Grow.put (List.mem_of_getElem? q0)
            exact a3 _ _ _ g (r3.put q0 ⟨rfl, rfl⟩ ⟨_, upd_same, VRs.mono r3 g (q2.set hx3 j)⟩) σ (er3.mono r3 g)
          · exact a3.elim
        · exact a3.elim
      · exact a3.elim
    · exact a3.elim
theorem sm_par {i j : Nat} {x y : Str} {a b : Expr} {px py pt : Pos} {kt k2 : Nat} {pt2 : Pos} (hc : X.calm = true) (hN : X.N.Nodup) (hi : X.N[i]? = some x) (hj : X.N[j]? = some y) (hij : i ≠ j)
    (hx : X.env.scope.names.lookup x = some .local) (hy : X.env.scope.names.lookup y = some .local) (ha : PA X [a, b] (tMA G E mr))
    (hw : swappedStores [.Tuple [.Name x px, .Name y py] kt pt] (.Tuple [a, b] k2 pt2) X.env = pure (some [x, y]))
    (hs : swapsWithSole [.Tuple [.Name x px, .Name y py] kt pt] (.Tuple [a, b] k2 pt2) pos.line X.env = pure false := by rfl) :
    PS X (.Assign [.Tuple [.Name x px, .Name y py] kt pt] (.Tuple [a, b] k2 pt2) pos) (tS G E (mPar i j mr)) := (ps_par hc hN hi hj hij hx hy ha hw hs).weak fun D σ H ⟨ρ, S, Z, μ, r, er, af⟩ => by
  refine ⟨ρ, S, Z, μ, r, er, Aft.imp (Aft.bind af) fun ws Z1 μ1 H1 S1 _ g1 r1 a1 vs hvs => ?_⟩
  split at a1
  · obtain ⟨v, w, rfl, h1, h2⟩ := two_of hvs
    exact ⟨v, w, rfl, Aft.here (E := E) (P := PF G D) r1 a1 _ (((er.mono r g1).set h1 i).set h2 j)⟩
  · exact a1.elim
end
/-! ### zip -/
def zipL : List W → List W → List W
  | x :: xs, y :: ys => .tup [x, y] :: zipL xs ys
  | _, _ => []
def mZip (r : MA) : MI := fun ρ S => (r ρ S).bind fun ws S1 => match ws with
  | [.tup xs, .tup ys] => .ok ⟨zipL xs ys, none⟩ S1
  | [.lst xs, .lst ys] => .ok ⟨zipL xs ys, none⟩ S1
  | _ => .stuck
theorem zipL_get : ∀ (xs ys : List W) (i : Nat) (w : W), (zipL xs ys)[i]? = some w → ∃ x y, xs[i]? = some x ∧ ys[i]? = some y ∧ w = .tup [x, y]
  | [], ys, i, w, h => by unfold zipL at h; simp at h
  | x :: xs, [], i, w, h => by unfold zipL at h; simp at h
  | x :: xs, y :: ys, 0, w, h => by unfold zipL at h; simp at h; exact ⟨x, y, rfl, rfl, h.symm⟩
  | x :: xs, y :: ys, i + 1, w, h => by
    unfold zipL at h
    have h' : (zipL xs ys)[i]? = some w := by simpa using h
    simpa using zipL_get xs ys i w h'
theorem zipL_len : ∀ (xs ys : List W), xs.length ≤ (zipL xs ys).length ∨ ys.length ≤ (zipL xs ys).length
  | [], ys => .inl (Nat.zero_le _)
  | x :: xs, [] => .inr (Nat.zero_le _)
  | x :: xs, y :: ys => by
    unfold zipL
    rcases zipL_len xs ys with h | h
    · exact .inl (by simpa using h)
    · exact .inr (by simpa using h)
section
variable {X : Cx} {G : Glo} {E : XK} {e e2 : Expr} {mr : MA} {pos p tpos : Pos} {elts : List Expr} {kk : Nat}
theorem im_zip (hg : Gl X "zip") (hm : X.mg "zip" = none) (ha : PA X [e, e2] (tMA G E mr)) (hs : starEach [e, e2] X.env = (false, eval e X.env) :: starEach [e2] X.env := by rfl) (hs2 : (backTo pos (starEach [e2] X.env)).any (·.1) = false := by rfl) : PI X (.Tuple elts kk tpos) (.Call (.Name "zip" p) [e, e2] [] pos) (tI G E (mZip mr)) :=
  (RZ.pi_zipA hg hm ha hs hs2).weak fun σ H Q ⟨ρ, S, Z, μ, r, er, af⟩ => ⟨ρ, S, Z, μ, r, er, Aft.imp (Aft.bind af) fun ws Z1 μ1 H1 S1 _ g1 r1 a1 vs hvs => by
    split at a1
    · obtain ⟨v, u, rfl, h1, h2⟩ := two_of hvs
      obtain ⟨a, xs, rfl, q1, q2⟩ := i_tup h1
      obtain ⟨b, ys, rfl, q3, q4⟩ := i_tup h2
      refine ⟨a, b, xs, ys, rfl, .inr ⟨.inl (.inl q1), .inl (.inl q3), Aft.here (E := E) (P := PI' G Q) r1 a1 _ ⟨?_, ?_⟩⟩⟩
      · intro Z' μ' H' S' g r' _ i w hw
        have k1 := g.still r1 a _ q1 rfl
        have k3 := g.still r1 b _ q3 rfl
        obtain ⟨x, y, e1, e2, rfl⟩ := zipL_get _ _ _ _ hw
        obtain ⟨v1, p1, p2⟩ := (VRs.mono r1 g q2).get e1
        obtain ⟨v2, p3, p4⟩ := (VRs.mono r1 g q4).get e2
        refine ⟨⟨xs, ys, v1, v2, .inl (.inl k1), .inl (.inl k3), p1, p3⟩, fun z H2 y => ?_⟩
        obtain ⟨T, z1, z2, rfl, hT, rfl, f1, f2⟩ := y
        have z1e := f1 xs (.inl (.inl k1))
        have z2e := f2 ys (.inl (.inl k3))
        rw [p1] at z1e; cases z1e
        rw [p3] at z2e; cases z2e
        refine ⟨fun a o h => by rw [upd_ne (ne_of_none h hT)]; exact h, ?_⟩
        unfold VR
        exact ⟨T, [v1, v2], rfl, upd_same, VRs.mono r' (Grow.add hT) (VRs.cons p2 (VRs.cons p4 VRs.nil))⟩
      · intro Z' μ' H' S' g r' _
        have k1 := g.still r1 a _ q1 rfl
        have k3 := g.still r1 b _ q3 rfl
        refine ⟨xs, ys, .inl (.inl k1), .inl (.inl k3), ?_⟩
        rw [q2.length, q4.length]
        exact zipL_len _ _
    · obtain ⟨v, u, rfl, h1, h2⟩ := two_of hvs
      obtain ⟨a, xs, rfl, q1, n1, q2⟩ := i_lst h1
      obtain ⟨b, ys, rfl, q3, n3, q4⟩ := i_lst h2
      refine ⟨a, b, xs, ys, rfl, .inl ⟨.inl (.inl q1), .inl (.inl q3), Aft.here (E := E) (P := PI' G Q) r1 a1 _ ⟨?_, ?_⟩⟩⟩
      · intro Z' μ' H' S' g r' _ i w hw
        have k1 := g.keep a _ q1 (fun z => n1 (r1.mz a z)) rfl
        have k3 := g.keep b _ q3 (fun z => n3 (r1.mz b z)) rfl
        obtain ⟨x, y, e1, e2, rfl⟩ := zipL_get _ _ _ _ hw
        obtain ⟨v1, p1, p2⟩ := (VRs.mono r1 g q2).get e1
        obtain ⟨v2, p3, p4⟩ := (VRs.mono r1 g q4).get e2
        refine ⟨⟨xs, ys, v1, v2, .inl (.inl k1), .inl (.inl k3), p1, p3⟩, fun z H2 y => ?_⟩
        obtain ⟨T, z1, z2, rfl, hT, rfl, f1, f2⟩ := y
        have z1e := f1 xs (.inl (.inl k1))
        have z2e := f2 ys (.inl (.inl k3))
        rw [p1] at z1e; cases z1e
        rw [p3] at z2e; cases z2e
        refine ⟨fun a o h => by rw [upd_ne (ne_of_none h hT)]; exact h, ?_⟩
        unfold VR
        exact ⟨T, [v1, v2], rfl, upd_same, VRs.mono r' (Grow.add hT) (VRs.cons p2 (VRs.cons p4 VRs.nil))⟩
      · intro Z' μ' H' S' g r' _
        have k1 := g.keep a _ q1 (fun z => n1 (r1.mz a z)) rfl
        have k3 := g.keep b _ q3 (fun z => n3 (r1.mz b z)) rfl
        refine ⟨xs, ys, .inl (.inl k1), .inl (.inl k3), ?_⟩
        rw [q2.length, q4.length]
        exact zipL_len _ _
    · exact a1.elim⟩
end
end Mo

set_option Elab.async false
set_option linter.all false
set_option maxRecDepth 100000
set_option autoImplicit false
/-! Mon8: lambdas: made, handed to defs, called. -/
namespace Mo
open PySem PySem.Spec L2
open PyProof.Rows hiding St
open LamX (CodeO TabS Tabs ExtN TabB)

/-- a lambda of the text: its names are the parameters, then the captured ones; js: the captured ones' places in the maker's names -/
structure LamD where
  params : Arguments
  body : Expr
  scope : Scope
  N : List Str
  ps : List Str
  fr : List Str
  js : List Nat
/-- the object at f is such a lambda -/
def LamO (f c' : Addr) (q : Str) (L : LamD) (cl : List (Str × Addr)) : HO := .ext fun h => ∃ pm ctv, h.get? f = some (PySem.W.kla_obj "<lambda>" q L.params L.body L.scope cl pm c' ctv)
theorem tabs_keep {T : List (Addr × Str)} {H H' : Hp} (k : ∀ b o, H b = some o → (isMut o = false ∨ isTbl o = true) → H' b = some o) (t : Tabs T H) : Tabs T H' := fun p hp => by
  obtain ⟨ps, h1, h2, h3⟩ := t p hp
  refine ⟨ps, k _ _ h1 (.inr rfl), h2, fun pos cv hc => ?_⟩
  obtain ⟨c, e1, e2⟩ := h3 pos cv hc
  exact ⟨c, e1, k _ _ e2 (.inl rfl)⟩

/-! ### a lambda is made -/
section
variable {X : Cx} {pins : List (Addr × Obj)} {σ : L2.St} {H : Hp} {s : Shared}
theorem lam_new {c' : Addr} {q : Str} {L : LamD} {cl : List (Str × Addr)} {H0 : Hp} {h' : Heap} {tk : Nat} {pm ctv : Value} (I0 : Inv X pins σ H0 { s with heap := h', toks := tk }) :
    Inv X pins σ (upd H0 h'.objs.size (LamO h'.objs.size c' q L cl)) { s with heap := h'.push (PySem.W.kla_obj "<lambda>" q L.params L.body L.scope cl pm c' ctv), toks := tk } := by
  refine Inv.laid (s := { s with heap := h', toks := tk }) (t' := tk) I0 (fun b o e => Heap.get?_push_of_some _ e) (Nat.le_refl _) ?_
  have e : (h'.push (PySem.W.kla_obj "<lambda>" q L.params L.body L.scope cl pm c' ctv)).get? h'.objs.size = some (PySem.W.kla_obj "<lambda>" q L.params L.body L.scope cl pm c' ctv) := Heap.get?_push_size _ rfl
  exact ⟨⟨pm, ctv, e⟩, ⟨_, e⟩, fun h1 h2 ⟨a, b, q⟩ st => ⟨a, b, st _ q⟩⟩
theorem lam_make3 {T : List (Addr × Str)} {c P : Addr} {L : LamD} {pos : Pos} {E : Value → Shared → Prop} {Q : Value → Shared → Prop} (I : Inv X pins σ H s) (TB : TabB X.base X.mg c P) (hcode : X.env.code = .ref c)
    (hm : (P, X.env.qual ++ "<lambda>") ∈ T) (hu : ∀ p ∈ T, p.1 = P → p.2 = X.env.qual ++ "<lambda>") (hT : Tabs T H) (hdef : defaultsOf L.params X.env = ([], [])) (hfree : ∀ y ∈ L.scope.names, y.2 = .free → ∃ c, X.env.cells.lookup y.1 = some c)
    (h : ∀ (f c' : Addr) (H1 : Hp) (s' : Shared), Inv X pins σ H1 s' → ExtN H H1 → (∀ b o, H b = some o → ∃ u, H1 b = some u) → Tabs T H1 →
      H1 f = some (LamO f c' (X.env.qual ++ "<lambda>") L (cloFrom X.env.cells L.scope.names [])) → H1 c' = some (CodeO c' (X.env.qual ++ "<lambda>")) → Q (.ref f) s') :
    wpAny (model X.prog X.w) X.A (eval (.Lambda L.params L.body L.scope pos) X.env) Q E s := by
  obtain ⟨ps, hP, ht, ha⟩ := hT _ hm
  refine PySem.W.kla_eval hdef ?_
  have bP : s.heap.BuiltinsAt X.mg P := TB.bm.keeps I.bk
  have hP' : s.heap.get? P = some { cls := .none, data := .fields ps } := I.hok P _ hP
  cases hc : codeAmong pos ps.toList with
  | none =>
    refine PySem.W.kla_makeFunction (mg := X.mg) (c := c) (P := P) (ps := ps) (closure_ok hfree) I.ok.glob (I.mod.glob.keeps I.bk) hcode (TB.code.keeps I.bk) hP' ht hc TB.gP bP fun c' ctv h' tk hx hge hlt hrec htb => ?_
    obtain ⟨c2, oc, vs, t, e2, hoc, hd, hv⟩ := hrec
    cases e2
    have nC : H c' = none := I.hok.fresh hge
    have I0 := LamX.inv_table (t' := tk) (more := #[rawInt pos.line, rawInt pos.col, .ref c']) (h' := h') (q := X.env.qual ++ "<lambda>") I hP hx htb hge ⟨oc, vs, t, hoc, hd, hv⟩
    have hE : ExtN H (upd (upd H P (.tbl (ps ++ #[rawInt pos.line, rawInt pos.col, .ref c']))) c' (CodeO c' (X.env.qual ++ "<lambda>"))) := fun b o e n => by
      rw [upd_ne (ne_of_none e nC), upd_ne (fun z => n ps (Option.some.inj (e.symm.trans (by rw [z]; exact hP))))]
      exact e
    have eL : (ps ++ #[rawInt pos.line, rawInt pos.col, .ref c']).toList = ps.toList ++ [rawInt pos.line, rawInt pos.col, .ref c'] := by simp
    have tabs0 : Tabs T (upd (upd H P (.tbl (ps ++ #[rawInt pos.line, rawInt pos.col, .ref c']))) c' (CodeO c' (X.env.qual ++ "<lambda>"))) := fun p hp => by
      by_cases hb : p.1 = P
      · rw [hu p hp hb, hb]
        refine ⟨_, by rw [upd_ne (ne_of_none hP nC), upd_same], by rw [eL]; exact PySem.TriplesOk_snoc _ _ _ _ ht, fun p' cv hcv => ?_⟩
        rw [eL] at hcv
        rcases LamX.among_app _ ht hcv with z | z
        · obtain ⟨c0, e1, e2⟩ := ha p' cv z
          exact ⟨c0, e1, hE _ _ e2 LamX.codeO_ne⟩
        · exact ⟨c', z, upd_same⟩
      · obtain ⟨ps', a1, a2, a3⟩ := hT p hp
        refine ⟨ps', by rw [upd_ne (ne_of_none a1 nC), upd_ne hb]; exact a1, a2, fun p' cv hcv => ?_⟩
        obtain ⟨c0, e1, e2⟩ := a3 p' cv hcv
        exact ⟨c0, e1, hE _ _ e2 LamX.codeO_ne⟩
    generalize hH0 : upd (upd H P (.tbl (ps ++ #[rawInt pos.line, rawInt pos.col, .ref c']))) c' (CodeO c' (X.env.qual ++ "<lambda>")) = H0 at I0 hE tabs0
    have hfn : H0 h'.objs.size = none := I0.hok.fresh (Nat.le_refl _)
    have hc0 : H0 c' = some (CodeO c' (X.env.qual ++ "<lambda>")) := by rw [← hH0]; exact upd_same
    refine h h'.objs.size c' _ _ (lam_new (q := X.env.qual ++ "<lambda>") (L := L) (cl := cloFrom X.env.cells L.scope.names []) (c' := c') I0) (fun b o e n => by rw [upd_ne (ne_of_none (hE b o e n) hfn)]; exact hE b o e n) (fun b o e => ?_) (tabs0.ext fun b o e => by rw [upd_ne (ne_of_none e hfn)]; exact e) upd_same (by rw [upd_ne (ne_of_none hc0 hfn)]; exact hc0)
    by_cases z1 : b = h'.objs.size
    · exact ⟨_, by rw [z1]; exact upd_same⟩
    · rw [upd_ne z1, ← hH0]
      by_cases z2 : b = c'
      · exact ⟨_, by rw [z2]; exact upd_same⟩
      · rw [upd_ne z2]
        by_cases z3 : b = P
        · exact ⟨_, by rw [z3]; exact upd_same⟩
        · exact ⟨o, by rw [upd_ne z3]; exact e⟩
  | some cv =>
    obtain ⟨c', e, hco⟩ := ha pos cv hc
    subst e
    refine PySem.W.kla_makeFunctionHit (mg := X.mg) (c := c) (P := P) (ps := ps) (closure_ok hfree) I.ok.glob (I.mod.glob.keeps I.bk) hcode (TB.code.keeps I.bk) hP' ht hc bP fun ctv h' tk hx hsz => ?_
    have I0 : Inv X pins σ H { s with heap := h', toks := tk } := I.kept fun b o e => hx b o e
    have hfn : H h'.objs.size = none := I0.hok.fresh (Nat.le_refl _)
    exact h h'.objs.size c' _ _ (lam_new (q := X.env.qual ++ "<lambda>") (L := L) (cl := cloFrom X.env.cells L.scope.names []) (c' := c') I0) (fun b o e n => by rw [upd_ne (ne_of_none e hfn)]; exact e)
      (fun b o e => ⟨o, by rw [upd_ne (ne_of_none e hfn)]; exact e⟩) (hT.ext fun b o e => by rw [upd_ne (ne_of_none e hfn)]; exact e) upd_same (by rw [upd_ne (ne_of_none hco hfn)]; exact hco)
end

/-! ### a lambda is run -/
abbrev LamD.nf (L : LamD) (q : Str) (cl : List (Str × Addr)) (c' : Addr) : NdefX.NF := ⟨"<lambda>", q, L.params, [], L.scope, cl, c'⟩
section
variable {P : Program} {w : World} {K : PySem.W.Frag} {mg : Str → Option Value} {base : Heap}
theorem lam_run {L : LamD} {cl : List (Str × Addr)} {q : Str} {f c' : Addr} {A : Around} {outer : List Env} {s : Shared} {H : Hp} {us : List Value} {vs cs : List V} {Q : VK} {E : XK} {k : Nat} {t : TE}
    (S : NdefX.NScope L.N L.ps L.fr L.scope) (hr : Room (k + 1) A) (e0 : Env0 P w K mg base A outer s H) (hf : H f = some (LamO f c' q L cl)) (hc : H c' = some (CodeO c' q)) (C : NdefX.CellsAt cl L.fr (cs.map some) s.heap H) (r : Vals vs us) (hl : vs.length = L.ps.length)
    (hbind : ∀ (pm ctv : Value) (us : List Value), us.length = L.ps.length → bindArgs (PySem.W.kla_fn "<lambda>" q L.params L.body L.scope cl pm (.ref c') ctv) ⟨us, []⟩ = pure (L.ps.zip us))
    (hbody : Room k (A.deeper (NdefX.envF (L.nf q cl c') f s.heap.objs.size)) → PE (NdefX.ncx (L2.CX P w) P w K mg base L.N (L.nf q cl c') f A outer s H E) L.body t) (hq : t (NdefX.startF L.N vs (cs.map some)) H Q) :
    codeAny (model P w) A (.call (.ref f) ⟨us, []⟩) (CR (L2.CX P w) outer P w H s Q E) s := by
  obtain ⟨⟨pm, ctv, ho⟩, _, _⟩ := e0.hok f _ hf
  have lim : s.heap.NoLimit := e0.mod.nolimit.keeps fun b o e => (e0.bs b o e).1
  refine PySem.W.kla_callFunE hr.depth ho rfl S.co S.gen rfl (NdefX.codeO_at e0.hok hc) ?_
  rw [hbind pm ctv us (by rw [← r.length]; exact hl)]
  refine wpAny_pure (wpAny_newFunctionEnv S.nocell (fun ⟨n, _⟩ hy => S.par n (List.of_mem_zip hy).1) (fun h₁ hns hsb => ⟨lim.fresh _ hsb, ?_⟩) S.kind)
  show codeAny _ _ (.expr L.body (NdefX.envF (L.nf q cl c') f s.heap.objs.size)) _ _
  have kp : ∀ b o, s.heap.get? b = some o → h₁.get? b = some o := fun b o e => hsb.extBut b o (Nat.ne_of_lt (Heap.lt_size e)) (Heap.get?_push_of_some _ e)
  have J : Inv (NdefX.ncx (L2.CX P w) P w K mg base L.N (L.nf q cl c') f A outer s H E) [] (NdefX.startF L.N vs (cs.map some)) H { s with heap := h₁, toks := s.toks + (L.ps.zip us).length } := NdefX.inv_startN (F := L.nf q cl c') S hr.hd e0 hl r C hns kp
  refine PySem.W.kla_codeExpr (wpAny_mono ((hbody (hr.deeper _)).run [] _ _ H Q J hq) (fun v s' hq => ?_) fun e s' hq => hq)
  obtain ⟨w', H', J', rv, q⟩ := hq
  exact ⟨w', H', J'.os, J'.bare, J'.base, J'.hok, rv, q⟩
end
end Mo

set_option Elab.async false
set_option linter.all false
set_option maxRecDepth 100000
set_option autoImplicit false
/-! Mon9: lambdas handed to defs and called there. -/
namespace Mo
open PySem PySem.Spec L2
open PyProof.Rows hiding St
open LamX (CodeO TabS Tabs ExtN TabB)

/-- an exception of the class at C stands at a -/
def ExO (a C : Addr) : HO := .ext fun h => ∃ oe, h.get? a = some oe ∧ Zc (.ref C) none oe ∧ ∃ vs, oe.data = .fields vs
/-- the whole, seen from a def whose lambdas are lams, its cells cells -/
def glo (K : PySem.W.Frag) (mg : Str → Option Value) (T : List (Addr × Str)) (q : Str) (lams : List LamD) (cells : List (Str × Addr)) (cv : Nat → List V → Prop) : Glo where
  K := K
  mg := mg
  ct := fun k a H => ∃ L c', lams[k]? = some L ∧ H a = some (LamO a c' q L (cloFrom cells L.scope.names [])) ∧ H c' = some (CodeO c' q)
  ctk := fun k a H H' st ⟨L, c', h1, h2, h3⟩ => ⟨L, c', h1, st _ _ h2 rfl, st _ _ h3 rfl⟩
  cv := cv
  inv := Tabs T
  invk := fun H H' st h => tabs_keep st h
  ex := fun c a H => ∃ C, mg c = some (.ref C) ∧ H a = some (ExO a C)
  exk := fun c a H H' st ⟨C, h1, h2⟩ => ⟨C, h1, st _ _ h2 rfl⟩
mutual
/-- no closures -/
def W.nc : W → Bool
  | .clo _ _ => false
  | .tup ws => ncs ws
  | .lst ws => ncs ws
  | _ => true
def ncs : List W → Bool
  | [] => true
  | w :: ws => w.nc && ncs ws
end
section
variable {G G' : Glo} {Z : Addr → Prop} {μ : List Addr} {H : Hp}
mutual
theorem VR.reG (hK : G'.K = G.K) (hm : G'.mg = G.mg) (he : G'.ex = G.ex) : ∀ {w : W} {v : V}, w.nc = true → VR G Z μ H w v → VR G' Z μ H w v
  | .non, _, _, h => by unfold VR at h ⊢; exact h
  | .bl _, _, _, h => by unfold VR at h ⊢; exact h
  | .int _, _, _, h => by unfold VR at h ⊢; exact h
  | .str _, _, _, h => by unfold VR at h ⊢; exact h
  | .ty _, _, _, h => by unfold VR at h ⊢; exact h
  | .tup ws, v, n, h => by
    unfold VR at h ⊢
    obtain ⟨a, vs, e, ha, hs⟩ := h
    exact ⟨a, vs, e, ha, VRs.reG hK hm he n hs⟩
  | .lst ws, v, n, h => by
    unfold VR at h ⊢
    obtain ⟨a, vs, e, ha, q, hs⟩ := h
    exact ⟨a, vs, e, ha, q, VRs.reG hK hm he n hs⟩
  | .ref n, v, k, h => by unfold VR at h ⊢; exact h
  | .glob _, _, _, h => by unfold VR at h ⊢; rw [hm]; exact h
  | .exc c, v, _, h => by unfold VR at h ⊢; rw [he]; exact h
  | .clo k cap, v, n, h => by cases n
  | .scr ns, v, _, h => by unfold VR at h ⊢; rw [hK]; exact h
theorem VRs.reG (hK : G'.K = G.K) (hm : G'.mg = G.mg) (he : G'.ex = G.ex) : ∀ {ws : List W} {vs : List V}, ncs ws = true → VRs G Z μ H ws vs → VRs G' Z μ H ws vs
  | [], _, _, h => by unfold VRs at h ⊢; exact h
  | w :: ws, vs, n, h => by
    unfold VRs at h ⊢
    unfold ncs at n
    obtain ⟨v, q, e, h1, h2⟩ := h
    have n' := Bool.and_eq_true_iff.mp n
    exact ⟨v, q, e, VR.reG hK hm he n'.1 h1, VRs.reG hK hm he n'.2 h2⟩
end
end

/-! ### what may be called -/
structure Ap where
  ca : W → Bool
  run : W → MD
structure CallC (P : Program) (w : World) (K : PySem.W.Frag) (mg : Str → Option Value) (base : Heap) (G : Glo) (kk : Nat) (ap : Ap) : Prop where
  run : ∀ (g : W) (a : Addr) (A : Around) (outer : List Env) (s : Shared) (H : Hp) (us : List Value) (vs : List V) (ws : List W) (Z : Addr → Prop) (μ : List Addr) (S : Sto) (Q : VK) (E : XK), ap.ca g = true → Room kk A → Env0 P w K mg base A outer s H → Rel G Z μ H S →
    VR G Z μ H g (.ref a) → VRs G Z μ H ws vs → Vals vs us → Aft G E Z μ H (ap.run g ws S) (PQ G Q) → codeAny (model P w) A (.call (.ref a) ⟨us, []⟩) (CR (L2.CX P w) outer P w H s Q E) s
  fn : ∀ (g : W) (v : V) (s : Shared) (H : Hp) (Z : Addr → Prop) (μ : List Addr), ap.ca g = true → HOk P w H s.heap → K.In s.heap → VR G Z μ H g v → ∃ a, v = .ref a ∧ PySem.W.FnAt a s.heap
def mCallL (ap : Ap) (i : Nat) (r : MA) : ME := fun ρ S => match ρ[i]? with
  | some (some g) => if ap.ca g then (r ρ S).bind fun ws S1 => ap.run g ws S1 else .stuck
  | _ => .stuck
section
variable {X : Cx} {G : Glo} {E : XK} {e : Expr} {es : List Expr} {mr : MA} {pos p : Pos} {kk i : Nat} {ap : Ap} {x : Str}
theorem callL_end {pins : List (Addr × Obj)} {s : Shared} {σ : L2.St} {H : Hp} {Q : VK} {g : W} {a : Addr} {us : List Value} {vs : List V} {ws : List W} {Z : Addr → Prop} {μ : List Addr} {S : Sto} (C : CallC X.prog X.w X.K X.mg X.base G kk ap) (hc : ap.ca g = true) (hr : Room kk X.A) (hx : Passes (L2.CX X.prog X.w) X E) (I : Inv X pins σ H s) (r : Rel G Z μ H S)
    (hg : VR G Z μ H g (.ref a)) (hv : VRs G Z μ H ws vs) (rv : Vals vs us) (af : Aft G E Z μ H (ap.run g ws S) (PQ G Q)) : wpAny (model X.prog X.w) X.A (call (.ref a) us) (EP X pins σ Q) X.xe s := by
  refine wpAny_call (codeAny_mono (C.run g a X.A X.stack s H us vs ws Z μ S Q E hc hr I.env0 r hg hv rv af) fun r s' hq => ?_)
  cases r with
  | error e => exact hx pins σ H s e s' I hq
  | ok fl =>
    cases fl with
    | ret u => exact I.after hq
    | next => exact False.elim hq
    | brk => exact False.elim hq
    | cont => exact False.elim hq
/-- x(e, ..), x a local name that holds what may be called -/
theorem em_callL (C : CallC X.prog X.w X.K X.mg X.base G kk ap) (hr : Room kk X.A) (hx : Passes (L2.CX X.prog X.w) X E) (hN : X.N[i]? = some x) (hv : Vis X.env.scope x) (ha : PA X (e :: es) (tMA G E mr)) (hdb : (x == ("__debug__" : Str)) = false := by decide) (hcd : (x == ("__classdict__" : Str)) = false := by decide)
    (he : starEach (e :: es) X.env = (false, eval e X.env) :: starEach es X.env := by rfl) (hpl : (backTo pos (starEach es X.env)).any (·.1) = false := by rfl) : PE X (.Call (.Name x p) (e :: es) [] pos) (tM G E (mCallL ap i mr)) := by
  refine ⟨fun pins s σ H Q I h => ?_⟩
  obtain ⟨ρ, S, Z, μ, r, er, af⟩ := h
  unfold mCallL at af
  split at af
  case h_2 => exact af.elim
  rename_i g hg
  obtain ⟨v, hs, hvr⟩ := er.at_ i g hg
  cases hc : ap.ca g with
  | false => rw [hc, if_neg Bool.false_ne_true] at af; exact af.elim
  | true =>
    rw [hc, if_pos rfl] at af
    refine wpAny_Call_Name_kw (thn ((pe_var (pos := p) hN hv hdb hcd).run pins s σ H (fun v' H1 => v' = v ∧ H1 = H) I ⟨v, hs, rfl, rfl⟩) fun u s1 ⟨v', H1, I1, r1, q1⟩ => ?_)
    obtain ⟨ev, eH⟩ := q1
    subst ev
    rw [eH] at I1
    obtain ⟨a, rfl, fa⟩ := C.fn g v' s1 H Z μ hc I1.hok I1.kIn hvr
    obtain rfl : u = Value.ref a := r1
    refine PySem.W.callWith_F (first := []) fa (thn (ha.run pos pins s1 σ H (fun vs H2 => ∃ ws S2 Z2 μ2, Rel G Z2 μ2 H2 S2 ∧ VR G Z2 μ2 H2 g (.ref a) ∧ VRs G Z2 μ2 H2 ws vs ∧ Aft G E Z2 μ2 H2 (ap.run g ws S2) (PQ G Q)) I1 ?_) fun us s2 ⟨vs, H2, I2, r2, q⟩ => ?_) he hpl
    · exact ⟨ρ, S, Z, μ, r, er, Aft.imp (Aft.bind af) fun ws Z2 μ2 H2 S2 _ g2 r2 a2 vs hvs => ⟨ws, S2, Z2, μ2, r2, hvr.mono r g2, hvs, a2⟩⟩
    · obtain ⟨ws, S2, Z2, μ2, k1, k2, k3, k4⟩ := q
      obtain ⟨_, _, fa2⟩ := C.fn g (.ref a) s2 H2 Z2 μ2 hc I2.hok I2.kIn k2
      obtain ⟨e1, fa2⟩ := (⟨‹_›, fa2⟩ : V.ref a = V.ref _ ∧ _)
      cases e1
      exact ⟨fa2, callL_end C hc hr hx I2 k1 k2 k3 r2 k4⟩
theorem em_callL0 (C : CallC X.prog X.w X.K X.mg X.base G kk ap) (hr : Room kk X.A) (hx : Passes (L2.CX X.prog X.w) X E) (hN : X.N[i]? = some x) (hv : Vis X.env.scope x) (hdb : (x == ("__debug__" : Str)) = false := by decide) (hcd : (x == ("__classdict__" : Str)) = false := by decide) :
    PE X (.Call (.Name x p) [] [] pos) (tM G E (mCallL ap i mNil)) := by
  refine ⟨fun pins s σ H Q I h => ?_⟩
  obtain ⟨ρ, S, Z, μ, r, er, af⟩ := h
  unfold mCallL at af
  split at af
  case h_2 => exact af.elim
  rename_i g hg
  obtain ⟨v, hs, hvr⟩ := er.at_ i g hg
  cases hc : ap.ca g with
  | false => rw [hc, if_neg Bool.false_ne_true] at af; exact af.elim
  | true =>
    rw [hc, if_pos rfl] at af
    refine wpAny_Call_Name_kw (thn ((pe_var (pos := p) hN hv hdb hcd).run pins s σ H (fun v' H1 => v' = v ∧ H1 = H) I ⟨v, hs, rfl, rfl⟩) fun u s1 ⟨v', H1, I1, r1, q1⟩ => ?_)
    obtain ⟨ev, eH⟩ := q1
    subst ev
    rw [eH] at I1
    obtain ⟨a, rfl, fa⟩ := C.fn g v' s1 H Z μ hc I1.hok I1.kIn hvr
    obtain rfl : u = Value.ref a := r1
    exact PySem.W.callWith_F0 (first := []) fa (callL_end C hc hr hx I1 r hvr VRs.nil .nil af)
end

/-! ### what the captured cells hold -/
structure CV (B : Heap) (cells : List (Str × Addr)) (L : LamD) (vs : List V) : Prop where
  len : vs.length = L.fr.length
  at_ : ∀ (i : Nat) (y : Str), L.fr[i]? = some y → ∃ (c : Addr) (oc : Obj) (u : Value) (v : V), cells.lookup y = some c ∧ B.get? c = some oc ∧ oc.data = .cell (some u) ∧ vs[i]? = some v ∧ RelV v u
/-- the base with the cells of this def -/
def isCellOf (cells : List (Str × Addr)) (a : Addr) : Bool := cells.any fun p => decide (cells.lookup p.1 = some a)
theorem isCellOf_lookup {cells : List (Str × Addr)} {y : Str} {c : Addr} (h : cells.lookup y = some c) : isCellOf cells c = true := by
  unfold isCellOf
  rw [List.any_eq_true]
  exact ⟨(y, c), PySem.mem_of_lookup h, decide_eq_true h⟩
theorem isCellOf_of {cells : List (Str × Addr)} {c : Addr} (h : isCellOf cells c = true) : ∃ y, cells.lookup y = some c := by
  unfold isCellOf at h
  rw [List.any_eq_true] at h
  obtain ⟨p, _, e⟩ := h
  exact ⟨p.1, of_decide_eq_true e⟩
def baseP (X : Cx) (s : Shared) : Heap := PySem.W.hideAll s.heap ((List.range s.heap.objs.size).filter fun a => !((X.base.get? a).isSome || isCellOf X.env.cells a))
section
variable {X : Cx} {pins : List (Addr × Obj)} {σ : L2.St} {H : Hp} {s : Shared} {b : Addr} {o : Obj}
theorem baseP_of (h : (baseP X s).get? b = some o) : s.heap.get? b = some o ∧ ((X.base.get? b).isSome = true ∨ isCellOf X.env.cells b = true) := by
  have e := PySem.W.of_hideAll _ h
  refine ⟨e, ?_⟩
  cases q : ((X.base.get? b).isSome || isCellOf X.env.cells b) with
  | true => exact Bool.or_eq_true_iff.mp q
  | false =>
    have hm : b ∈ (List.range s.heap.objs.size).filter fun a => !((X.base.get? a).isSome || isCellOf X.env.cells a) := List.mem_filter.mpr ⟨List.mem_range.mpr (Heap.lt_size e), by rw [q]; rfl⟩
    have := PySem.W.hideAll_none (h := s.heap) _ hm
    rw [show (baseP X s).get? b = none from this] at h
    cases h
theorem baseP_at (h : s.heap.get? b = some o) (k : (X.base.get? b).isSome = true ∨ isCellOf X.env.cells b = true) : (baseP X s).get? b = some o := by
  refine PySem.W.hideAll_get _ h fun hm => ?_
  have q := (List.mem_filter.mp hm).2
  rw [Bool.or_eq_true_iff.mpr k] at q
  cases q
theorem baseP_base (I : Inv X pins σ H s) (h : X.base.get? b = some o) : (baseP X s).get? b = some o := baseP_at (I.bk b o h) (.inl (by rw [h]; rfl))
theorem env0_plus (I : Inv X pins σ H s) (hfn : ∀ x, X.fn x = true) : Env0 X.prog X.w X.K X.mg (baseP X s) X.A X.stack s H := by
  have e0 := I.env0
  have bb : ∀ b o, X.base.get? b = some o → (baseP X s).get? b = some o := fun b o h => baseP_base I h
  have hcell : ∀ b o, s.heap.get? b = some o → isCellOf X.env.cells b = true → H b = none ∧ ∃ v, o.data = .cell v := fun b o e k => by
    obtain ⟨y, hy⟩ := isCellOf_of k
    obtain ⟨v, o', e', d⟩ := I.cell y b hy
    rw [e] at e'; cases e'
    exact ⟨I.freeC y b hy, v, d⟩
  refine ⟨e0.frames, ⟨fun a o h => bb a o (e0.mod.kin a o h), e0.mod.glob.keeps bb, ?_, e0.mod.nolimit.keeps bb⟩, fun b o h => ?_, ?_, ?_, e0.frf, e0.hok, e0.bare⟩
  · obtain ⟨mb, h1, h2⟩ := e0.mod.blt
    exact ⟨mb, h1.keeps bb, h2⟩
  · obtain ⟨h1, h2⟩ := baseP_of h
    rcases h2 with h2 | h2
    · obtain ⟨o', ho⟩ := Option.isSome_iff_exists.mp h2
      exact ⟨h1, (I.bs b o' ho).2⟩
    · exact ⟨h1, (hcell b o h1 h2).1⟩
  · exact Nat.le_of_eq (PySem.W.hideAll_size _ _)
  · refine L2.funFrames_none e0.funs fun L hL => ?_
    cases q : (baseP X s).get? L with
    | none => rfl
    | some o =>
      obtain ⟨h1, h2⟩ := baseP_of q
      obtain ⟨k1, o', ho, hd⟩ := e0.funs.mem hL
      rcases h2 with h2 | h2
      · rw [k1] at h2; cases h2
      · obtain ⟨y, hy⟩ := isCellOf_of h2
        exfalso
        rcases List.mem_cons.mp (I.stkSub L hL) with e | e
        · exact I.cne y L hy e
        · obtain ⟨_, oL, hoL, _⟩ := I.ok.funs.mem e
          exact Nat.lt_irrefl _ (Nat.lt_of_lt_of_le (Heap.lt_size hoL) (I.ok.cab y L (hfn y) hy))
end
end Mo

set_option Elab.async false
set_option linter.all false
set_option maxRecDepth 100000
set_option autoImplicit false
/-! Mon10: what a def hands on may be called there. -/
namespace Mo
open PySem PySem.Spec L2
open PyProof.Rows hiding St
open LamX (CodeO TabS Tabs ExtN TabB)

/-- a lambda on values: how many parameters, captured names, names; its body; the captured names' places at the maker's -/
structure LamM where
  np : Nat
  nf : Nat
  nn : Nat
  b : ME
  js : List Nat
def lamRun (M : LamM) (cap : List W) : MD := fun ws S => if ws.length = M.np ∧ cap.length = M.nf then M.b (ws.map some ++ (cap.map some ++ List.replicate (M.nn - ws.length - cap.length) none)) S else .stuck
/-- lambdas, and defs of the module by name -/
def apM (ms : List LamM) (gs : List (Str × Nat × MD)) : Ap where
  ca := fun g => match g with
    | .clo k _ => decide (k < ms.length)
    | .glob x => (gs.lookup x).isSome
    | _ => false
  run := fun g ws S => match g with
    | .clo k cap => (match ms[k]? with
      | some M => lamRun M cap ws S
      | none => .stuck)
    | .glob x => (match gs.lookup x with
      | some (n, m) => gCall n m ws S
      | none => .stuck)
    | _ => .stuck
structure LamOk (P : Program) (w : World) (K : PySem.W.Frag) (mg : Str → Option Value) (B : Heap) (G' : Glo) (kk : Nat) (q : Str) (cells : List (Str × Addr)) (L : LamD) (M : LamM) : Prop where
  np : M.np = L.ps.length
  nf : M.nf = L.fr.length
  nn : M.nn = L.N.length
  S : NdefX.NScope L.N L.ps L.fr L.scope
  bind : ∀ (cl : List (Str × Addr)) (pm : Value) (c' : Addr) (ctv : Value) (us : List Value), us.length = L.ps.length → bindArgs (PySem.W.kla_fn "<lambda>" q L.params L.body L.scope cl pm (.ref c') ctv) ⟨us, []⟩ = pure (L.ps.zip us)
  body : ∀ (f c' : Addr) (A : Around) (outer : List Env) (s : Shared) (H : Hp) (E : XK), Room kk (A.deeper (NdefX.envF (L.nf q (cloFrom cells L.scope.names []) c') f s.heap.objs.size)) →
    PE (NdefX.ncx (L2.CX P w) P w K mg B L.N (L.nf q (cloFrom cells L.scope.names []) c') f A outer s H E) L.body (tM G' E M.b)
  free : ∀ y ∈ L.scope.names, y.2 = .free → ∃ c, cells.lookup y.1 = some c
structure GlobOk (P : Program) (w : World) (K : PySem.W.Frag) (mg : Str → Option Value) (B : Heap) (G' : Glo) (kk : Nat) (x : Str) (n : Nat) (m : MD) : Prop where
  ex : ∃ (f : Addr) (fd : FuncData) (ps : List Str), mg x = some (.ref f) ∧ FnOk P w K mg B (L2.CX P w) kk f fd ps (spM G' n m) ∧ Binds K fd ps [] ∧ ∃ oc od osl, K.lookup f = some ⟨oc, od, .func fd, osl⟩
section
variable {P : Program} {w : World} {K : PySem.W.Frag} {mg : Str → Option Value} {B : Heap} {T : List (Addr × Str)} {q : Str} {lams : List LamD} {cells : List (Str × Addr)} {cv : Nat → List V → Prop} {kk : Nat} {ms : List LamM} {gs : List (Str × Nat × MD)}
theorem callC_of (hinj : ∀ x y c, cells.lookup x = some c → cells.lookup y = some c → x = y) (hcv : ∀ (k : Nat) (vs : List V), cv k vs → ∀ L : LamD, lams[k]? = some L → CV B cells L vs) (hlen : lams.length = ms.length)
    (hl : ∀ (k : Nat) (L : LamD) (M : LamM), lams[k]? = some L → ms[k]? = some M → LamOk P w K mg B (glo K mg T q lams cells cv) kk q cells L M) (hgl : ∀ (x : Str) (n : Nat) (m : MD), gs.lookup x = some (n, m) → GlobOk P w K mg B (glo K mg T q lams cells cv) (kk + 1) x n m) : CallC P w K mg B (glo K mg T q lams cells cv) (kk + 1) (apM ms gs) where
  fn := fun g v s H Z μ hc hok KX hg => by
    unfold apM at hc
    dsimp only at hc
    split at hc
    · unfold VR at hg
      obtain ⟨a, vs, rfl, ⟨L, c', h1, h2, h3⟩, _⟩ := hg
      obtain ⟨⟨pm, ctv, ho⟩, _, _⟩ := hok a _ h2
      exact ⟨a, rfl, _, _, _, _, ho⟩
    · unfold VR at hg
      obtain ⟨a, h1, rfl⟩ := hg
      obtain ⟨⟨n, m⟩, hx⟩ := Option.isSome_iff_exists.mp hc
      obtain ⟨f, fd, ps, e1, _, _, oc, od, osl, lk⟩ := (hgl _ n m hx).ex
      have e2 : mg _ = some (.ref a) := h1
      rw [e1] at e2; cases e2
      exact ⟨_, rfl, oc, od, fd, osl, KX _ _ lk⟩
    · cases hc
  run := fun g a A outer s H us vs ws Z μ S Q E hc hr e0 r hg hv rv af => by
    unfold apM at af hc
    dsimp only at af hc
    split at hc
    · rename_i k cap
      unfold VR at hg
      obtain ⟨a', cs, ea, ⟨L, c', h1, h2, h3⟩, h4, h5⟩ := hg
      cases ea
      dsimp only at af
      cases e1 : ms[k]? with
      | none => rw [e1] at af; exact af.elim
      | some M =>
        rw [e1] at af
        dsimp only at af
        have O := hl k L M h1 e1
        have cvk := hcv k cs h4 L h1
        unfold lamRun at af
        split at af
        case isFalse => exact af.elim
        rename_i hlen'
        have cm : ∀ {y : Str} {c : Addr}, (cloFrom cells L.scope.names []).lookup y = some c → (y, NameKind.free) ∈ L.scope.names ∧ cells.lookup y = some c := fun {y c} e => by
          have e2 := NdefX.clo_cm O.free e
          rcases cloFrom_mem (PySem.mem_of_lookup e) with hm | ⟨k1, _⟩
          · cases hm
          · exact ⟨k1, e2⟩
        have C : NdefX.CellsAt (cloFrom cells L.scope.names []) L.fr (cs.map some) s.heap H := by
          refine ⟨by rw [List.length_map]; exact cvk.len, fun y c e => ?_, fun x y c e1 e2 => hinj x y c (cm e1).2 (cm e2).2, fun i y e => ?_⟩
          · obtain ⟨k1, k2⟩ := cm e
            obtain ⟨i, hi⟩ := List.mem_iff_getElem?.mp (O.S.free _ k1 rfl)
            obtain ⟨c0, oc, u, v, q1, q2, q3, _, _⟩ := cvk.at_ i y hi
            have q1' : cells.lookup y = some c0 := q1
            rw [k2] at q1'; cases q1'
            obtain ⟨p1, p2⟩ := e0.bs _ _ q2
            exact ⟨p2, _, oc, p1, q3⟩
          · obtain ⟨c0, oc, u, v, q1, q2, q3, q4, q5⟩ := cvk.at_ i y e
            have hy : (y, NameKind.free) ∈ L.scope.names := PySem.mem_of_lookup (O.S.frk y (List.mem_of_getElem? e))
            refine ⟨c0, NdefX.clo_has O.free hy q1, fun v' hv' => ?_⟩
            rw [List.getElem?_map, q4] at hv'
            cases hv'
            exact ⟨u, q5, oc, (e0.bs _ _ q2).1, q3⟩
        refine lam_run (L := L) (cs := cs) (t := tM (glo K mg T q lams cells cv) E M.b) O.S hr e0 h2 h3 C rv (by rw [hv.length, hlen'.1, O.np]) (fun pm ctv us hu => O.bind _ pm c' ctv us hu) (fun hr' => O.body _ _ _ _ _ _ _ hr') ?_
        refine ⟨_, S, Z, μ, r, ?_, af⟩
        have hcs := h5.length
        have h51 := hv.length
        refine ⟨?_, fun i u hi => ?_⟩
        · unfold NdefX.startF
          simp only [List.length_append, List.length_map, List.length_replicate]
          rw [O.nn]; omega
        · unfold NdefX.startF
          by_cases hi1 : i < ws.length
          · rw [List.getElem?_append_left (by simpa using hi1), List.getElem?_map] at hi
            have hi' : ws[i]? = some u := by
              cases e : ws[i]? with
              | none => rw [e] at hi; cases hi
              | some z => rw [e] at hi; cases hi; rfl
            obtain ⟨v, q1, q2⟩ := hv.get hi'
            exact ⟨v, by rw [List.getElem?_append_left (by rw [List.length_map]; omega), List.getElem?_map, q1]; rfl, q2⟩
          · rw [List.getElem?_append_right (by simpa using hi1), List.length_map] at hi
            by_cases hi2 : i - ws.length < cap.length
            · rw [List.getElem?_append_left (by simpa using hi2), List.getElem?_map] at hi
              have hi' : cap[i - ws.length]? = some u := by
                cases e : cap[i - ws.length]? with
                | none => rw [e] at hi; cases hi
                | some z => rw [e] at hi; cases hi; rfl
              obtain ⟨v, q1, q2⟩ := h5.get hi'
              refine ⟨v, ?_, q2⟩
              rw [List.getElem?_append_right (by simp only [List.length_map]; omega), List.getElem?_append_left (by simp only [List.length_map]; omega), List.getElem?_map]
              simp only [List.length_map]
              rw [h51, q1]
              rfl
            · rw [List.getElem?_append_right (by simpa using hi2), List.getElem?_replicate] at hi
              split at hi <;> cases hi
    · rename_i x
      cases e1 : gs.lookup x with
      | none => rw [e1] at hc; cases hc
      | some nm =>
        obtain ⟨n, m⟩ := nm
        dsimp only at af
        rw [e1] at af
        dsimp only at af
        obtain ⟨f, fd, ps, e2, F, hb, oc, od, osl, lk⟩ := (hgl _ n m e1).ex
        unfold VR at hg
        obtain ⟨a', h1, h2⟩ := hg
        cases h2
        have e3 : mg x = some (.ref a) := h1
        rw [e2] at e3; cases e3
        have hsp : spM (glo K mg T q lams cells cv) n m vs H Q E := call_spS ⟨ws, S, Z, μ, r, hv, af⟩
        have hb' := hb s us (e0.mod.kin.keeps fun b o e => (e0.bs b o e).1) (by rw [List.append_nil, ← rv.length]; exact F.len _ _ _ _ hsp)
        rw [List.append_nil] at hb'
        exact F.run A outer s H ⟨us, []⟩ us vs Q E hr e0 hb' rv hsp
    · cases hc
end

/-! ### a def is called, handed what may be called -/
def capOf (ρ : Env') : List Nat → Option (List W)
  | [] => some []
  | j :: js => match ρ[j]? with
    | some (some u) => if u.nr && u.nc then (match capOf ρ js with
      | some us => some (u :: us)
      | none => none) else none
    | _ => none
/-- a lambda goes with what its captured names hold -/
def cvt (ms : List LamM) (ρ : Env') (w : W) : Option W := match w with
  | .clo k [] => (match ms[k]? with
    | some M => (match capOf ρ M.js with
      | some us => some (.clo k us)
      | none => none)
    | none => none)
  | w => if w.nr && w.nc then some w else none
def gCallC (n : Nat) (m : MD) (ms : List LamM) (ρ : Env') (ws : List W) (S : Sto) : R W := if ws.length = n then (match mapO (cvt ms ρ) ws with
  | none => .stuck
  | some us => match m us [] with
    | .ok w S' => match fz S' 6 w with
      | none => .stuck
      | some w' => if w'.nc then .ok w' S else .stuck
    | .err c _ => .err c S
    | .stuck => .stuck) else .stuck
def mCallC (n : Nat) (m : MD) (ms : List LamM) (r : MA) : ME := fun ρ S => (r ρ S).bind fun ws S1 => gCallC n m ms ρ ws S1
section
variable {X : Cx} {T : List (Addr × Str)} {lams : List LamD} {ms : List LamM} {gs : List (Str × Nat × MD)} {E : XK}
/-- what the maker's frame tells of a lambda's captured names -/
structure Capt (X : Cx) (L : LamD) (M : LamM) : Prop where
  js : M.js = L.js
  len : L.js.length = L.fr.length
  at_ : ∀ (i : Nat) (y : Str), L.fr[i]? = some y → ∃ j : Nat, L.js[i]? = some j ∧ X.N[j]? = some y ∧ X.env.scope.names.lookup y = some .cell
abbrev gloM (X : Cx) (T : List (Addr × Str)) (lams : List LamD) (cv : Nat → List V → Prop) : Glo := glo X.K X.mg T (X.env.qual ++ "<lambda>") lams X.env.cells cv
theorem mapO_vr2 {G G' : Glo} {Z Zn : Addr → Prop} {μ μn : List Addr} {H : Hp} {f : W → Option W} (hf : ∀ (w u : W) (v : V), f w = some u → VR G Z μ H w v → VR G' Zn μn H u v) : ∀ {ws us : List W} {vs : List V}, mapO f ws = some us → VRs G Z μ H ws vs → VRs G' Zn μn H us vs
  | [], us, vs, e, h => by unfold mapO at e; cases e; unfold VRs at h ⊢; exact h
  | w :: ws, us, vs, e, h => by
    unfold VRs at h
    obtain ⟨v, q, rfl, h1, h2⟩ := h
    unfold mapO at e
    cases e1 : f w with
    | none => rw [e1] at e; cases e
    | some u =>
      rw [e1] at e
      cases e2 : mapO f ws with
      | none => rw [e2] at e; cases e
      | some us' =>
        rw [e2] at e; cases e
        exact VRs.cons (hf _ _ _ e1 h1) (mapO_vr2 hf e2 h2)
theorem capOf_ok {pins : List (Addr × Obj)} {σ : L2.St} {H : Hp} {s : Shared} {Z : Addr → Prop} {μ : List Addr} {ρ : Env'} {G G' : Glo} (hK : G'.K = G.K) (hm : G'.mg = G.mg) (he : G'.ex = G.ex) (I : Inv X pins σ H s) (er : ER G Z μ H ρ σ) : ∀ (js : List Nat) (fr : List Str) (us : List W), capOf ρ js = some us → js.length = fr.length → (∀ (i : Nat) (y : Str), fr[i]? = some y → ∃ j : Nat, js[i]? = some j ∧ X.N[j]? = some y ∧ X.env.scope.names.lookup y = some .cell) →
    ∃ vs, VRs G' Z [] H us vs ∧ vs.length = fr.length ∧ ∀ (i : Nat) (y : Str), fr[i]? = some y → ∃ (c : Addr) (oc : Obj) (u : Value) (v : V), X.env.cells.lookup y = some c ∧ (baseP X s).get? c = some oc ∧ oc.data = .cell (some u) ∧ vs[i]? = some v ∧ RelV v u
  | [], [], us, e, _, _ => by
    unfold capOf at e; cases e
    exact ⟨[], VRs.nil, rfl, fun i y h => by simp at h⟩
  | j :: js, y :: fr, us, e, hl, hat => by
    unfold capOf at e
    split at e
    · rename_i u hu
      split at e
      · rename_i hn
        have hn' := Bool.and_eq_true_iff.mp hn
        split at e
        · rename_i us' e2
          cases e
          obtain ⟨vs, h1, h2, h3⟩ := capOf_ok hK hm he I er js fr us' e2 (by simpa using hl) fun i y h => by simpa using hat (i + 1) y (by simpa using h)
          obtain ⟨j', k1, k2, k3⟩ := hat 0 y rfl
          simp at k1
          subst k1
          obtain ⟨v, q1, q2⟩ := er.at_ j u hu
          obtain ⟨m, _, hl'⟩ := I.loc
          obtain ⟨uv, ru, lk⟩ := hl' j y v k2 q1 (.inr (.inl k3))
          refine ⟨v :: vs, VRs.cons (VR.reG hK hm he hn'.2 (VR.nr (fun _ h => h) hn'.1 q2)) h1, by simp [h2], fun i z hz => ?_⟩
          cases i with
          | zero =>
            simp at hz
            subst hz
            rcases lk with ⟨lk, _⟩ | ⟨_, c, hc, oc, ho, hd⟩
            · have lk' : X.env.scope.names.lookup y = some .local := lk
              rw [k3] at lk'; cases lk'
            · exact ⟨c, oc, uv, v, hc, baseP_at ho (.inr (isCellOf_lookup hc)), hd, rfl, ru⟩
          | succ i =>
            obtain ⟨c, oc, u2, v2, p1, p2, p3, p4, p5⟩ := h3 i z (by simpa using hz)
            exact ⟨c, oc, u2, v2, p1, p2, p3, by simpa using p4, p5⟩
        · cases e
      · cases e
    · cases e
  | [], _ :: _, _, _, hl, _ => by simp at hl
  | _ :: _, [], _, _, hl, _ => by simp at hl
theorem cvt_ok {pins : List (Addr × Obj)} {σ : L2.St} {H : Hp} {s : Shared} {Z : Addr → Prop} {μ : List Addr} {ρ : Env'} (I : Inv X pins σ H s) (er : ER (gloM X T lams fun _ vs => vs = []) Z μ H ρ σ) (hcap : ∀ (k : Nat) (L : LamD) (M : LamM), lams[k]? = some L → ms[k]? = some M → Capt X L M) :
    ∀ (w u : W) (v : V), cvt ms ρ w = some u → VR (gloM X T lams fun _ vs => vs = []) Z μ H w v → VR (gloM X T lams fun k vs => ∃ L, lams[k]? = some L ∧ CV (baseP X s) X.env.cells L vs) Z [] H u v := fun w u v e h => by
  unfold cvt at e
  split at e
  · rename_i k
    split at e
    · rename_i M eM
      split at e
      · rename_i us eu
        cases e
        unfold VR at h ⊢
        obtain ⟨a, vs, rfl, ⟨L, c', h1, h2, h3⟩, h4, h5⟩ := h
        have cp := hcap k L M h1 eM
        rw [cp.js] at eu
        obtain ⟨cs, k1, k2, k3⟩ := capOf_ok (G := gloM X T lams fun _ vs => vs = []) (G' := gloM X T lams fun k vs => ∃ L, lams[k]? = some L ∧ CV (baseP X s) X.env.cells L vs) rfl rfl rfl I er L.js L.fr us eu cp.len cp.at_
        exact ⟨a, cs, rfl, ⟨L, c', h1, h2, h3⟩, ⟨L, h1, k2, k3⟩, k1⟩
      · cases e
    · cases e
  · split at e
    · rename_i hn
      have hn' := Bool.and_eq_true_iff.mp hn
      cases e
      exact VR.reG (G := gloM X T lams fun _ vs => vs = []) (G' := gloM X T lams fun k vs => ∃ L, lams[k]? = some L ∧ CV (baseP X s) X.env.cells L vs) rfl rfl rfl hn'.2 (VR.nr (fun _ h => h) hn'.1 h)
    · cases e
/-- f(e, ..) in the maker's own frame -/
theorem em_callC {kf kk n : Nat} {f : Addr} {fd : FuncData} {ps : List Str} {x : Str} {p pos : Pos} {e : Expr} {es : List Expr} {mr : MA} {m : MD} (hfn : ∀ x, X.fn x = true) (hlen : lams.length = ms.length) (hcap : ∀ (k : Nat) (L : LamD) (M : LamM), lams[k]? = some L → ms[k]? = some M → Capt X L M)
    (hl : ∀ (B : Heap) (cv : Nat → List V → Prop) (k : Nat) (L : LamD) (M : LamM), lams[k]? = some L → ms[k]? = some M → X.Ok → LamOk X.prog X.w X.K X.mg B (gloM X T lams cv) kk (X.env.qual ++ "<lambda>") X.env.cells L M)
    (hgl : ∀ (B : Heap) (cv : Nat → List V → Prop) (x : Str) (n : Nat) (m : MD), gs.lookup x = some (n, m) → GlobOk X.prog X.w X.K X.mg B (gloM X T lams cv) (kk + 1) x n m)
    (F : ∀ (B : Heap) (cv : Nat → List V → Prop), CallC X.prog X.w X.K X.mg B (gloM X T lams cv) (kk + 1) (apM ms gs) → FnOk X.prog X.w X.K X.mg B (L2.CX X.prog X.w) kf f fd ps (spM (gloM X T lams cv) n m))
    (hr : Room kf X.A) (hg : Gl X x) (hm : X.mg x = some (.ref f)) (hk : PySem.W.keepIn X.K (.ref f) = true) (hb : Binds X.K fd ps [])
    (hx : Passes (L2.CX X.prog X.w) X E) (ha : PA X (e :: es) (tMA (gloM X T lams fun _ vs => vs = []) E mr)) (hdb : (x == ("__debug__" : Str)) = false := by decide) (he : starEach (e :: es) X.env = (false, eval e X.env) :: starEach es X.env := by rfl) (hpl : (backTo pos (starEach es X.env)).any (·.1) = false := by rfl) :
    PE X (.Call (.Name x p) (e :: es) [] pos) (tM (gloM X T lams fun _ vs => vs = []) E (mCallC n m ms mr)) := by
  refine ⟨fun pins s σ H Q I h => ?_⟩
  obtain ⟨ρ, S, Z, μ, r, er, af⟩ := h
  refine wpAny_Call_Name_kw (ld_glob I hg hm ?_ hdb)
  refine PySem.W.callWith_K (h₀ := X.base) I.ok.mod.kin hk (thn (ha.run pos pins s σ H (fun vs H1 => ∃ ws S1 Z1 μ1, Rel (gloM X T lams fun _ vs => vs = []) Z1 μ1 H1 S1 ∧ ER (gloM X T lams fun _ vs => vs = []) Z1 μ1 H1 ρ σ ∧ VRs (gloM X T lams fun _ vs => vs = []) Z1 μ1 H1 ws vs ∧ Aft (gloM X T lams fun _ vs => vs = []) E Z1 μ1 H1 (gCallC n m ms ρ ws S1) (PQ (gloM X T lams fun _ vs => vs = []) Q)) I ?_) fun us s1 ⟨vs, H1, I1, rv, q⟩ => ⟨I1.kIn, ?_⟩) he hpl
  · exact ⟨ρ, S, Z, μ, r, er, Aft.imp (Aft.bind af) fun ws Z1 μ1 H1 S1 _ g1 r1 a1 vs hvs => ⟨ws, S1, Z1, μ1, r1, er.mono r g1, hvs, a1⟩⟩
  · obtain ⟨ws, S1, Z1, μ1, r1, er1, hvs, a1⟩ := q
    have e0 := env0_plus I1 hfn
    have C : CallC X.prog X.w X.K X.mg (baseP X s1) (gloM X T lams fun k vs => ∃ L, lams[k]? = some L ∧ CV (baseP X s1) X.env.cells L vs) (kk + 1) (apM ms gs) :=
      callC_of I1.ok.inj (fun k vs ⟨L, h1, h2⟩ L' h3 => by rw [h1] at h3; cases h3; exact h2) hlen (fun k L M h1 h2 => hl _ _ k L M h1 h2 I1.ok) (fun x n m h => hgl _ _ x n m h)
    have Fn := F _ _ C
    have hsp : spM (gloM X T lams fun k vs => ∃ L, lams[k]? = some L ∧ CV (baseP X s1) X.env.cells L vs) n m vs H1 Q E := by
      unfold gCallC at a1
      split at a1
      case isFalse => exact a1.elim
      rename_i hn
      refine ⟨by rw [hvs.length]; exact hn, ?_⟩
      cases e1 : mapO (cvt ms ρ) ws with
      | none => rw [e1] at a1; exact a1.elim
      | some us' =>
        rw [e1] at a1
        dsimp only at a1
        have fin : ∀ {Z' : Addr → Prop} {μ' : List Addr} {H' : Hp}, Grow Z1 [] H1 Z' μ' H' → Tabs T H' → Rel (gloM X T lams fun _ vs => vs = []) Z1 μ1 H' S1 ∧ Grow Z1 μ1 H1 Z1 μ1 H' := fun g hi => r1.extN (fun a o q ht => g.keep a o q (by simp) ht) g.th hi
        refine ⟨us', [], Z1, [], ⟨rfl, List.nodup_nil, fun a (h : a ∈ []) => (List.not_mem_nil h).elim, r1.zm, r1.inv, fun n a o h => by simp at h⟩, mapO_vr2 (G := gloM X T lams fun _ vs => vs = []) (fun w u v q1 q2 => cvt_ok I1 er1 hcap w u v q1 q2) e1 hvs, ?_⟩
        cases e2 : m us' [] with
        | stuck => rw [e2] at a1; exact a1.elim
        | err c S' =>
          rw [e2] at a1
          exact fun Z' μ' H' g r' => a1 Z1 μ1 H' (fin g r'.inv).2 (fin g r'.inv).1
        | ok w S' =>
          rw [e2] at a1
          dsimp only at a1
          cases e3 : fz S' 6 w with
          | none => rw [e3] at a1; exact a1.elim
          | some w' =>
            rw [e3] at a1
            dsimp only at a1
            split at a1
            case isFalse => exact a1.elim
            rename_i hnc
            intro Z' μ' H' g r' v hw
            refine a1 Z1 μ1 H' (fin g r'.inv).2 (fin g r'.inv).1 v (VR.reG (G := gloM X T lams fun k vs => ∃ L, lams[k]? = some L ∧ CV (baseP X s1) X.env.cells L vs) (G' := gloM X T lams fun _ vs => vs = []) rfl rfl rfl hnc (fz_vr r' g.zk (fun a ha => ?_) 6 w w' v e3 hw))
            obtain ⟨e, rfl, fe⟩ := g.mu
            exact r1.fresh (fe a (by simpa using ha))
    have hl' : (us ++ [] : List Value).length = ps.length := by rw [List.append_nil, ← rv.length]; exact Fn.len _ _ _ _ hsp
    have hb' := hb s1 us I1.kIn hl'
    rw [List.append_nil] at hb'
    refine wpAny_call (codeAny_mono (Fn.run X.A X.stack s1 H1 ⟨us, []⟩ us vs Q E hr e0 hb' rv hsp) fun r s' hq => ?_)
    cases r with
    | error e => exact hx pins σ H1 s1 e s' I1 hq
    | ok fl =>
      cases fl with
      | ret u => exact I1.after hq
      | next => exact False.elim hq
      | brk => exact False.elim hq
      | cont => exact False.elim hq
end
end Mo

set_option Elab.async false
set_option linter.all false
set_option maxRecDepth 100000
set_option autoImplicit false
/-! Mon11: defs that make lambdas; what is never reached. -/
namespace Mo
open PySem PySem.Spec L2
open PyProof.Rows hiding St
open LamX (CodeO TabS Tabs ExtN TabB)
/-! ### never reached -/
def mStuck : ME := fun _ _ => .stuck
def sStuck : MS := fun _ _ => .stuck
section
variable {X : Cx} {G : Glo} {E : XK}
theorem em_stuck {e : Expr} : PE X e (tM G E mStuck) := ⟨fun pins s σ H Q I ⟨ρ, S, Z, μ, r, er, af⟩ => af.elim⟩
theorem sm_stuck {st : Stmt} : PS X st (tS G E sStuck) := ⟨fun pins s σ H D I ⟨ρ, S, Z, μ, r, er, af⟩ => af.elim⟩
theorem sms_stuck {st : List Stmt} : PSs X st (tS G E sStuck) := ⟨fun pins s σ H D I ⟨ρ, S, Z, μ, r, er, af⟩ => af.elim⟩
end
/-! ### a lambda -/
section
variable {X : Cx} {T : List (Addr × Str)} {lams : List LamD} {E : XK}
theorem em_lam {k : Nat} {L : LamD} {c P : Addr} {pos : Pos} (TB : TabB X.base X.mg c P) (hcode : X.env.code = .ref c) (hm : (P, X.env.qual ++ "<lambda>") ∈ T) (hu : ∀ p ∈ T, p.1 = P → p.2 = X.env.qual ++ "<lambda>") (hL : lams[k]? = some L)
    (hfree : ∀ y ∈ L.scope.names, y.2 = .free → ∃ c, X.env.cells.lookup y.1 = some c) (hdef : defaultsOf L.params X.env = ([], []) := by rfl) :
    PE X (.Lambda L.params L.body L.scope pos) (tM (gloM X T lams fun _ vs => vs = []) E (mC (.clo k []))) := by
  refine ⟨fun pins s σ H Q I h => ?_⟩
  obtain ⟨ρ, S, Z, μ, r, er, af⟩ := h
  refine lam_make3 (L := L) I TB hcode hm hu r.inv hdef hfree fun f c' H1 s' I1 hx ht hT1 hf hc => ?_
  obtain ⟨r1, g1⟩ := r.extN (fun a o q z => hx a o q (by intro ps e; subst e; cases z)) ht hT1
  refine ⟨.ref f, H1, I1, rfl, ?_⟩
  exact af Z μ H1 g1 r1 (.ref f) (by unfold VR; exact ⟨f, [], rfl, ⟨L, c', hL, hf, hc⟩, rfl, VRs.nil⟩)
end
/-! ### a def with lambdas of its own -/
def mkM (L : Nat) (b : MS) : MD := fun ws S => match S with
  | [] => if ncs ws then (match mDef L b ws [] with
    | .ok w S' => (match fz S' 6 w with
      | none => .stuck
      | some w' => if w'.nc then .ok w' [] else .stuck)
    | .err c _ => .err c []
    | .stuck => .stuck) else .stuck
  | _ :: _ => .stuck
theorem mk_sp {G G' : Glo} {L n : Nat} {b : MS} {vs : List V} {H : Hp} {Q : VK} {E : XK} (hK : G'.K = G.K) (hm : G'.mg = G.mg) (he : G'.ex = G.ex) (hi : G'.inv = G.inv) (h : spM G n (mkM L b) vs H Q E) : spM G' n (mDef L b) vs H Q E := by
  obtain ⟨hl, ws, S, Z, μ, r, hv, af⟩ := h
  unfold mkM at af
  split at af
  case h_2 => exact af.elim
  split at af
  case isFalse => exact af.elim
  rename_i hn
  have hμ : μ = [] := List.eq_nil_of_length_eq_zero r.len
  subst hμ
  have hiH : G'.inv H := by rw [hi]; exact r.inv
  refine ⟨hl, ws, [], Z, [], rel_nil r.zm hiH, VRs.reG hK hm he hn hv, ?_⟩
  cases e2 : mDef L b ws [] with
  | stuck => rw [e2] at af; exact af.elim
  | err c S' =>
    rw [e2] at af
    intro Z' μ' H' g r'
    have q := r.extN (H' := H') (fun a o q ht => g.keep a o q (by simp) ht) g.th (by rw [← hi]; exact r'.inv)
    obtain ⟨a, h1, h2⟩ := af Z [] H' q.2 q.1
    exact ⟨a, by rw [hm]; exact h1, h2⟩
  | ok w S' =>
    rw [e2] at af
    dsimp only at af
    cases e3 : fz S' 6 w with
    | none => rw [e3] at af; exact af.elim
    | some w' =>
      rw [e3] at af
      dsimp only at af
      split at af
      case isFalse => exact af.elim
      rename_i hnc
      intro Z' μ' H' g r' v hw
      have q := r.extN (H' := H') (fun a o q ht => g.keep a o q (by simp) ht) g.th (by rw [← hi]; exact r'.inv)
      exact af Z [] H' q.2 q.1 v (VR.reG hK.symm hm.symm he.symm hnc (fz_vr r' g.zk (fun a ha => by
        obtain ⟨e, rfl, fe⟩ := g.mu
        exact r.fresh (fe a (by simpa using ha))) 6 w w' v e3 hw))
section
variable {P : Program} {w : World} {K : PySem.W.Frag} {mg : Str → Option Value} {base : Heap} {x qual : Str} {params : Arguments} {body : List Stmt} {scope : Scope} {dvs : List V} {kws : List (Str × V)} {f : Addr} {fd : FuncData} {T : List (Addr × Str)} {lams lams' : List LamD} {q : Str} {cells : List (Str × Addr)} {cv : Nat → List V → Prop}
theorem fn_mk {N ps : List Str} {k : Nat} {mb : MS} (F : FunD K x qual params body scope dvs kws f fd) (S : FnScope N ps scope)
    (hbody : ∀ (c : Addr) (A : Around) (outer : List Env) (s : Shared) (H : Hp) (E : XK), fd.code = .ref c → Room k (A.deeper (envOfC qual scope s.heap.objs.size f (.ref c))) →
      PSs (cxOf (L2.CX P w) P w K mg base N qual scope f (.ref c) A outer s H E) body (tS (gloM (cxOf (L2.CX P w) P w K mg base N qual scope f (.ref c) A outer s H E) T lams fun _ vs => vs = []) E mb)) :
    FnOk P w K mg base (L2.CX P w) (k + 1) f fd ps (spM (glo K mg T q lams' cells cv) ps.length (mkM N.length mb)) := by
  obtain ⟨oc, od, dV, kV, doc, pm, an, cdv, ct, osl, rfl, lk, hcd, _, _⟩ := F.ex
  obtain ⟨c, rfl⟩ := He.codeIn_ref hcd
  refine fn_of lk hcd S (fun vs H Q E h => h.1) fun A outer s H vs Q E hr hsp => ?_
  have hb := hbody c A outer s H E rfl hr
  have key : ∀ (q' : Str) (cells' : List (Str × Addr)) (cv' : Nat → List V → Prop), spM (glo K mg T q' lams cells' cv') ps.length (mDef N.length mb) vs H Q E := fun q' cells' cv' => mk_sp (G := glo K mg T q lams' cells cv) rfl rfl rfl rfl hsp
  have h3 := def_reads (key ((cxOf (L2.CX P w) P w K mg base N qual scope f (.ref c) A outer s H E).env.qual ++ "<lambda>") (cxOf (L2.CX P w) P w K mg base N qual scope f (.ref c) A outer s H E).env.cells fun _ vs => vs = [])
  exact ⟨_, hb, h3⟩
end
end Mo

set_option Elab.async false
set_option linter.all false
set_option maxRecDepth 100000
set_option autoImplicit false
/-! Mon12: defs of the module by name. -/
namespace Mo
open PySem PySem.Spec L2
open PyProof.Rows hiding St
open LamX (CodeO TabS Tabs ExtN TabB)
/-- the def of the name x does m -/
structure FG (P : Program) (w : World) (K : PySem.W.Frag) (mg : Str → Option Value) (base : Heap) (G : Glo) (x : Str) (k n : Nat) (m : MD) : Prop where
  ex : ∃ (f : Addr) (fd : FuncData) (ps : List Str), mg x = some (.ref f) ∧ ps.length = n ∧ FnOk P w K mg base (L2.CX P w) k f fd ps (spM G n m) ∧ Binds K fd ps [] ∧ PySem.W.keepIn K (.ref f) = true ∧ ∃ oc od osl, K.lookup f = some ⟨oc, od, .func fd, osl⟩
/-- a def as the head tells it -/
structure Df (K : PySem.W.Frag) (mg : Str → Option Value) (d : He.DefD) : Prop where
  at_ : mg d.name = some (.ref (He.fAd K d.at_))
  ex : ∃ fd, FunD K d.name d.qual d.params d.body d.scope [] [] (He.fAd K d.at_) fd
section
variable {P : Program} {w : World} {K : PySem.W.Frag} {mg : Str → Option Value} {base : Heap} {G : Glo} {d : He.DefD} {N ps : List Str} {k : Nat} {mb : MS} {T : List (Addr × Str)} {lams lams' : List LamD} {q : Str} {cells : List (Str × Addr)} {cv : Nat → List V → Prop}
theorem Df.fg (D : Df K mg d) (S : FnScope N ps d.scope) (hb : ∀ (kV doc pm : Value) (an : Option Addr) (cdv ct : Value) (us : List Value), us.length = ps.length → bindArgs (PySem.W.fnOf d.name d.qual d.params d.body d.scope .none kV doc pm an cdv ct) ⟨us, []⟩ = pure (ps.zip us))
    (hbody : ∀ (cdv : Value) (A : Around) (outer : List Env) (s : Shared) (H : Hp) (E : XK), Room k (A.deeper (envOfC d.qual d.scope s.heap.objs.size (He.fAd K d.at_) cdv)) → PSs (cxOf (L2.CX P w) P w K mg base N d.qual d.scope (He.fAd K d.at_) cdv A outer s H E) d.body (tS G E mb)) :
    FG P w K mg base G d.name (k + 1) ps.length (mDef N.length mb) := by
  obtain ⟨fd, F⟩ := D.ex
  have e := F.ex
  obtain ⟨oc, od, dV, kV, doc, pm, an, cdv, ct, osl, efd, lk, _⟩ := e
  exact ⟨_, fd, ps, D.at_, rfl, fn_ok F S hbody, F.bindsN hb, F.kp, oc, od, osl, lk⟩
theorem Df.mk_ (D : Df K mg d) (S : FnScope N ps d.scope) (hb : ∀ (kV doc pm : Value) (an : Option Addr) (cdv ct : Value) (us : List Value), us.length = ps.length → bindArgs (PySem.W.fnOf d.name d.qual d.params d.body d.scope .none kV doc pm an cdv ct) ⟨us, []⟩ = pure (ps.zip us))
    (hbody : ∀ (A : Around) (outer : List Env) (s : Shared) (H : Hp) (E : XK), Room k (A.deeper (envOfC d.qual d.scope s.heap.objs.size (He.fAd K d.at_) (.ref (He.cT K d.at_).1))) →
      PSs (cxOf (L2.CX P w) P w K mg base N d.qual d.scope (He.fAd K d.at_) (.ref (He.cT K d.at_).1) A outer s H E) d.body (tS (gloM (cxOf (L2.CX P w) P w K mg base N d.qual d.scope (He.fAd K d.at_) (.ref (He.cT K d.at_).1) A outer s H E) T lams fun _ vs => vs = []) E mb)) :
    FG P w K mg base (glo K mg T q lams' cells cv) d.name (k + 1) ps.length (mkM N.length mb) := by
  obtain ⟨fd, F⟩ := D.ex
  have e := F.ex
  obtain ⟨oc, od, dV, kV, doc, pm, an, cdv, ct, osl, efd, lk, _⟩ := e
  refine ⟨_, fd, ps, D.at_, rfl, fn_mk (lams := lams) F S fun c A outer s H E ec hr => ?_, F.bindsN hb, F.kp, oc, od, osl, lk⟩
  have e2 : (He.cT K d.at_).1 = c := He.codeOf_eq lk ec
  rw [← e2] at hr ⊢
  exact hbody A outer s H E hr
theorem FG.glob {x : Str} {n : Nat} {m : MD} (F : FG P w K mg base G x k n m) : GlobOk P w K mg base G k x n m := by
  obtain ⟨f, fd, ps, h1, h2, h3, h4, h5, h6⟩ := F.ex
  exact ⟨f, fd, ps, h1, h3, h4, h6⟩
theorem FG.mono {j : Nat} {x : Str} {n : Nat} {m : MD} (F : FG P w K mg base G x k n m) (h : k ≤ j) : FG P w K mg base G x j n m := by
  obtain ⟨f, fd, ps, h1, h2, h3, h4, h5, h6⟩ := F.ex
  exact ⟨f, fd, ps, h1, h2, ⟨h3.len, fun A outer s H args us vs Q E hr => h3.run A outer s H args us vs Q E (hr.mono h)⟩, h4, h5, h6⟩
end
section
variable {X : Cx} {G : Glo} {E : XK} {x : Str} {p pos : Pos} {e : Expr} {es : List Expr} {mr : MA} {m : MD} {k kr n : Nat}
theorem em_fS (F : FG X.prog X.w X.K X.mg X.base G x k n m) (hr : Room kr X.A) (hx : Passes (L2.CX X.prog X.w) X E) (ha : PA X (e :: es) (tMA G E mr)) (hg : Gl X x := by rfl) (hk : k ≤ kr := by decide) (hdb : (x == ("__debug__" : Str)) = false := by decide) (he : starEach (e :: es) X.env = (false, eval e X.env) :: starEach es X.env := by rfl) (hpl : (backTo pos (starEach es X.env)).any (·.1) = false := by rfl) :
    PE X (.Call (.Name x p) (e :: es) [] pos) (tM G E (mAp (gCall n m) mr)) := by
  obtain ⟨f, fd, ps, h1, h2, h3, h4, h5, h6⟩ := F.ex
  exact em_callS h3 (hr.mono hk) hg h1 h5 h4 hx ha hdb he hpl
theorem em_fP (F : FG X.prog X.w X.K X.mg X.base G x k n m) (hr : Room kr X.A) (hx : Passes (L2.CX X.prog X.w) X E) (ha : PA X (e :: es) (tMA G E mr)) (hg : Gl X x := by rfl) (hk : k ≤ kr := by decide) (hdb : (x == ("__debug__" : Str)) = false := by decide) (he : starEach (e :: es) X.env = (false, eval e X.env) :: starEach es X.env := by rfl) (hpl : (backTo pos (starEach es X.env)).any (·.1) = false := by rfl) :
    PE X (.Call (.Name x p) (e :: es) [] pos) (tM G E (mAp (gPure n m) mr)) := by
  obtain ⟨f, fd, ps, h1, h2, h3, h4, h5, h6⟩ := F.ex
  exact em_callP h3 (hr.mono hk) hg h1 h5 h4 hx ha hdb he hpl
/-- a builtin, a type by name -/
theorem em_b {f : List W → Sto → R W} {id : String} (hc : CallR X (.builtin id) (cM G E f)) (hm : X.mg x = none) (ha : PA X (e :: es) (tMA G E mr)) (hv : bootBuiltins x = some (.builtin id) := by rfl) (hg : Gl X x := by rfl) (hn : x ≠ "__name__" := by decide) (hdb : (x == ("__debug__" : Str)) = false := by decide)
    (he : starEach (e :: es) X.env = (false, eval e X.env) :: starEach es X.env := by rfl) (hpl : (backTo pos (starEach es X.env)).any (·.1) = false := by rfl) : PE X (.Call (.Name x p) (e :: es) [] pos) (tM G E (mAp f mr)) := em_callB hc hg hm hv ha hn hdb he hpl
theorem em_ty {f : List W → Sto → R W} {id : String} (hc : CallR X (.type id) (cM G E f)) (hm : X.mg x = none) (ha : PA X (e :: es) (tMA G E mr)) (hv : bootBuiltins x = some (.type id) := by rfl) (hg : Gl X x := by rfl) (hn : x ≠ "__name__" := by decide) (hdb : (x == ("__debug__" : Str)) = false := by decide)
    (he : starEach (e :: es) X.env = (false, eval e X.env) :: starEach es X.env := by rfl) (hpl : (backTo pos (starEach es X.env)).any (·.1) = false := by rfl) : PE X (.Call (.Name x p) (e :: es) [] pos) (tM G E (mAp f mr)) := em_callTy hc hg hm hv ha hn hdb he hpl
/-- a builtin type as a value -/
theorem em_tyv {n : String} (hm : X.mg x = none) (hv : bootBuiltins x = some (.type n) := by rfl) (hg : Gl X x := by rfl) (hn : x ≠ "__name__" := by decide) (hdb : (x == ("__debug__" : Str)) = false := by decide) : PE X (.Name x pos) (tM G E (mC (.ty n))) := em_c (v := .ty n) (pe_bltn hg hm hv rfl hn hdb) vr_ty
/-- a whole number of the module -/
theorem em_gi {i : Int} (hm : ∃ t, X.mg x = some (.int i t)) (hg : Gl X x := by rfl) (hdb : (x == ("__debug__" : Str)) = false := by decide) : PE X (.Name x pos) (tM G E (mC (.int i))) := by
  obtain ⟨t, ht⟩ := hm
  exact em_c (v := .int i) (pe_glob hg ht ⟨_, rfl⟩ hdb) vr_int
/-- a def as a value -/
theorem em_gf {a : Addr} (hm : X.mg x = some (.ref a)) (hG : G.mg = X.mg) (hg : Gl X x := by rfl) (hdb : (x == ("__debug__" : Str)) = false := by decide) : PE X (.Name x pos) (tM G E (mC (.glob x))) := em_c (v := .ref a) (pe_glob hg hm rfl hdb) (vr_glob (by rw [hG]; exact hm))
theorem pas_of {P : Program} {w : World} {K : PySem.W.Frag} {mg : Str → Option Value} {base : Heap} {N : List Str} {qual : Str} {scope : Scope} {f : Addr} {cd : Value} {A : Around} {outer : List Env} {s : Shared} {H : Hp} : Passes (L2.CX P w) (cxOf (L2.CX P w) P w K mg base N qual scope f cd A outer s H E) E :=
  passes_call (takes_of rfl rfl rfl rfl) fun _ _ _ _ h => h
end
end Mo

set_option Elab.async false
set_option linter.all false
set_option maxRecDepth 100000
set_option autoImplicit false
/-! Mon13: dicts of the store; membership. -/
namespace Mo
open PySem PySem.Spec L2
open PyProof.Rows hiding St

def keyW : W → Option Key
  | .int i => some (.inl i)
  | .str x => some (.inr x)
  | _ => none
def valW (kvs : List (Key × W)) (k : Key) : Option W := match kvs with
  | [] => none
  | p :: r => if decide (p.1 = k) then some p.2 else valW r k
def putW (kvs : List (Key × W)) (k : Key) (v : W) : List (Key × W) := match kvs with
  | [] => [(k, v)]
  | p :: r => if decide (p.1 = k) then (p.1, v) :: r else p :: putW r k v
/-- distinct keys -/
def ukeys : List (Key × W) → Bool
  | [] => true
  | p :: r => (valW r p.1).isNone && ukeys r
def mDictN : ME := fun _ S => .ok (.ref S.length) (S ++ [.dict []])
def mSetK (mv mo mi : ME) : MS := fun ρ S => (mv ρ S).bind fun v S1 => (mo ρ S1).bind fun o S2 => (mi ρ S2).bind fun i S3 => match o with
  | .ref n => (match keyW i with
    | some k => (match S3[n]? with
      | some (.dict kvs) => if kvs.length < 100000 ∧ ukeys kvs = true then .ok (.nx ρ) (S3.set n (.dict (putW kvs k v))) else .stuck
      | _ => .stuck)
    | _ => .stuck)
  | _ => .stuck
def dixW (o i : W) (S : Sto) : R W := match o with
  | .ref n => (match keyW i with
    | some k => (match S[n]? with
      | some (.dict kvs) => (match valW kvs k with
        | some u => .ok u S
        | none => .stuck)
      | _ => .stuck)
    | _ => .stuck)
  | _ => .stuck
def dinW (neg : Bool) (i o : W) (S : Sto) : R W := match o with
  | .ref n => (match keyW i with
    | some k => (match S[n]? with
      | some (.dict kvs) => .ok (.bl (if neg then !(valW kvs k).isSome else (valW kvs k).isSome)) S
      | _ => .stuck)
    | _ => .stuck)
  | _ => .stuck
section
variable {G : Glo} {Z : Addr → Prop} {μ : List Addr} {H : Hp} {S : Sto}
theorem keyW_v {i : W} {k : Key} {x : V} (e : keyW i = some k) (h : VR G Z μ H i x) : x = kV k := by
  cases i <;> first | (cases e; done) | skip
  · unfold keyW at e; cases e; unfold VR at h; exact h
  · unfold keyW at e; cases e; unfold VR at h; exact h
theorem KVR.val : ∀ {kvs : List (Key × W)} {es : List (Key × V)} {k : Key}, KVR G Z μ H kvs es → (match valW kvs k with
    | some u => ∃ v, valV es k = some v ∧ VR G Z μ H u v
    | none => valV es k = none)
  | [], es, k, h => by unfold KVR at h; subst h; rfl
  | (k', w) :: kvs, es, k, h => by
    unfold KVR at h
    obtain ⟨v, r, rfl, h1, h2⟩ := h
    unfold valW
    by_cases e : k' = k
    · rw [if_pos (decide_eq_true e)]
      exact ⟨v, valV_pos e, h1⟩
    · rw [if_neg (by simpa using e), valV_neg e]
      exact KVR.val h2
theorem KVR.length : ∀ {kvs : List (Key × W)} {es : List (Key × V)}, KVR G Z μ H kvs es → es.length = kvs.length
  | [], es, h => by unfold KVR at h; subst h; rfl
  | (k', w) :: kvs, es, h => by
    unfold KVR at h
    obtain ⟨v, r, rfl, h1, h2⟩ := h
    simp [KVR.length h2]
theorem map_same : ∀ {es : List (Key × V)} {k : Key} {x : V}, valV es k = none → (es.map fun kv => if kv.1 = k then (kv.1, x) else kv) = es
  | [], _, _, _ => rfl
  | p :: r, k, x, h => by
    have hp : ¬ p.1 = k := fun e => by rw [valV_pos e] at h; cases h
    rw [valV_neg hp] at h
    rw [List.map_cons, if_neg hp, map_same h]
theorem KVR.put {u : W} {x : V} (hu : VR G Z μ H u x) : ∀ {kvs : List (Key × W)} {es : List (Key × V)} {k : Key}, ukeys kvs = true → KVR G Z μ H kvs es → KVR G Z μ H (putW kvs k u) (putK es k x)
  | [], es, k, _, h => by
    unfold KVR at h; subst h
    show KVR G Z μ H [(k, u)] [(k, x)]
    unfold KVR
    exact ⟨x, [], rfl, hu, by unfold KVR; rfl⟩
  | (k', w) :: kvs, es, k, hk, h => by
    unfold KVR at h
    obtain ⟨v, r, rfl, h1, h2⟩ := h
    unfold ukeys at hk
    obtain ⟨hk1, hk2⟩ := Bool.and_eq_true_iff.mp hk
    unfold putW
    by_cases e : k' = k
    · subst e
      rw [if_pos (decide_eq_true rfl)]
      have hn : valV r k' = none := by
        have := KVR.val (k := k') h2
        cases e2 : valW kvs k' with
        | none => rw [e2] at this; exact this
        | some z => rw [e2] at hk1; cases hk1
      have e3 : putK ((k', v) :: r) k' x = (k', x) :: r := by
        unfold putK
        rw [if_pos (by simp), List.map_cons, if_pos rfl, map_same hn]
      rw [e3]
      unfold KVR
      exact ⟨x, r, rfl, hu, h2⟩
    · rw [if_neg (by simpa using e)]
      have e3 : putK ((k', v) :: r) k x = (k', v) :: putK r k x := by
        unfold putK
        rw [List.any_cons, decide_eq_false e, Bool.false_or, List.map_cons, if_neg e]
        split <;> rfl
      rw [e3]
      unfold KVR
      exact ⟨v, _, rfl, h1, KVR.put hu hk2 h2⟩
theorem Rel.dict (r : Rel G Z μ H S) {n : Nat} {v : V} {kvs : List (Key × W)} (h : VR G Z μ H (.ref n) v) (hs : S[n]? = Option.some (.dict kvs)) : ∃ a es, v = .ref a ∧ μ[n]? = Option.some a ∧ H a = Option.some (.dK es) ∧ KVR G Z μ H kvs es := by
  unfold VR at h
  obtain ⟨a, h1, rfl⟩ := h
  obtain ⟨vs, h2, h3⟩ := r.ob n a _ h1 hs
  exact ⟨a, vs, rfl, h1, h2, h3⟩
end
section
variable {X : Cx} {G : Glo} {E : XK} {e o i : Expr} {mv mo mi : ME} {mr : MA} {pos p : Pos}
theorem em_dictN : PE X (.Dict [] [] pos) (tM G E mDictN) := pe_dnewK.weak fun σ H Q ⟨ρ, S, Z, μ, r, er, af⟩ p hp => by
  have g : Grow Z μ H (fun a => Z a ∨ a = p) (μ ++ [p]) (upd H p (.dK [])) := Grow.new hp
  refine af _ _ _ g (r.new hp ⟨rfl, rfl⟩ ⟨[], upd_same, by unfold KVR; rfl⟩) _ ?_
  unfold VR
  exact ⟨p, by rw [← r.len]; simp, rfl⟩
theorem sm_setK (hu : X.A.units + 64 < cLine) (hv : PE X e (tM G E mv)) (ho : PE X o (tM G E mo)) (hi : PE X i (tM G E mi)) (ha : ∀ v, assign (.Subscript o i p) X.env v = (do
      let ov ← holding [v] (eval o X.env)
      let iv ← holding [v, ov] (eval i X.env)
      standAt p
      holding [v, ov, iv] (setItem ov iv v)
      release [v, ov, iv] []) := by intro _; rfl) (hs : swapsWithSole [.Subscript o i p] e pos.line X.env = pure false := by rfl) (hw : swappedStores [.Subscript o i p] e X.env = pure none := by rfl)
    (h1 : (assignEach [.Subscript o i p] X.env).map (·.2) = [assign (.Subscript o i p) X.env] := by rfl) : PS X (.Assign [.Subscript o i p] e pos) (tS G E (mSetK mv mo mi)) :=
  (ps_asg hv (pg_sub ho hi (set_dict (by omega)) ha) hs hw h1).weak fun D σ H ⟨ρ, S, Z, μ, r, er, af⟩ => by
    refine ⟨ρ, S, Z, μ, r, er, Aft.imp (Aft.bind af) fun w Z1 μ1 H1 S1 _ g1 r1 a1 x hx => ?_⟩
    have er1 := er.mono r g1
    refine ⟨ρ, S1, Z1, μ1, r1, er1, Aft.imp (Aft.bind a1) fun ow Z2 μ2 H2 S2 _ g2 r2 a2 ov hov => ?_⟩
    have er2 := er1.mono r1 g2
    refine ⟨ρ, S2, Z2, μ2, r2, er2, Aft.imp (Aft.bind a2) fun iw Z3 μ3 H3 S3 _ g3 r3 a3 iv hiv => ?_⟩
    have er3 := er2.mono r2 g3
    have hx3 := (hx.mono r1 g2).mono r2 g3
    have ho3 := hov.mono r2 g3
    split at a3
    · split at a3
      · rename_i k hk
        split at a3
        · rename_i kvs hs
          split at a3
          · rename_i hl
            obtain ⟨a, es, rfl, q0, q1, q2⟩ := r3.dict ho3 hs
            have hle : es.length < sizeLine := by rw [q2.length]; exact Nat.lt_of_lt_of_le hl.1 (by decide)
            refine ⟨a, _, rfl, by rw [keyW_v hk hiv]; exact DPut.k q1 hle, ?_⟩
            have g : Grow Z3 μ3 H3 Z3 μ3 (upd H3 a (.dK (putK es k x))) := Grow.put (List.mem_of_getElem? q0)
            exact a3 _ _ _ g (r3.put q0 ⟨rfl, rfl⟩ ⟨_, upd_same, KVR.mono r3 g (q2.put hx3 hl.2)⟩) σ (er3.mono r3 g)
          · exact a3.elim
        · exact a3.elim
      · exact a3.elim
    · exact a3.elim
theorem em_dix (hu : X.A.units + 64 < cLine) (ho : PE X o (tM G E mo)) (hi : PE X i (tM G E mi)) (hs : NoSl i := by exact fun _ _ => rfl) : PE X (.Subscript o i pos) (tM G E (mBin dixW mo mi)) :=
  (pe_dget (by omega) ho hi hs).weak fun σ H Q ⟨ρ, S, Z, μ, r, er, af⟩ => by
    refine ⟨ρ, S, Z, μ, r, er, Aft.imp (Aft.bind af) fun ow Z1 μ1 H1 S1 _ g1 r1 a1 x hx => ?_⟩
    have er1 := er.mono r g1
    refine ⟨ρ, S1, Z1, μ1, r1, er1, Aft.imp (Aft.bind a1) fun iw Z2 μ2 H2 S2 _ g2 r2 a2 y hy => ?_⟩
    have hx2 := hx.mono r1 g2
    unfold dixW at a2
    split at a2
    · split at a2
      · rename_i k hk
        split at a2
        · rename_i kvs hs
          split at a2
          · rename_i u hu
            obtain ⟨a, es, rfl, q0, q1, q2⟩ := r2.dict hx2 hs
            have hv := q2.val (k := k)
            rw [hu] at hv
            obtain ⟨v, h1, h2⟩ := hv
            refine ⟨a, v, rfl, ?_, end_val r2 h2 a2⟩
            rw [keyW_v hk hy, ← h1]
            exact DGet.k q1
          · exact a2.elim
        · exact a2.elim
      · exact a2.elim
    · exact a2.elim
theorem dval_some {kvs : List (Key × W)} {es : List (Key × V)} {k : Key} {Z : Addr → Prop} {μ : List Addr} {H : Hp} (q : KVR G Z μ H kvs es) : (valV es k).isSome = (valW kvs k).isSome := by
  have hv := q.val (k := k)
  cases e : valW kvs k with
  | none => rw [e] at hv; rw [show valV es k = none from hv]; rfl
  | some u => rw [e] at hv; obtain ⟨v, h1, _⟩ := hv; rw [h1]; rfl
end
end Mo

set_option Elab.async false
set_option linter.all false
set_option maxRecDepth 100000
set_option autoImplicit false
/-! Mon14: membership, slices, lists of ranges, new lists by repetition. -/
namespace Mo
open PySem PySem.Spec L2
open PyProof.Rows hiding St

def flW : W → Option V
  | .non => some .non
  | .bl b => some (.bl b)
  | .int i => some (.int i)
  | .str x => some (.str x)
  | _ => none
def flWs : List W → Option (List V)
  | [] => some []
  | w :: ws => match flW w with
    | some v => (match flWs ws with
      | some vs => some (v :: vs)
      | none => none)
    | none => none
def anyL (S : Sto) : W → Option (List W)
  | .tup ws => some ws
  | w => itemsL S w
def inW (neg : Bool) (x y : W) (S : Sto) : R W := match flW x with
  | some a => (match anyL S y with
    | some ws => (match flWs ws with
      | some vs => .ok (.bl (if neg then !inV a vs else inV a vs)) S
      | none => .stuck)
    | none => .stuck)
  | none => .stuck
section
variable {G : Glo} {Z : Addr → Prop} {μ : List Addr} {H : Hp} {S : Sto}
theorem flW_v {w : W} {a x : V} (e : flW w = some a) (h : VR G Z μ H w x) : x = a ∧ flatV a = true := by
  cases w <;> first | (cases e; done) | (unfold flW at e; cases e; unfold VR at h; exact ⟨h, rfl⟩)
theorem flWs_v : ∀ {ws : List W} {vs xs : List V}, flWs ws = some vs → VRs G Z μ H ws xs → xs = vs ∧ vs.all flatV = true
  | [], vs, xs, e, h => by unfold flWs at e; cases e; unfold VRs at h; subst h; exact ⟨rfl, rfl⟩
  | w :: ws, vs, xs, e, h => by
    unfold VRs at h
    obtain ⟨v, r, rfl, h1, h2⟩ := h
    unfold flWs at e
    cases e1 : flW w with
    | none => rw [e1] at e; cases e
    | some a =>
      rw [e1] at e
      cases e2 : flWs ws with
      | none => rw [e2] at e; cases e
      | some as =>
        rw [e2] at e; cases e
        obtain ⟨k1, k2⟩ := flW_v e1 h1
        obtain ⟨k3, k4⟩ := flWs_v e2 h2
        exact ⟨by rw [k1, k3], by rw [List.all_cons, k2, k4]; rfl⟩
theorem anyL_ok (r : Rel G Z μ H S) {w : W} {ws : List W} {v : V} (e : anyL S w = some ws) (h : VR G Z μ H w v) : ∃ a vs, v = .ref a ∧ (SqL G.K H a vs ∨ SqT G.K H a vs) ∧ VRs G Z μ H ws vs := by
  unfold anyL at e
  split at e
  · cases e
    obtain ⟨a, vs, rfl, q1, q2⟩ := i_tup h
    exact ⟨a, vs, rfl, .inr (.inl (.inl q1)), q2⟩
  · obtain ⟨a, vs, rfl, q1, q2⟩ := itemsL_ok r e h
    exact ⟨a, vs, rfl, .inl q1, q2⟩
end
section
variable {X : Cx} {G : Glo} {E : XK} {a b e o i : Expr} {ma mb mo mi : ME} {mr : MA} {pos p p2 pos2 : Pos}
theorem o_in_ (hK : X.K = G.K) {neg : Bool} {F : Value → Value → Sem Value} (h : OpR X F (rIn X.K neg)) : OpR X F (rM G E (inW neg)) := by
  intro pins s σ H x y v u Q I rx ry ⟨w1, w2, S, Z, μ, r, h1, h2, af⟩
  unfold inW at af
  split at af
  · rename_i a e1
    split at af
    · rename_i ws e2
      split at af
      · rename_i vs e3
        obtain ⟨rfl, f1⟩ := flW_v e1 h1
        obtain ⟨p, xs, rfl, q1, q2⟩ := anyL_ok r e2 h2
        obtain ⟨rfl, f2⟩ := flWs_v e3 q2
        exact h pins s σ H _ _ v u Q I rx ry ⟨p, _, rfl, by rw [hK]; exact q1, f1, f2, end_val r (vr_bl _ _ _) af⟩
      · exact af.elim
    · exact af.elim
  · exact af.elim
theorem o_in (hK : X.K = G.K) : OpR X (compareOp .In) (rM G E (inW false)) := o_in_ hK op_in_seq
theorem o_nin (hK : X.K = G.K) : OpR X (compareOp .NotIn) (rM G E (inW true)) := o_in_ hK op_notIn_seq
/-! ### k in d -/
theorem din_reads {σ : L2.St} {H : Hp} {Q : VK} {neg : Bool} (h : tM G E (mBin (dinW neg) mi mo) σ H Q) : tM G E mi σ H fun y H1 => tM G E mo σ H1 fun x H2 => ∃ a o, x = .ref a ∧ DGet H2 a y o ∧ Q (.bl (if neg then !o.isSome else o.isSome)) H2 := by
  obtain ⟨ρ, S, Z, μ, r, er, af⟩ := h
  refine ⟨ρ, S, Z, μ, r, er, Aft.imp (Aft.bind af) fun iw Z1 μ1 H1 S1 _ g1 r1 a1 y hy => ?_⟩
  have er1 := er.mono r g1
  refine ⟨ρ, S1, Z1, μ1, r1, er1, Aft.imp (Aft.bind a1) fun ow Z2 μ2 H2 S2 _ g2 r2 a2 x hx => ?_⟩
  have hy2 := hy.mono r1 g2
  unfold dinW at a2
  split at a2
  · split at a2
    · rename_i k hk
      split at a2
      · rename_i kvs hs
        obtain ⟨a, es, rfl, q0, q1, q2⟩ := r2.dict hx hs
        refine ⟨a, valV es k, rfl, ?_, ?_⟩
        · rw [keyW_v hk hy2]; exact DGet.k q1
        · rw [dval_some q2]; exact end_val r2 (vr_bl _ _ _) a2
      · exact a2.elim
    · exact a2.elim
  · exact a2.elim
theorem em_din (hu : X.A.units + 64 < cLine) (hi : PE X i (tM G E mi)) (ho : PE X o (tM G E mo)) (h1 : behindInMarks .In o = false := by first | exact nomark _ | rfl) : PE X (.Compare i [.In] [o] pos) (tM G E (mBin (dinW false) mi mo)) :=
  (pe_cmp (pc_din (by omega) hi ho) h1).weak fun σ H Q h => din_reads h
theorem em_dnin (hu : X.A.units + 64 < cLine) (hi : PE X i (tM G E mi)) (ho : PE X o (tM G E mo)) (h1 : behindInMarks .NotIn o = false := by first | exact nomark _ | rfl) : PE X (.Compare i [.NotIn] [o] pos) (tM G E (mBin (dinW true) mi mo)) :=
  (pe_cmp (pc_dnotin (by omega) hi ho) h1).weak fun σ H Q h => din_reads h
theorem isT_reads {σ : L2.St} {H : Hp} {Q : Bool → Hp → Prop} (h : tMT G E (mIsT ma) σ H Q) : tM G E ma σ H fun x H' => ∃ k, x = .bl k ∧ Q k H' := by
  obtain ⟨ρ, S, Z, μ, r, er, af⟩ := h
  exact ⟨ρ, S, Z, μ, r, er, Aft.imp (Aft.bind af) fun w Z1 μ1 H1 S1 _ g1 r1 a1 x hx => by
    cases w with
    | bl k => exact ⟨k, vr_bl_of hx, Aft.here (E := E) (P := PB Q) r1 a1⟩
    | _ => exact a1.elim⟩
theorem tm_din (hu : X.A.units + 64 < cLine) (hi : PE X i (tM G E mi)) (ho : PE X o (tM G E mo)) (h1 : behindInMarks .In o = false := by first | exact nomark _ | rfl) : PT X (.Compare i [.In] [o] pos) (tMT G E (mIsT (mBin (dinW false) mi mo))) :=
  (pt_cmp (pc_din (by omega) hi ho) h1).weak fun σ H Q h => din_reads (isT_reads h)
theorem tm_dnin (hu : X.A.units + 64 < cLine) (hi : PE X i (tM G E mi)) (ho : PE X o (tM G E mo)) (h1 : behindInMarks .NotIn o = false := by first | exact nomark _ | rfl) : PT X (.Compare i [.NotIn] [o] pos) (tMT G E (mIsT (mBin (dinW true) mi mo))) :=
  (pt_cmp (pc_dnotin (by omega) hi ho) h1).weak fun σ H Q h => din_reads (isT_reads h)
/-! ### list(range(n)) -/
def lrngW (ws : List W) (S : Sto) : R W := match ws with
  | [.int j] => if j < 100000 ∧ -100000 < j then .ok (.lst (rangeW 0 j.toNat)) S else .stuck
  | _ => .stuck
def lrngN (ws : List W) (S : Sto) : R W := match ws with
  | [.int j] => if j < 100000 ∧ -100000 < j then .ok (.ref S.length) (S ++ [.lst (rangeW 0 j.toNat)]) else .stuck
  | _ => .stuck
def lrng2W (ws : List W) (S : Sto) : R W := match ws with
  | [.int i, .int j] => if j < 100000 ∧ -100000 < j ∧ i < 100000 ∧ -100000 < i then .ok (.lst (rangeW i (j - i).toNat)) S else .stuck
  | _ => .stuck
theorem rangeW_v {Z : Addr → Prop} {μ : List Addr} {H : Hp} : ∀ (n : Nat) (lo : Int), VRs G Z μ H (rangeW lo n) ((List.range n).map fun i => V.int (lo + (i : Nat)))
  | 0, _ => VRs.nil
  | n + 1, lo => by
    rw [List.range_succ_eq_map, List.map_cons, List.map_map]
    unfold rangeW
    refine VRs.cons (by unfold VR; simp) ?_
    have h := rangeW_v (Z := Z) (μ := μ) (H := H) n (lo + 1)
    have e : (fun i : Nat => V.int (lo + 1 + (i : Nat))) = ((fun i : Nat => V.int (lo + (i : Nat))) ∘ Nat.succ) := by
      funext i
      show V.int _ = V.int _
      congr 1
      push_cast
      omega
    rw [← e]
    exact h
theorem em_lrng {q pos' : Pos} (hm : X.mg "list" = none) (hm2 : X.mg "range" = none) (ha : PE X a (tM G E ma)) (hc : X.calm = true := by rfl) (hg : Gl X "list" := by rfl) (hg2 : Gl X "range" := by rfl) (na : starEach [a] X.env = (false, eval a X.env) :: starEach [] X.env := by rfl)
    (nb : starEach [.Call (.Name "range" q) [a] [] pos'] X.env = (false, eval (.Call (.Name "range" q) [a] [] pos') X.env) :: starEach [] X.env := by rfl) :
    PE X (.Call (.Name "list" p) [.Call (.Name "range" q) [a] [] pos'] [] pos) (tM G E (mAp lrngW (mCons ma mNil))) :=
  (pe_listRg hc hg hm (prg_1 hg2 hm2 ha na) nb).weak fun σ H Q ⟨ρ, S, Z, μ, r, er, af⟩ => by
    have h := Aft.bind af
    unfold mCons at h
    refine ⟨ρ, S, Z, μ, r, er, Aft.imp (Aft.bind h) fun w Z1 μ1 H1 S1 _ g1 r1 a1 x hx => ?_⟩
    have a2 := Aft.here (E := E) r1 a1
    unfold lrngW at a2
    split at a2
    · rename_i j he
      have e1 : w = .int j := by cases he; rfl
      subst e1
      split at a2
      · rename_i hj
        refine ⟨j, i_int hx, ⟨by omega, by omega, by omega, by omega, by omega⟩, end_lst r1 ?_ a2⟩
        have := rangeW_v (G := G) (Z := Z1) (μ := μ1) (H := H1) j.toNat 0
        unfold rgV
        rw [Int.sub_zero]
        exact this
      · exact a2.elim
    · exact a2.elim
theorem em_lrngN {q pos' : Pos} (hm : X.mg "list" = none) (hm2 : X.mg "range" = none) (ha : PE X a (tM G E ma)) (hc : X.calm = true := by rfl) (hg : Gl X "list" := by rfl) (hg2 : Gl X "range" := by rfl) (na : starEach [a] X.env = (false, eval a X.env) :: starEach [] X.env := by rfl)
    (nb : starEach [.Call (.Name "range" q) [a] [] pos'] X.env = (false, eval (.Call (.Name "range" q) [a] [] pos') X.env) :: starEach [] X.env := by rfl) :
    PE X (.Call (.Name "list" p) [.Call (.Name "range" q) [a] [] pos'] [] pos) (tM G E (mAp lrngN (mCons ma mNil))) :=
  (pe_listRg hc hg hm (prg_1 hg2 hm2 ha na) nb).weak fun σ H Q ⟨ρ, S, Z, μ, r, er, af⟩ => by
    have h := Aft.bind af
    unfold mCons at h
    refine ⟨ρ, S, Z, μ, r, er, Aft.imp (Aft.bind h) fun w Z1 μ1 H1 S1 _ g1 r1 a1 x hx => ?_⟩
    have a2 := Aft.here (E := E) r1 a1
    unfold lrngN at a2
    split at a2
    · rename_i j he
      have e1 : w = .int j := by cases he; rfl
      subst e1
      split at a2
      · rename_i hj
        refine ⟨j, i_int hx, ⟨by omega, by omega, by omega, by omega, by omega⟩, end_new r1 ?_ a2⟩
        have := rangeW_v (G := G) (Z := Z1) (μ := μ1) (H := H1) j.toNat 0
        unfold rgV
        rw [Int.sub_zero]
        exact this
      · exact a2.elim
    · exact a2.elim
/-! ### a list by repetition, kept -/
def mulN (x y : W) (S : Sto) : R W := match x with
  | .lst a => (match y with | .int k => if decide (-100000 < k) && decide (k < 100000) && decide (a.length * k.toNat ≤ 100000) then .ok (.ref S.length) (S ++ [.lst (repL k.toNat a)]) else .stuck | _ => .stuck)
  | _ => .stuck
theorem o_mulN : OpR X (binaryOp .Mult) (rM G E mulN) := by
  intro pins s σ H x y v u Q I rx ry ⟨w1, w2, S, Z, μ, r, h1, h2, af⟩
  unfold mulN at af
  split at af
  · split at af
    · split at af
      · rename_i hs
        simp only [Bool.and_eq_true, decide_eq_true_eq] at hs
        obtain ⟨a, vs, rfl, q1, _, q2⟩ := i_lst h1
        exact op_rep pins s σ H _ _ v u Q I rx ry ⟨a, _, vs, rfl, i_int h2, q1, by omega, by omega, by rw [q2.length]; exact Nat.le_trans hs.2 (by decide), end_new r (q2.rep _) af⟩
      · exact af.elim
    · exact af.elim
  · exact af.elim
/-! ### slices x[lo:], x[lo:hi], x[:hi] -/
def sixN (n d : Nat) : Option Int → Nat
  | none => d
  | some v => if v < 0 then (v + (n : Int)).toNat else min v.toNat n
def cutL {α : Type} (xs : List α) (lo hi : Option Int) : List α := (xs.drop (sixN xs.length 0 lo)).take (sixN xs.length xs.length hi - sixN xs.length 0 lo)
def partM (m : Option ME) (ρ : Env') (S : Sto) : R (Option Int) := match m with
  | none => .ok none S
  | some f => (f ρ S).bind fun w S1 => match w with
    | .int i => .ok (some i) S1
    | _ => .stuck
def slcW (x : W) (lo hi : Option Int) (S : Sto) : R W := match x with
  | .tup ws => .ok (.tup (cutL ws lo hi)) S
  | x => (match itemsL S x with
    | some ws => .ok (.lst (cutL ws lo hi)) S
    | none => .stuck)
theorem tm_stuck {c : Expr} : PT X c (tMT G E (mIsT mStuck)) := ⟨fun pins s σ H Q I ⟨ρ, S, Z, μ, r, er, af⟩ => af.elim⟩
theorem sixN_eq (n d : Nat) (v : Option Int) : HT.sIx n d v = sixN n d v := by cases v <;> rfl
theorem cut_vrs {Z : Addr → Prop} {μ : List Addr} {H : Hp} {ws : List W} {vs : List V} {lo hi : Option Int} (h : VRs G Z μ H ws vs) : VRs G Z μ H (cutL ws lo hi) (cutV vs lo hi) := by
  unfold cutL cutV
  rw [sixN_eq, sixN_eq, h.length]
  exact (h.drop _).take _
def mSlc (mo : ME) (ml mh : Option ME) : ME := fun ρ S => (mo ρ S).bind fun x S1 => (partM ml ρ S1).bind fun lo S2 => (partM mh ρ S2).bind fun hi S3 => slcW x lo hi S3
/-- a part of a slice -/
def tPM (G : Glo) (E : XK) (m : Option ME) : TO := fun σ H Q => ∃ ρ S Z μ, Rel G Z μ H S ∧ ER G Z μ H ρ σ ∧ Aft G E Z μ H (partM m ρ S) (fun o _ _ H' _ => Q o H')
theorem pm_none : PO X none (tPM G E none) := by
  refine ⟨fun pins s σ H Q I ⟨ρ, S, Z, μ, r, er, af⟩ => po_none.run pins s σ H Q I ?_⟩
  exact Aft.here (E := E) (P := fun o _ _ H' _ => Q o H') r af
theorem pm_some (h : PE X e (tM G E ma)) : PO X (some e) (tPM G E (some ma)) := by
  refine ⟨fun pins s σ H Q I ⟨ρ, S, Z, μ, r, er, af⟩ => (po_some h).run pins s σ H Q I ?_⟩
  unfold partM at af
  refine ⟨ρ, S, Z, μ, r, er, Aft.imp (Aft.bind af) fun w Z1 μ1 H1 S1 _ g1 r1 a1 x hx => ?_⟩
  split at a1
  · exact ⟨_, i_int hx, Aft.here (E := E) (P := fun o _ _ H' _ => Q o H') r1 a1⟩
  · exact a1.elim
def rSlM (K : PySem.W.Frag) : V → Option Int → Option Int → Hp → VK → Prop := fun x lo hi H Q => rSlL K x lo hi H Q ∨ rSlA K x lo hi H Q
theorem sl_any : SlR X (rSlM X.K) := by
  intro pins s σ H x v vl vu lo hi sl Q I rx hs pl pu h
  rcases h with h | h
  · exact sl_list pins s σ H x v vl vu lo hi sl Q I rx hs pl pu h
  · exact sl_tupA pins s σ H x v vl vu lo hi sl Q I rx hs pl pu h
theorem cut_whole {α : Type} {ws : List α} {lo hi : Option Int} (h : sixN ws.length 0 lo = 0 ∧ sixN ws.length ws.length hi = ws.length) : cutL ws lo hi = ws := by
  unfold cutL
  rw [h.1, h.2]
  simp
theorem em_slc (hK : X.K = G.K) {lo hi : Option Expr} {ml mh : Option ME} (ho : PE X o (tM G E mo)) (hl : PO X lo (tPM G E ml)) (hh : PO X hi (tPM G E mh)) : PE X (.Subscript o (.Slice lo hi none p2) pos) (tM G E (mSlc mo ml mh)) :=
  (pe_slice sl_any ho hl hh).weak fun σ H Q ⟨ρ, S, Z, μ, r, er, af⟩ => by
    refine ⟨ρ, S, Z, μ, r, er, Aft.imp (Aft.bind af) fun ow Z1 μ1 H1 S1 _ g1 r1 a1 x hx => ?_⟩
    have er1 := er.mono r g1
    refine ⟨ρ, S1, Z1, μ1, r1, er1, Aft.imp (Aft.bind a1) fun l Z2 μ2 H2 S2 _ g2 r2 a2 => ?_⟩
    refine ⟨ρ, S2, Z2, μ2, r2, er1.mono r1 g2, Aft.imp (Aft.bind a2) fun u Z3 μ3 H3 S3 _ g3 r3 a3 => ?_⟩
    have hx3 := (hx.mono r1 g2).mono r2 g3
    unfold slcW at a3
    split at a3
    · rename_i ws
      obtain ⟨a, vs, rfl, q1, q2⟩ := i_tup hx3
      refine .inr ⟨a, vs, rfl, .inl (.inl q1), fun hw => ?_, fun _ => end_tup r3 (cut_vrs q2) a3⟩
      rw [sixN_eq, sixN_eq, q2.length] at hw
      rw [cut_whole hw] at a3
      exact end_val r3 hx3 a3
    · split at a3
      · rename_i ws hi'
        obtain ⟨a, vs, rfl, q1, q2⟩ := itemsL_ok r3 hi' hx3
        exact .inl ⟨a, vs, rfl, by rw [hK]; exact q1, end_lst r3 (cut_vrs q2) a3⟩
      · exact a3.elim
end
end Mo

set_option Elab.async false
set_option linter.all false
set_option maxRecDepth 100000
set_option autoImplicit false
/-! Mon15: enumerate and zip over lists and tuples, mixed. -/
namespace Mo
open PySem PySem.Spec L2
open PyProof.Rows hiding St

def SqB (t : Bool) (K : PySem.W.Frag) (H : Hp) (a : Addr) (xs : List V) : Prop := if t then SqT K H a xs else SqL K H a xs
def IsB (t : Bool) (h : Heap) (a : Addr) (its : Array Value) : Prop := if t then h.IsTuple a its else h.IsList a its
def ItB (t : Bool) (h : Heap) (it a : Addr) (i : Nat) : Prop := if t then h.IsTupleIter it a i else h.IsListIter it a i
section
variable {X : Cx} {pins : List (Addr × Obj)} {σ : L2.St} {H : Hp} {s : Shared} {t : Bool} {a : Addr} {xs ys : List V} {h h' : Heap} {it : Addr} {i : Nat} {its : Array Value}
theorem SqB.at_ (I : Inv X pins σ H s) (q : SqB t X.K H a xs) : ∃ us : List Value, Vals xs us ∧ IsB t s.heap a us.toArray := by
  cases t
  · obtain ⟨us, rv, p, _⟩ := I.list (show SqL X.K H a xs from q)
    exact ⟨us, rv, p.isList⟩
  · obtain ⟨us, rv, p, _⟩ := I.tuple (show SqT X.K H a xs from q)
    exact ⟨us, rv, p⟩
theorem SqB.inj (I : Inv X pins σ H s) (q : SqB t X.K H a xs) (q' : SqB t X.K H a ys) : xs = ys := by
  cases t
  · exact I.list_inj (show SqL X.K H a xs from q) q'
  · exact I.tuple_inj (show SqT X.K H a xs from q) q'
theorem ItB.obj (p : ItB t h it a i) : ∃ o, h.get? it = some o ∧ o.cls = .type (if t then "tuple_iterator" else "list_iterator") ∧ ∀ v, o.data ≠ .cell v := by
  cases t
  · obtain ⟨o, h1, h2, h3⟩ := (show h.IsListIter it a i from p)
    exact ⟨o, h1, h2, fun v z => by rw [h3] at z; cases z⟩
  · obtain ⟨o, h1, h2, h3⟩ := (show h.IsTupleIter it a i from p)
    exact ⟨o, h1, h2, fun v z => by rw [h3] at z; cases z⟩
theorem ItB.at_ (p : ItB t h it a i) (k : ∀ o, h.get? it = some o → h'.get? it = some o) : ItB t h' it a i := by
  cases t
  · exact (show h.IsListIter it a i from p).at k
  · exact (show h.IsTupleIter it a i from p).at k
theorem IsB.obj (p : IsB t h a its) : ∃ o, h.get? a = some o ∧ o.cls = .type (if t then "tuple" else "list") := by
  cases t
  · obtain ⟨o, h1, h2, _⟩ := (show h.IsList a its from p)
    exact ⟨o, h1, h2⟩
  · obtain ⟨o, h1, h2, _⟩ := (show h.IsTuple a its from p)
    exact ⟨o, h1, h2⟩
theorem IsB.ne_it (p : IsB t h a its) {t' : Bool} {b : Addr} (q : ItB t' h it b i) : a ≠ it := fun e => by
  obtain ⟨o, h1, h2⟩ := p.obj
  obtain ⟨o', h3, h4, _⟩ := q.obj
  rw [e, h3] at h1
  cases h1
  rw [h2] at h4
  have h5 := Value.type.inj h4
  revert h5
  cases t <;> cases t' <;> decide
theorem drawsB {prog : Program} {w : World} {A : Around} (hh : A.handled = none) (hne : a ≠ it) : Draws prog w A it [it, a] its.size (fun i v => its[i]? = some v) (fun i h => ItB t h it a i ∧ IsB t h a its) := by
  cases t
  · exact Draws.list hh it a hne its
  · exact Draws.tuple hh it a hne its
def objB (t : Bool) (a : Addr) : Obj := if t then { cls := .type "tuple_iterator", data := .fields #[.ref a, .int 0 0] } else { cls := .type "list_iterator", data := .fields #[.ref a, .int 0 0] }
theorem beginsB : Begins (.ref a) (objB t a) fun h => IsB t h a its := by
  cases t
  · exact begins_list a its
  · exact begins_tuple a its
theorem itB_new (p : h.get? it = some (objB t a)) : ItB t h it a 0 := by
  cases t
  · exact ⟨_, p, rfl, rfl⟩
  · exact ⟨_, p, rfl, rfl⟩
end
/-! ### enumerate -/
open Sem (wp) in
theorem meets_enum1B {v : Value} {o : Obj} {H : Heap → Prop} (B : Begins v o H) :
    Meets (Builtin.«enumerate.__new__» ⟨[.type "enumerate", v], []⟩) (fun _ R s => H s.heap ∧
      R (.ok (.ret (.ref (s.heap.push o).objs.size))) { s with heap := (s.heap.push o).push { cls := .type "enumerate", data := .fields #[.none, .bool false, .ref s.heap.objs.size, rawInt 0, .none, .none] } }) :=
  .of_wp fun prog w A R s h => by
    obtain ⟨hp, g, d, tk, os⟩ := s; obtain ⟨h1, h⟩ := h
    have hsub := sub_enumerate
    have q1 : ∀ {A' : Around} {E : Value → Shared → Prop} {Q : Value → Shared → Prop}, Q (.ref hp.objs.size) ⟨hp.push o, g, d, tk, os⟩ → wpAny (model prog w) A' (pyIter v) Q E ⟨hp, g, d, tk, os⟩ :=
      fun q => B.iter prog w _ _ ⟨hp, g, d, tk, os⟩ _ h1 q
    wp_walk using q1
    refine wpAny_stack_any fun st => wpAny_pure ?_
    split
    · rename_i c _ _ _ _ _
      cases (c == Value.type "enumerate")
      · wp_walk using q1
        exact ⟨_, rfl, h⟩
      · wp_walk using q1
        exact ⟨_, rfl, h⟩
    · wp_walk using q1
      exact ⟨_, rfl, h⟩
theorem call_enumB {prog : Program} {w : World} {A : Around} {E : Value → Shared → Prop} {s : Shared} {v : Value} {o : Obj} {H : Heap → Prop} {Q : Value → Shared → Prop} (B : Begins v o H) (h1 : H s.heap)
    (h : ∀ h', IsEnum h' (s.heap.objs.size + 1) s.heap.objs.size 0 .none → h'.get? s.heap.objs.size = some o → h'.objs.size = s.heap.objs.size + 2 →
      (∀ b o, s.heap.get? b = some o → h'.get? b = some o) → Q (.ref (s.heap.objs.size + 1)) { s with heap := h' }) :
    wpAny (model prog w) A (call (.type "enumerate") [v]) Q E s := by
  refine callType_new F.called_enumerate (by decide) (F.typeCall_enumerate_1 _) (F.newCall_enumerate_1 _) (fun obj => F.args_object_init_2 obj _) F.entry_enumerate_new (meets_enum1B B) ⟨h1, ?_⟩
  have hz : (s.heap.push o).objs.size = s.heap.objs.size + 1 := Heap.size_push ..
  show _ ∧ _
  rw [hz]
  have he : IsEnum ((s.heap.push o).push { cls := .type "enumerate", data := .fields #[.none, .bool false, .ref s.heap.objs.size, rawInt 0, .none, .none] }) (s.heap.objs.size + 1) s.heap.objs.size 0 .none := by
    have e1 := Heap.get?_push_size (s.heap.push o) (o := { cls := .type "enumerate", data := .fields #[.none, .bool false, .ref s.heap.objs.size, rawInt 0, .none, .none] }) rfl
    rw [hz] at e1; exact e1
  exact ⟨⟨_, he, rfl⟩, h _ he (Heap.get?_push_of_some _ (Heap.get?_push_size _ B.free)) (by rw [Heap.size_push, hz]) fun b o x => Heap.get?_push_of_some _ (Heap.get?_push_of_some _ x)⟩
def IteB (t : Bool) (K : PySem.W.Frag) (a : Addr) : It :=
  ⟨fun i H => ∃ (xs : List V) (x : V), SqB t K H a xs ∧ xs[i]? = some x, fun i H v H' => ∃ T x, v = .ref T ∧ H T = none ∧ H' = upd H T (.tup [.int (i : Nat), x]) ∧ ∀ xs, SqB t K H a xs → xs[i]? = some x, fun i H => ∃ xs : List V, SqB t K H a xs ∧ xs.length = i⟩
theorem turn_enumB {P : Program} {w : World} {K : PySem.W.Frag} {elts : List Expr} {kk : Nat} {tpos : Pos} (t : Bool) (a e it : Addr) :
    Turn P w K (.Tuple elts kk tpos) (IteB t K a) [e, it] e (fun i h => (∃ old, IsEnum h e it ((i : Nat) : Int) old) ∧ ItB t h it a i ∧ e ≠ it) where
  mem := by simp
  obj := fun i h st b hb => by
    obtain ⟨⟨old, he⟩, hi, _⟩ := st
    obtain ⟨o, h1, _, h3⟩ := hi.obj
    have e' : b = e ∨ b = it := by simpa using hb
    rcases e' with z | z
    · rw [z]; exact ⟨_, he, fun v q => nomatch q⟩
    · rw [z]; exact ⟨o, h1, h3⟩
  keep := fun i h h' st k => let ⟨⟨old, he⟩, hi, hne⟩ := st; ⟨⟨old, k e (by simp) _ he⟩, hi.at_ fun o q => k it (by simp) o q, hne⟩
  item := by
    intro X hP hw hK hc i pins s σ H E I hf st hg
    subst hP hw hK
    obtain ⟨⟨old, he⟩, hit, hne⟩ := st
    obtain ⟨xs, x, hq, hx⟩ := hg
    obtain ⟨us, rv, p⟩ := hq.at_ I
    obtain ⟨u, hu, ru⟩ := rv.get hx
    have hel : e < s.heap.objs.size := Heap.lt_size he
    have hil : it < s.heap.objs.size := by obtain ⟨_, q, _⟩ := hit.obj; exact Heap.lt_size q
    have hai : a ≠ it := p.ne_it hit
    have hea : e ≠ a := fun z => by
      obtain ⟨o, h1, h2⟩ := p.obj
      rw [← z] at h1
      have h3 := h1.symm.trans he
      have h4 : o.cls = .type "enumerate" := by rw [Option.some.inj h3]
      have h5 := Value.type.inj (h2.symm.trans h4)
      revert h5
      cases t <;> decide
    have hlt : i < us.toArray.size := by
      have := (List.getElem?_eq_some_iff.mp hu).1
      simpa using this
    refine wpAny_pyNext_enum_itemD (drawsB (t := t) (A := X.A.in1) (by exact I.ok.hd hc) hai) he ⟨hit, p⟩ hlt hne (by simp [hne, hea]) fun y h' tk hP ho st' hT hsz hk => ?_
    have ey : y = u := by
      have hP' : us.toArray[i]? = some y := hP
      rw [List.getElem?_toArray] at hP'
      rw [hu] at hP'
      exact (Option.some.inj hP').symm
    subst ey
    refine ⟨_, rfl, wpAny_letOwnedTupleGo_enum (s := { s with heap := h', toks := tk + 1 }) ho fun h'' he' sb => ?_⟩
    have hT2 : h''.get? s.heap.objs.size = some { cls := .type "tuple", data := .seq #[.int i tk, y] } := (sb.2 _ (Nat.ne_of_gt hel)).trans hT
    have new : ObjOk X.prog X.w (upd H s.heap.objs.size (.tup [.int (i : Nat), x])) h'' s.heap.objs.size (.tup [.int (i : Nat), x]) :=
      ⟨by show 2 ≤ sizeLine; decide, [.int i tk, y], .cons ⟨_, rfl⟩ (.cons ru .nil), ⟨_, hT2, rfl, _, rfl⟩⟩
    have I1 : Inv X pins σ (upd H s.heap.objs.size (.tup [.int (i : Nat), x])) { s with heap := h'', toks := tk + 1 } :=
      I.turnedNew (ch := [e, it]) (fun b ob hb q => (sb.2 b (fun z => hb (by simp [z]))).trans (hk b ob (fun z => hb (by simp [z])) (fun z => hb (by simp [z])) q)) hf (Nat.le_refl _) new
    refine ⟨.ref s.heap.objs.size, _, I1, rfl, ⟨_, x, rfl, I.hok.fresh (Nat.le_refl _), rfl, fun ys hy => by rw [hy.inj I hq]; exact hx⟩, ⟨⟨y, ?_⟩, st'.1.at_ fun o q => (sb.2 it (Ne.symm hne)).trans q, hne⟩, fun b hb => ?_⟩
    · have e1 : ((i + 1 : Nat) : Int) = (i : Int) + 1 := by omega
      rw [e1]; exact he'
    · have hb' : b < s.heap.objs.size := by
        have e' : b = e ∨ b = it := by simpa using hb
        rcases e' with z | z
        · rw [z]; exact hel
        · rw [z]; exact hil
      rw [upd_ne (Nat.ne_of_lt hb')]
      exact (hf b hb).1
  done := by
    intro X hP hw hK hc i pins s σ H E I hf st hg
    subst hP hw hK
    obtain ⟨⟨old, he⟩, hit, hne⟩ := st
    obtain ⟨xs, hq, hx⟩ := hg
    obtain ⟨us, rv, p⟩ := hq.at_ I
    obtain ⟨f0, f1, f2, f3, f4, f5⟩ := hf it (by simp)
    have hl := rv.length
    have hai : a ≠ it := p.ne_it hit
    have hn : us.toArray.size = i := by simp; omega
    exact wpAny_pyNext_enum_endD (drawsB (t := t) (its := us.toArray) (A := X.A.in1) (by exact I.ok.hd hc) hai) he ⟨by rw [hn]; exact hit, p⟩ fun h' eb => ⟨rfl, I.turned (t' := s.toks) (fun b o hb q => eb b o hb q) f0 f1 f3 f4 f5⟩
  self := fun A i s Q E st h => let ⟨⟨_, he⟩, _⟩ := st; wpAny_pyIter_enum he h
def iEnumB (K : PySem.W.Frag) (ta : TA) : TI := fun σ H R => ta σ H fun vs H1 => ∃ (t : Bool) (a : Addr) (xs : List V), vs = [.ref a] ∧ SqB t K H1 a xs ∧ R (IteB t K a) H1
theorem pi_enumB {X : Cx} {e : Expr} {ta : TA} {p pos tpos : Pos} {elts : List Expr} {kk : Nat} (hg : Gl X "enumerate") (hm : X.mg "enumerate" = none) (ha : PA X [e] ta) (hs : starEach [e] X.env = [(false, eval e X.env)] := by rfl) :
    PI X (.Tuple elts kk tpos) (.Call (.Name "enumerate" p) [e] [] pos) (iEnumB X.K ta) := by
  refine ⟨fun pins s σ H R I h => ?_⟩
  refine Call_ (ld_blt I hg hm boot_enumerate (PyProof.Rows.callWith_type1 (thn (ha.run pos pins s σ H _ I h) fun us s1 ⟨vs, H1, I1, r1, q1⟩ => ?_) hs rfl))
  obtain ⟨t, a, xs, ex, hq, q⟩ := q1
  subst ex
  cases r1 with
  | cons r rr =>
    cases rr
    cases r
    obtain ⟨its, rv, p'⟩ := hq.at_ I1
    have fin : ∀ h' : Heap, IsEnum h' (s1.heap.objs.size + 1) s1.heap.objs.size 0 .none → ItB t h' s1.heap.objs.size a 0 → (∀ b o, s1.heap.get? b = some o → h'.get? b = some o) → wpAny (model X.prog X.w) X.A (pyIter (.ref (s1.heap.objs.size + 1))) (PIE X pins σ (.Tuple elts kk tpos) R) X.xe { s1 with heap := h' } := fun h' he hit hk => by
      refine wpAny_pyIter_enum he ?_
      have I2 : Inv X pins σ H1 { s1 with heap := h' } := I1.kept (t' := s1.toks) hk
      refine ⟨s1.heap.objs.size + 1, [s1.heap.objs.size + 1, s1.heap.objs.size], _, _, H1, rfl, I2, turn_enumB t a (s1.heap.objs.size + 1) s1.heap.objs.size, ⟨⟨.none, he⟩, hit, Nat.succ_ne_self _⟩, fun b hb => ?_, q⟩
      have e' : b = s1.heap.objs.size + 1 ∨ b = s1.heap.objs.size := by simpa using hb
      have hle : s1.heap.objs.size ≤ b := by
        rcases e' with z | z
        · rw [z]; exact Nat.le_add_right _ _
        · rw [z]; exact Nat.le_refl _
      exact I1.fpOk hle (I1.hok.fresh hle)
    exact call_enumB (beginsB (t := t)) p' fun h' he ho hsz hk => fin h' he (itB_new ho) hk
def enumL : Nat → List W → List W
  | _, [] => []
  | i, w :: ws => .tup [.int i, w] :: enumL (i + 1) ws
def mEnum (r : MA) : MI := fun ρ S => (r ρ S).bind fun ws S1 => match ws with
  | [.tup xs] => .ok ⟨enumL 0 xs, none⟩ S1
  | [.lst xs] => .ok ⟨enumL 0 xs, none⟩ S1
  | _ => .stuck
theorem enumL_get : ∀ (xs : List W) (k i : Nat) (w : W), (enumL k xs)[i]? = some w → ∃ x, xs[i]? = some x ∧ w = .tup [.int (k + i : Nat), x]
  | [], k, i, w, h => by unfold enumL at h; simp at h
  | x :: xs, k, 0, w, h => by unfold enumL at h; simp at h; exact ⟨x, rfl, h.symm⟩
  | x :: xs, k, i + 1, w, h => by
    unfold enumL at h
    have h' : (enumL (k + 1) xs)[i]? = some w := by simpa using h
    obtain ⟨y, h1, h2⟩ := enumL_get xs (k + 1) i w h'
    exact ⟨y, by simpa using h1, by rw [h2]; congr 3; omega⟩
theorem enumL_len : ∀ (xs : List W) (k : Nat), (enumL k xs).length = xs.length
  | [], _ => rfl
  | x :: xs, k => by unfold enumL; simp [enumL_len xs]
section
variable {X : Cx} {G : Glo} {E : XK} {e e2 : Expr} {mr : MA} {pos p tpos : Pos} {elts : List Expr} {kk : Nat}
/-- what stands still: a tuple, a frozen list -/
structure Stl (G : Glo) (t : Bool) (Z : Addr → Prop) (μ : List Addr) (H : Hp) (a : Addr) (ws : List W) (xs : List V) : Prop where
  q : ∀ (Z' : Addr → Prop) (μ' : List Addr) (H' : Hp) (S' : Sto), Grow Z μ H Z' μ' H' → Rel G Z' μ' H' S' → SqB t G.K H' a xs
  k : VRs G Z μ H ws xs
theorem stl_tup {Z : Addr → Prop} {μ : List Addr} {H : Hp} {S : Sto} {ws : List W} {v : V} (r : Rel G Z μ H S) (h : VR G Z μ H (.tup ws) v) : ∃ a xs, v = .ref a ∧ Stl G true Z μ H a ws xs := by
  obtain ⟨a, xs, rfl, q1, q2⟩ := i_tup h
  exact ⟨a, xs, rfl, fun Z' μ' H' S' g r' => .inl (.inl (g.still r a _ q1 rfl)), q2⟩
theorem stl_lst {Z : Addr → Prop} {μ : List Addr} {H : Hp} {S : Sto} {ws : List W} {v : V} (r : Rel G Z μ H S) (h : VR G Z μ H (.lst ws) v) : ∃ a xs, v = .ref a ∧ Stl G false Z μ H a ws xs := by
  obtain ⟨a, xs, rfl, q1, n1, q2⟩ := i_lst h
  exact ⟨a, xs, rfl, fun Z' μ' H' S' g r' => .inl (.inl (g.keep a _ q1 (fun z => n1 (r.mz a z)) rfl)), q2⟩
theorem itm_enum {t : Bool} {Z : Addr → Prop} {μ : List Addr} {H : Hp} {S : Sto} {a : Addr} {ws : List W} {xs : List V} (r : Rel G Z μ H S) (h : Stl G t Z μ H a ws xs) : ItM G Z μ H ⟨enumL 0 ws, none⟩ (IteB t G.K a) where
  go := fun Z' μ' H' S' g r' _ i w hw => by
    obtain ⟨y, h1, rfl⟩ := enumL_get ws 0 i w hw
    obtain ⟨v1, p1, p2⟩ := (VRs.mono r g h.k).get h1
    have q := h.q Z' μ' H' S' g r'
    refine ⟨⟨xs, v1, q, p1⟩, fun z H2 y => ?_⟩
    obtain ⟨T, z1, rfl, hT, rfl, f1⟩ := y
    have z1e := f1 xs q
    rw [p1] at z1e; cases z1e
    refine ⟨fun a o h => by rw [upd_ne (ne_of_none h hT)]; exact h, ?_⟩
    rw [Nat.zero_add]
    unfold VR
    exact ⟨T, [.int (i : Nat), v1], rfl, upd_same, VRs.mono r' (Grow.add hT) (VRs.cons (vr_int _ _ _) (VRs.cons p2 VRs.nil))⟩
  stop := fun Z' μ' H' S' g r' _ => ⟨xs, h.q Z' μ' H' S' g r', by show xs.length = (enumL 0 ws).length; rw [enumL_len]; exact h.k.length⟩
theorem im_enum (hK : X.K = G.K) (hg : Gl X "enumerate") (hm : X.mg "enumerate" = none) (ha : PA X [e] (tMA G E mr)) (hs : starEach [e] X.env = [(false, eval e X.env)] := by rfl) : PI X (.Tuple elts kk tpos) (.Call (.Name "enumerate" p) [e] [] pos) (tI G E (mEnum mr)) :=
  (pi_enumB hg hm ha hs).weak fun σ H Q ⟨ρ, S, Z, μ, r, er, af⟩ => ⟨ρ, S, Z, μ, r, er, Aft.imp (Aft.bind af) fun ws Z1 μ1 H1 S1 _ g1 r1 a1 vs hvs => by
    split at a1
    · obtain ⟨v, rfl, h1⟩ := one_of hvs
      obtain ⟨a, xs, rfl, st⟩ := stl_tup r1 h1
      exact ⟨true, a, xs, rfl, by rw [hK]; exact st.q _ _ _ _ Grow.refl r1, by rw [hK]; exact Aft.here (E := E) (P := PI' G Q) r1 a1 _ (itm_enum r1 st)⟩
    · obtain ⟨v, rfl, h1⟩ := one_of hvs
      obtain ⟨a, xs, rfl, st⟩ := stl_lst r1 h1
      exact ⟨false, a, xs, rfl, by rw [hK]; exact st.q _ _ _ _ Grow.refl r1, by rw [hK]; exact Aft.here (E := E) (P := PI' G Q) r1 a1 _ (itm_enum r1 st)⟩
    · exact a1.elim⟩
end
end Mo

set_option Elab.async false
set_option linter.all false
set_option maxRecDepth 100000
set_option autoImplicit false
/-! Mon16: zip over lists and tuples, mixed; setdefault; count. -/
namespace Mo
open PySem PySem.Spec L2
open PyProof.Rows hiding St

/-! ### zip -/
def ItzB (t t' : Bool) (K : PySem.W.Frag) (a b : Addr) : It :=
  ⟨fun i H => ∃ (xs ys : List V) (x y : V), SqB t K H a xs ∧ SqB t' K H b ys ∧ xs[i]? = some x ∧ ys[i]? = some y,
    fun i H v H' => ∃ T x y, v = .ref T ∧ H T = none ∧ H' = upd H T (.tup [x, y]) ∧ (∀ xs, SqB t K H a xs → xs[i]? = some x) ∧ ∀ ys, SqB t' K H b ys → ys[i]? = some y,
    fun i H => ∃ xs ys : List V, SqB t K H a xs ∧ SqB t' K H b ys ∧ i = min xs.length ys.length⟩
structure ZA (z TI TO i1 i2 : Addr) : Prop where
  nd : [z, TI, TO, i1, i2].Nodup
theorem zipSep {z TI TO i1 i2 a b : Addr} {h : Heap} {t t' : Bool} {xs ys : Array Value} {i : Nat} {u v : Value} (D : ZA z TI TO i1 i2) (hz : IsZip h z TI TO .none) (hTI : IsTupOf2 h TI (.ref i1) (.ref i2)) (hTO : IsTupOf2 h TO u v) (h1 : ItB t h i1 a i) (h2 : ItB t' h i2 b i) (p : IsB t h a xs) (p2 : IsB t' h b ys) (na : a ≠ TO) (nb : b ≠ TO) :
    ZipSep2 z TI TO i1 i2 [i1, a] [i2, b] := by
  have nd := D.nd
  simp only [List.nodup_cons, List.mem_cons, List.not_mem_nil, or_false, not_or] at nd
  obtain ⟨⟨z1, z2, z3, z4⟩, ⟨t1, t2, t3⟩, ⟨o1, o2⟩, n1, _⟩ := nd
  have za : ∀ {tt : Bool} {c : Addr} {its : Array Value}, IsB tt h c its → z ≠ c := fun {tt c its} q e => by
    obtain ⟨o, k1, k2⟩ := q.obj
    rw [← e] at k1
    have k3 := k1.symm.trans hz
    have k4 : o.cls = .type "zip" := by rw [Option.some.inj k3]
    have k5 := Value.type.inj (k2.symm.trans k4)
    revert k5
    cases tt <;> decide
  exact ⟨fun e => z1 e.symm, fun e => z2 e.symm, t1, t2, by simp, by simp [z3, za p], by simp [o1, Ne.symm na], t3, by simp, by simp [z4, za p2], by simp [o2, Ne.symm nb], by simp [n1, Ne.symm (p2.ne_it h1)], by simp [Ne.symm n1, Ne.symm (p.ne_it h2)]⟩
theorem turn_zipB {P : Program} {w : World} {K : PySem.W.Frag} {elts : List Expr} {kk : Nat} {tpos : Pos} {t t' : Bool} {a b z TI TO i1 i2 : Addr} (D : ZA z TI TO i1 i2) (na : a ≠ TO) (nb : b ≠ TO) :
    Turn P w K (.Tuple elts kk tpos) (ItzB t t' K a b) [z, TI, TO, i1, i2] z (fun i h => IsZip h z TI TO .none ∧ IsTupOf2 h TI (.ref i1) (.ref i2) ∧ (∃ x y, IsTupOf2 h TO x y) ∧ ItB t h i1 a i ∧ ItB t' h i2 b i) where
  mem := by simp
  obj := fun i h st c hc => by
    obtain ⟨hz, hTI, ⟨x, y, hTO⟩, h1, h2⟩ := st
    obtain ⟨o1, e1, _, d1⟩ := h1.obj
    obtain ⟨o2, e2, _, d2⟩ := h2.obj
    have e' : c = z ∨ c = TI ∨ c = TO ∨ c = i1 ∨ c = i2 := by simpa using hc
    rcases e' with q | q | q | q | q
    · rw [q]; exact ⟨_, hz, fun v q => nomatch q⟩
    · rw [q]; exact ⟨_, hTI, fun v q => nomatch q⟩
    · rw [q]; exact ⟨_, hTO, fun v q => nomatch q⟩
    · rw [q]; exact ⟨o1, e1, d1⟩
    · rw [q]; exact ⟨o2, e2, d2⟩
  keep := fun i h h' st k => by
    obtain ⟨hz, hTI, ⟨x, y, hTO⟩, h1, h2⟩ := st
    exact ⟨k z (by simp) _ hz, k TI (by simp) _ hTI, ⟨x, y, k TO (by simp) _ hTO⟩, h1.at_ fun o q => k i1 (by simp) o q, h2.at_ fun o q => k i2 (by simp) o q⟩
  item := by
    intro X hP hw hK hc i pins s σ H E I hf st hg
    subst hP hw hK
    obtain ⟨hz, hTI, ⟨x0, y0, hTO⟩, h1, h2⟩ := st
    obtain ⟨xs, ys, x, y, hqx, hqy, hx, hy⟩ := hg
    obtain ⟨its, rv, p⟩ := hqx.at_ I
    obtain ⟨its2, rv2, p2⟩ := hqy.at_ I
    obtain ⟨u, hu, ru⟩ := rv.get hx
    obtain ⟨u2, hu2, ru2⟩ := rv2.get hy
    have hzl : z < s.heap.objs.size := Heap.lt_size hz
    have S := zipSep D hz hTI hTO h1 h2 p p2 na nb
    have l1 : i < its.toArray.size := by
      have := (List.getElem?_eq_some_iff.mp hu).1
      simpa using this
    have l2 : i < its2.toArray.size := by
      have := (List.getElem?_eq_some_iff.mp hu2).1
      simpa using this
    refine wpAny_pyNext_zipD2_item S (drawsB (t := t) (A := X.A.in1) (by exact I.ok.hd hc) (p.ne_it h1)) (drawsB (t := t') (A := X.A.in1) (by exact I.ok.hd hc) (p2.ne_it h2)) hz hTI hTO ⟨h1, p⟩ ⟨h2, p2⟩ l1 l2 fun y1 y2 h' tk P1 P2 z' TO' st1 st2 hT hsz hk => ?_
    have e1 : y1 = u := by
      have P1' : its.toArray[i]? = some y1 := P1
      rw [List.getElem?_toArray, hu] at P1'
      exact (Option.some.inj P1').symm
    have e2 : y2 = u2 := by
      have P2' : its2.toArray[i]? = some y2 := P2
      rw [List.getElem?_toArray, hu2] at P2'
      exact (Option.some.inj P2').symm
    subst e1 e2
    refine ⟨_, rfl, wpAny_letOwnedTupleGo_zip (s := { s with heap := h', toks := tk }) z' fun h'' z'' sb => ?_⟩
    have hT2 : h''.get? s.heap.objs.size = some { cls := .type "tuple", data := .seq #[y1, y2] } := (sb.2 _ (Nat.ne_of_gt hzl)).trans hT
    have new : ObjOk X.prog X.w (upd H s.heap.objs.size (.tup [x, y])) h'' s.heap.objs.size (.tup [x, y]) :=
      ⟨by show 2 ≤ sizeLine; decide, [y1, y2], .cons ru (.cons ru2 .nil), ⟨_, hT2, rfl, _, rfl⟩⟩
    have I1 : Inv X pins σ (upd H s.heap.objs.size (.tup [x, y])) { s with heap := h'', toks := tk } :=
      I.turnedNew (t' := tk) (ch := [z, TI, TO, i1, i2]) (fun c o hb q => (sb.2 c (fun q' => hb (by simp [q']))).trans (hk c o (fun q' => hb (by simp [q'])) (fun q' => hb (by simp [q'])) (fun q' => hb (by simp [q'])) (fun q' => hb (by simp [q'])) q)) hf (Nat.le_refl _) new
    have nd := D.nd
    simp only [List.nodup_cons, List.mem_cons, List.not_mem_nil, or_false, not_or] at nd
    obtain ⟨⟨z1, z2, z3, z4⟩, ⟨t1, t2, t3⟩, ⟨o1, o2⟩, n1, _⟩ := nd
    refine ⟨.ref s.heap.objs.size, _, I1, rfl, ⟨_, x, y, rfl, I.hok.fresh (Nat.le_refl _), rfl, fun l hl => by rw [hl.inj I hqx]; exact hx, fun l hl => by rw [hl.inj I hqy]; exact hy⟩, ⟨z'', ?_, ⟨y1, y2, ?_⟩, ?_, ?_⟩, fun c hcm => ?_⟩
    · exact (sb.2 _ (fun e => z1 e.symm)).trans (hk _ _ (fun e => z1 e.symm) t1 t2 t3 hTI)
    · exact (sb.2 _ (fun e => z2 e.symm)).trans TO'
    · exact st1.1.at_ fun o q => (sb.2 _ (fun e => z3 e.symm)).trans q
    · exact st2.1.at_ fun o q => (sb.2 _ (fun e => z4 e.symm)).trans q
    · have hlt : c < s.heap.objs.size := by
        have e' : c = z ∨ c = TI ∨ c = TO ∨ c = i1 ∨ c = i2 := by simpa using hcm
        rcases e' with q | q | q | q | q
        · rw [q]; exact hzl
        · rw [q]; exact Heap.lt_size hTI
        · rw [q]; exact Heap.lt_size hTO
        · rw [q]; obtain ⟨_, e1, _⟩ := h1.obj; exact Heap.lt_size e1
        · rw [q]; obtain ⟨_, e2, _⟩ := h2.obj; exact Heap.lt_size e2
      rw [upd_ne (Nat.ne_of_lt hlt)]
      exact (hf c hcm).1
  done := by
    intro X hP hw hK hc i pins s σ H E I hf st hg
    subst hP hw hK
    obtain ⟨hz, hTI, ⟨x0, y0, hTO⟩, h1, h2⟩ := st
    obtain ⟨xs, ys, hqx, hqy, hend⟩ := hg
    obtain ⟨its, rv, p⟩ := hqx.at_ I
    obtain ⟨its2, rv2, p2⟩ := hqy.at_ I
    have l1 := rv.length
    have l2 := rv2.length
    have S := zipSep D hz hTI hTO h1 h2 p p2 na nb
    refine wpAny_pyNext_zipD2_end S (drawsB (t := t) (A := X.A.in1) (its := its.toArray) (by exact I.ok.hd hc) (p.ne_it h1)) (drawsB (t := t') (A := X.A.in1) (its := its2.toArray) (by exact I.ok.hd hc) (p2.ne_it h2)) hz hTI hTO ⟨h1, p⟩ ⟨h2, p2⟩ (by simp; omega) (by simp; omega) (by simp; omega) fun h' tk hk => ⟨rfl, I.turnedL (t' := tk) (ch := [z, TI, TO, i1, i2]) (fun c o hb q =>
      hk c o (fun q' => hb (by simp [q'])) (fun q' => hb (by simp [q'])) (fun q' => hb (by simp [q'])) (fun q' => hb (by simp [q'])) q) hf⟩
  self := fun A i s Q E st h => wpAny_pyIter_zip st.1 h
def iZipB (K : PySem.W.Frag) (ta : TA) : TI := fun σ H R => ta σ H fun vs H1 => ∃ (t t' : Bool) (a b : Addr) (xs ys : List V), vs = [.ref a, .ref b] ∧ SqB t K H1 a xs ∧ SqB t' K H1 b ys ∧ R (ItzB t t' K a b) H1
theorem pi_zipB {X : Cx} {e e2 : Expr} {ta : TA} {p pos tpos : Pos} {elts : List Expr} {kk : Nat} (hg : Gl X "zip") (hm : X.mg "zip" = none) (ha : PA X [e, e2] ta)
    (hs : starEach [e, e2] X.env = (false, eval e X.env) :: starEach [e2] X.env := by rfl) (hpl : (backTo pos (starEach [e2] X.env)).any (·.1) = false := by rfl) :
    PI X (.Tuple elts kk tpos) (.Call (.Name "zip" p) [e, e2] [] pos) (iZipB X.K ta) := by
  refine ⟨fun pins s σ H R I h => ?_⟩
  refine Call_ (ld_blt I hg hm PyProof.Rows.boot_zip (PyProof.Rows.callWith_type1 (thn (ha.run pos pins s σ H _ I h) fun us s1 ⟨vs, H1, I1, r1, q1⟩ => ?_) hs hpl))
  obtain ⟨t, t', a, b, xs, ys, ex, hqx, hqy, q⟩ := q1
  subst ex
  cases r1 with
  | cons r rr =>
    cases rr with
    | cons r' rr =>
      cases rr
      cases r
      cases r'
      have fresh5 : ∀ c, c ∈ [s1.heap.objs.size + 4, s1.heap.objs.size + 2, s1.heap.objs.size + 3, s1.heap.objs.size, s1.heap.objs.size + 1] → FpOk X pins H1 c := fun c hcm => by
        have e' : c = s1.heap.objs.size + 4 ∨ c = s1.heap.objs.size + 2 ∨ c = s1.heap.objs.size + 3 ∨ c = s1.heap.objs.size ∨ c = s1.heap.objs.size + 1 := by simpa using hcm
        have hle : s1.heap.objs.size ≤ c := by omega
        exact I1.fpOk hle (I1.hok.fresh hle)
      obtain ⟨its, rv, p1⟩ := hqx.at_ I1
      obtain ⟨its2, rv2, p2⟩ := hqy.at_ I1
      obtain ⟨o1, ho1, _⟩ := p1.obj
      obtain ⟨o2, ho2, _⟩ := p2.obj
      have la := Heap.lt_size ho1
      have lb := Heap.lt_size ho2
      refine zip_begins2 (beginsB (t := t)) (beginsB (t := t')) p1 p2 fun h' hz hTI hTO e1 e2 hsz hk => wpAny_pyIter_zip hz ?_
      have I2 : Inv X pins σ H1 { s1 with heap := h' } := I1.kept (t' := s1.toks) hk
      exact ⟨s1.heap.objs.size + 4, [s1.heap.objs.size + 4, s1.heap.objs.size + 2, s1.heap.objs.size + 3, s1.heap.objs.size, s1.heap.objs.size + 1], _, _, H1, rfl, I2, turn_zipB ⟨by simp⟩ (Nat.ne_of_lt (Nat.lt_of_lt_of_le la (Nat.le_add_right _ _))) (Nat.ne_of_lt (Nat.lt_of_lt_of_le lb (Nat.le_add_right _ _))), ⟨hz, hTI, ⟨_, _, hTO⟩, itB_new e1, itB_new e2⟩, fresh5, q⟩
def frzL : W → Option (Bool × List W)
  | .tup ws => some (true, ws)
  | .lst ws => some (false, ws)
  | _ => none
def mZipB (r : MA) : MI := fun ρ S => (r ρ S).bind fun ws S1 => match ws with
  | [x, y] => (match frzL x with
    | some (_, xs) => (match frzL y with
      | some (_, ys) => .ok ⟨zipL xs ys, none⟩ S1
      | none => .stuck)
    | none => .stuck)
  | _ => .stuck
section
variable {X : Cx} {G : Glo} {E : XK} {e e2 : Expr} {mr : MA} {pos p tpos : Pos} {elts : List Expr} {kk : Nat}
theorem stl_any {Z : Addr → Prop} {μ : List Addr} {H : Hp} {S : Sto} {w : W} {t : Bool} {ws : List W} {v : V} (r : Rel G Z μ H S) (e : frzL w = some (t, ws)) (h : VR G Z μ H w v) : ∃ a xs, v = .ref a ∧ Stl G t Z μ H a ws xs := by
  cases w <;> first | (cases e; done) | skip
  · unfold frzL at e; cases e; exact stl_tup r h
  · unfold frzL at e; cases e; exact stl_lst r h
theorem zipL_min : ∀ (xs ys : List W), (zipL xs ys).length = min xs.length ys.length
  | [], ys => by unfold zipL; simp
  | x :: xs, [] => by unfold zipL; simp
  | x :: xs, y :: ys => by
    unfold zipL
    simp only [List.length_cons, zipL_min xs ys]
    omega
theorem itm_zip {t t' : Bool} {Z : Addr → Prop} {μ : List Addr} {H : Hp} {S : Sto} {a b : Addr} {ws us : List W} {xs ys : List V} (r : Rel G Z μ H S) (h : Stl G t Z μ H a ws xs) (k : Stl G t' Z μ H b us ys) : ItM G Z μ H ⟨zipL ws us, none⟩ (ItzB t t' G.K a b) where
  go := fun Z' μ' H' S' g r' _ i w hw => by
    obtain ⟨x, y, e1, e2, rfl⟩ := zipL_get ws us i w hw
    obtain ⟨v1, p1, p2⟩ := (VRs.mono r g h.k).get e1
    obtain ⟨v2, p3, p4⟩ := (VRs.mono r g k.k).get e2
    have q := h.q Z' μ' H' S' g r'
    have q' := k.q Z' μ' H' S' g r'
    refine ⟨⟨xs, ys, v1, v2, q, q', p1, p3⟩, fun z H2 y => ?_⟩
    obtain ⟨T, z1, z2, rfl, hT, rfl, f1, f2⟩ := y
    have z1e := f1 xs q
    have z2e := f2 ys q'
    rw [p1] at z1e; cases z1e
    rw [p3] at z2e; cases z2e
    refine ⟨fun a o h => by rw [upd_ne (ne_of_none h hT)]; exact h, ?_⟩
    unfold VR
    exact ⟨T, [v1, v2], rfl, upd_same, VRs.mono r' (Grow.add hT) (VRs.cons p2 (VRs.cons p4 VRs.nil))⟩
  stop := fun Z' μ' H' S' g r' _ => ⟨xs, ys, h.q Z' μ' H' S' g r', k.q Z' μ' H' S' g r', by show (zipL ws us).length = _; rw [zipL_min, h.k.length, k.k.length]⟩
theorem im_zipB (hK : X.K = G.K) (hg : Gl X "zip") (hm : X.mg "zip" = none) (ha : PA X [e, e2] (tMA G E mr)) (hs : starEach [e, e2] X.env = (false, eval e X.env) :: starEach [e2] X.env := by rfl) (hs2 : (backTo pos (starEach [e2] X.env)).any (·.1) = false := by rfl) : PI X (.Tuple elts kk tpos) (.Call (.Name "zip" p) [e, e2] [] pos) (tI G E (mZipB mr)) :=
  (pi_zipB hg hm ha hs hs2).weak fun σ H Q ⟨ρ, S, Z, μ, r, er, af⟩ => ⟨ρ, S, Z, μ, r, er, Aft.imp (Aft.bind af) fun ws Z1 μ1 H1 S1 _ g1 r1 a1 vs hvs => by
    split at a1
    · obtain ⟨v, u, rfl, h1, h2⟩ := two_of hvs
      split at a1
      · rename_i ex
        split at a1
        · rename_i ey
          obtain ⟨a, xs, rfl, s1⟩ := stl_any r1 ex h1
          obtain ⟨b, ys, rfl, s2⟩ := stl_any r1 ey h2
          exact ⟨_, _, a, b, xs, ys, rfl, by rw [hK]; exact s1.q _ _ _ _ Grow.refl r1, by rw [hK]; exact s2.q _ _ _ _ Grow.refl r1, by rw [hK]; exact Aft.here (E := E) (P := PI' G Q) r1 a1 _ (itm_zip r1 s1 s2)⟩
        · exact a1.elim
      · exact a1.elim
    · exact a1.elim⟩
end
end Mo

set_option Elab.async false
set_option linter.all false
set_option maxRecDepth 100000
set_option autoImplicit false
/-! Mon17: sorted; setdefault; count. -/
namespace Mo
open PySem PySem.Spec L2
open PyProof.Rows hiding St

/-! ### a sort to compute with -/
section
variable {α : Type} (le : α → α → Bool)
def ins (a : α) : List α → List α
  | [] => [a]
  | b :: r => if le a b then a :: b :: r else b :: ins a r
def isort : List α → List α
  | [] => []
  | a :: r => ins le a (isort r)
theorem ins_perm (a : α) : ∀ l : List α, (ins le a l).Perm (a :: l)
  | [] => List.Perm.refl _
  | b :: r => by
    unfold ins
    split
    · exact List.Perm.refl _
    · exact ((ins_perm a r).cons b).trans (List.Perm.swap a b r)
theorem isort_perm : ∀ l : List α, (isort le l).Perm l
  | [] => List.Perm.refl _
  | a :: r => (ins_perm le a _).trans ((isort_perm r).cons a)
theorem ins_pw (tot : ∀ a b, le a b = true ∨ le b a = true) (tr : ∀ a b c, le a b = true → le b c = true → le a c = true) (a : α) : ∀ l : List α, l.Pairwise (fun x y => le x y = true) → (ins le a l).Pairwise (fun x y => le x y = true)
  | [], _ => List.pairwise_singleton _ _
  | b :: r, h => by
    obtain ⟨h1, h2⟩ := List.pairwise_cons.mp h
    unfold ins
    split
    · rename_i hab
      exact List.pairwise_cons.mpr ⟨fun x hx => by
        rcases List.mem_cons.mp hx with e | hx
        · rw [e]; exact hab
        · exact tr _ _ _ hab (h1 x hx), h⟩
    · rename_i hab
      have hba : le b a = true := (tot a b).resolve_left hab
      exact List.pairwise_cons.mpr ⟨fun x hx => by
        rcases List.mem_cons.mp ((ins_perm le a r).mem_iff.mp hx) with e | hx
        · rw [e]; exact hba
        · exact h1 x hx, ins_pw tot tr a r h2⟩
theorem isort_pw (tot : ∀ a b, le a b = true ∨ le b a = true) (tr : ∀ a b c, le a b = true → le b c = true → le a c = true) : ∀ l : List α, (isort le l).Pairwise (fun x y => le x y = true)
  | [] => List.Pairwise.nil
  | a :: r => ins_pw le tot tr a _ (isort_pw tot tr r)
theorem isort_eq (tot : ∀ a b, le a b = true ∨ le b a = true) (tr : ∀ a b c, le a b = true → le b c = true → le a c = true) (anti : ∀ a b, le a b = true → le b a = true → a = b) {l m : List α} (p : m.Perm l) (h : m.Pairwise (fun x y => le x y = true)) : m = isort le l :=
  List.Perm.eq_of_pairwise (fun x y _ _ h1 h2 => anti x y h1 h2) h (isort_pw le tot tr l) (p.trans (isort_perm le l).symm)
end
def leI (a b : Int) : Bool := decide (a ≤ b)
def sortI (l : List Int) : List Int := isort leI l
theorem sortI_eq {l m : List Int} (p : m.Perm l) (h : m.Pairwise (· ≤ ·)) : m = sortI l :=
  isort_eq leI (fun a b => by unfold leI; simp only [decide_eq_true_eq]; omega) (fun a b c h1 h2 => by unfold leI at *; simp only [decide_eq_true_eq] at *; omega) (fun a b h1 h2 => by unfold leI at *; simp only [decide_eq_true_eq] at *; omega) p (h.imp fun {a b} q => by unfold leI; exact decide_eq_true q)
def keysI : List (Key × W) → Option (List Int)
  | [] => some []
  | (.inl i, _) :: r => match keysI r with
    | some is => some (i :: is)
    | none => none
  | _ => none
/-- sorted(..) of ints: a list's, a dict's keys -/
def sortW (ws : List W) (S : Sto) : R W := match ws with
  | [.ref n] => (match S[n]? with
    | some (.dict kvs) => (match keysI kvs with
      | some is => if is.length < 64 then .ok (.lst ((sortI is).map .int)) S else .stuck
      | none => .stuck)
    | some (.lst xs) => (match intsW xs with
      | some is => .ok (.lst ((sortI is).map .int)) S
      | none => .stuck)
    | none => .stuck)
  | [.lst xs] => (match intsW xs with
    | some is => .ok (.lst ((sortI is).map .int)) S
    | none => .stuck)
  | _ => .stuck
section
variable {X : Cx} {G : Glo} {E : XK} {Z : Addr → Prop} {μ : List Addr} {H : Hp} {S : Sto}
theorem keysI_v : ∀ {kvs : List (Key × W)} {es : List (Key × V)} {is : List Int}, keysI kvs = some is → KVR G Z μ H kvs es → es.map (·.1) = is.map Sum.inl
  | [], es, is, e, h => by unfold keysI at e; cases e; unfold KVR at h; subst h; rfl
  | (k, w) :: kvs, es, is, e, h => by
    unfold KVR at h
    obtain ⟨v, r, rfl, h1, h2⟩ := h
    cases k with
    | inr z => unfold keysI at e; cases e
    | inl i =>
      unfold keysI at e
      cases e1 : keysI kvs with
      | none => rw [e1] at e; cases e
      | some js =>
        rw [e1] at e; cases e
        simp [keysI_v e1 h2]
theorem ints_of_vrs : ∀ {xs : List W} {vs : List V} {is : List Int}, intsW xs = some is → VRs G Z μ H xs vs → vs = is.map V.int
  | [], vs, is, e, h => by unfold intsW at e; cases e; unfold VRs at h; subst h; rfl
  | w :: ws, vs, is, e, h => by
    unfold VRs at h
    obtain ⟨v, r, rfl, h1, h2⟩ := h
    cases w <;> first | (unfold intsW at e; cases e; done) | skip
    unfold intsW at e
    split at e
    · rename_i js e1
      cases e
      rw [ints_of_vrs e1 h2, i_int h1]
      rfl
    · cases e
theorem vrs_of_ints : ∀ (is : List Int), VRs G Z μ H (is.map W.int) (is.map V.int)
  | [] => VRs.nil
  | i :: is => VRs.cons (vr_int _ _ _) (vrs_of_ints is)
theorem c_sort (hK : X.K = G.K) (hc : X.calm = true) : CallR X (.builtin "sorted") (cM G E sortW) := by
  intro pins s σ H xs us Q I rv ⟨ws, S, Z, μ, r, hv, af⟩
  unfold sortW at af
  split at af
  · obtain ⟨v, rfl, h1⟩ := one_of hv
    split at af
    · rename_i kvs hs
      split at af
      · rename_i is hk
        split at af
        · rename_i hl
          obtain ⟨a, es, rfl, q0, q1, q2⟩ := r.dict h1 hs
          refine call_sortedDI hc pins s σ H _ us Q I rv ⟨a, es, is, rfl, .inl q1, keysI_v hk q2, hl, fun ys p h2 h3 hp => ?_⟩
          rw [sortI_eq h2 h3]
          exact end_lst r (vrs_of_ints _) af p hp
        · exact af.elim
      · exact af.elim
    · rename_i ys hs
      split at af
      · rename_i is hk
        obtain ⟨a, vs, rfl, q0, q1, q2⟩ := r.lst h1 hs
        refine cr_sortedI pins s σ H _ us Q I rv ⟨a, is, rfl, by rw [← ints_of_vrs hk q2]; exact .inl (.inl q1), fun ys p h2 h3 hp => ?_⟩
        rw [sortI_eq h2 h3]
        exact end_lst r (vrs_of_ints _) af p hp
      · exact af.elim
    · exact af.elim
  · obtain ⟨v, rfl, h1⟩ := one_of hv
    split at af
    · rename_i is hk
      obtain ⟨a, vs, rfl, q1, _, q2⟩ := i_lst h1
      refine cr_sortedI pins s σ H _ us Q I rv ⟨a, is, rfl, by rw [← ints_of_vrs hk q2]; exact .inl (.inl q1), fun ys p h2 h3 hp => ?_⟩
      rw [sortI_eq h2 h3]
      exact end_lst r (vrs_of_ints _) af p hp
    · exact af.elim
  · exact af.elim
end
/-! ### d.setdefault(k, v) -/
def isDict (S : Sto) : W → Bool
  | .ref n => match S[n]? with
    | some (.dict _) => true
    | _ => false
  | _ => false
def setdW (o k z : W) (S : Sto) : R W := match o with
  | .ref n => (match keyW k with
    | some kk => (match S[n]? with
      | some (.dict kvs) => if kvs.length < 100000 ∧ ukeys kvs = true then (match valW kvs kk with
        | some u => .ok u S
        | none => .ok z (S.set n (.dict (putW kvs kk z)))) else .stuck
      | _ => .stuck)
    | none => .stuck)
  | _ => .stuck
def mSetd (mo mk mz : ME) : ME := fun ρ S => (mo ρ S).bind fun o S1 => if isDict S1 o then (mk ρ S1).bind fun k S2 => (mz ρ S2).bind fun z S3 => setdW o k z S3 else .stuck
section
variable {X : Cx} {G : Glo} {E : XK} {o e f : Expr} {mo me mf : ME} {apos cpos : Pos}
theorem em_setd (ho : PE X o (tM G E mo)) (he : PE X e (tM G E me)) (hf : PE X f (tM G E mf)) (m : M2 X o "setdefault" apos e f cpos := by exact ⟨rfl, rfl, rfl, rfl⟩) : PE X (.Call (.Attribute o "setdefault" apos) [e, f] [] cpos) (tM G E (mSetd mo me mf)) :=
  (pe_dsetd ho he hf m).weak fun σ H Q ⟨ρ, S, Z, μ, r, er, af⟩ => by
    refine ⟨ρ, S, Z, μ, r, er, Aft.imp (Aft.bind af) fun ow Z1 μ1 H1 S1 _ g1 r1 a1 x hx => ?_⟩
    have er1 := er.mono r g1
    split at a1
    case isFalse => exact a1.elim
    rename_i hd
    have hd' : ∃ n kvs, ow = .ref n ∧ S1[n]? = some (.dict kvs) := by
      unfold isDict at hd
      split at hd
      · split at hd
        · rename_i e1
          exact ⟨_, _, rfl, e1⟩
        · cases hd
      · cases hd
    obtain ⟨n, kvs0, rfl, hs0⟩ := hd'
    obtain ⟨a, es0, rfl, p0, p1, p2⟩ := r1.dict hx hs0
    refine ⟨a, rfl, .inl ⟨_, .inl p1⟩, ρ, S1, Z1, μ1, r1, er1, Aft.imp (Aft.bind a1) fun kw Z2 μ2 H2 S2 _ g2 r2 a2 y hy => ?_⟩
    have er2 := er1.mono r1 g2
    refine ⟨ρ, S2, Z2, μ2, r2, er2, Aft.imp (Aft.bind a2) fun zw Z3 μ3 H3 S3 _ g3 r3 a3 z hz => ?_⟩
    have hx3 := (hx.mono r1 g2).mono r2 g3
    have hy3 := hy.mono r2 g3
    unfold setdW at a3
    dsimp only at a3
    split at a3
    · rename_i k hk
      split at a3
      · rename_i kvs hs
        split at a3
        · rename_i hl
          obtain ⟨a', es, e1, q0, q1, q2⟩ := r3.dict hx3 hs
          cases e1
          have hle : es.length < sizeLine := by rw [q2.length]; exact Nat.lt_of_lt_of_le hl.1 (by decide)
          have hv := q2.val (k := k)
          refine ⟨es, k, q1, keyW_v hk hy3, hle, fun v e2 => ?_, fun e2 => ?_⟩
          · split at a3
            · rename_i u hu
              rw [hu] at hv
              obtain ⟨v', k1, k2⟩ := hv
              rw [k1] at e2; cases e2
              exact end_val r3 k2 a3
            · rename_i hu
              rw [hu] at hv
              rw [show valV es k = none from hv] at e2; cases e2
          · split at a3
            · rename_i u hu
              rw [hu] at hv
              obtain ⟨v', k1, k2⟩ := hv
              rw [k1] at e2; cases e2
            · have g : Grow Z3 μ3 H3 Z3 μ3 (upd H3 a (.dK (putK es k z))) := Grow.put (List.mem_of_getElem? q0)
              exact a3 _ _ _ g (r3.put q0 ⟨rfl, rfl⟩ ⟨_, upd_same, KVR.mono r3 g (q2.put hz hl.2)⟩) _ (VR.mono r3 g hz)
        · exact a3.elim
      · exact a3.elim
    · exact a3.elim
end
end Mo

set_option Elab.async false
set_option linter.all false
set_option maxRecDepth 100000
set_option autoImplicit false
/-! Mon18: an exception caught and kept. -/
namespace Mo
open PySem PySem.Spec L2
open PyProof.Rows hiding St

section
variable {X : Cx} {pins : List (Addr × Obj)} {σ : L2.St} {H : Hp} {s : Shared} {a : Addr} {o : HO}
/-- an object of this frame that was not told of is told of from now on -/
theorem retrack (I : Inv X pins σ H s) (na : H a = none) (hex : X.ex = []) (n0 : X.s_0.heap.get? a = none) (nL : a ≠ X.env.locals) (nC : ∀ x c, X.env.cells.lookup x = some c → c ≠ a) (nP : ∀ p ∈ X.pn ++ pins, p.1 ≠ a) (new : ObjOk X.prog X.w (upd H a o) s.heap a o) : Inv X pins σ (upd H a o) s := by
  refine ⟨I.ok, I.os, I.bare, ⟨I.base.keep, I.base.slot, fun b ob e n hb => ?_, I.base.there, fun b xs e => ?_, fun b ob u e => ?_, fun b ps e => ?_⟩, I.loc, I.cell, ?_, fun x c e => ?_, fun p hp => ?_, I.hok.laidN (fun _ _ e => e) na new, I.len⟩
  · have ne : b ≠ a := fun z => by rw [z, n0] at e; cases e
    rw [upd_ne ne]
    exact I.base.free b ob e n hb
  · rw [upd_ne (ne_of_none (I.base.tups b xs e) na)]; exact I.base.tups b xs e
  · rw [upd_ne (ne_of_none (I.base.frzs b ob u e) na)]; exact I.base.frzs b ob u e
  · obtain ⟨m, h1⟩ := I.base.tbls b ps e
    exact ⟨m, by rw [upd_ne (ne_of_none h1 na)]; exact h1⟩
  · rw [upd_ne (Ne.symm nL)]; exact I.free
  · rw [upd_ne (nC x c e)]; exact I.freeC x c e
  · obtain ⟨h1, h2, h3⟩ := I.pin p hp
    exact ⟨h1, by rw [upd_ne (nP p hp)]; exact h2, h3⟩
end
/-- what the clause wishes, its exception kept: slot i is the clause's name's -/
def wKeep (K : PySem.W.Frag) (c : Value) (i : Nat) (ts : Addr → TS) (D : Ends) : WX := fun cls d σ H =>
  ∃ C, cls = .ref C ∧ d = none ∧ PySem.W.exmOne K cls c = some true ∧ ∀ a, H a = none → ts a { nx := fun σ' H' => H' a = none → D.nx (σ'.set i none) (upd H' a (ExO a C)), rt := fun _ _ => False, bk := fun _ _ => False, ct := fun _ _ => False } (σ.set i (some (.ref a))) H
section
variable {X : Cx} {x n : Str} {c : Value} {i : Nat} {body suite : List Stmt} {b₀ : Stmt} {np pos pos' : Pos} {tb : WX → TS} {ts : Addr → TS}
theorem ps_try_keep (hs : X.stack = X.env :: X.outer) (hf : X.env.frame = some X.env.locals) (hex : X.ex = []) (hN : X.N.Nodup) (hi : X.N[i]? = some n) (hln : X.env.kindOf n = some .local) (hc : Names X x c)
    (hb : ∀ (W : WX) (pn : List (Addr × Obj)) (xe : Value → Shared → Prop), Takes (X.tr pn xe) W → PassesOwn (model X.prog X.w) X.A X.env xe → PSs (X.tr pn xe) body (tb W))
    (hsu : ∀ (a : Addr) (oe : Obj) (pn : List (Addr × Obj)), (∃ vs, oe.data = .fields vs) → PSs (X.suite a ((a, oe) :: pn)) (b₀ :: suite) (ts a)) :
    PS X (.Try body [.ExceptHandler (some (.Name x np)) (some n) (b₀ :: suite) pos'] [] [] pos) (fun D σ H => tb (wKeep X.K c i ts D) D σ H) := by
  refine ⟨fun pins s σ H D I h => ?_⟩
  have ok := I.ok
  have hfr : X.A.frames = some (X.env :: X.outer) := by rw [ok.frames, hs]
  have hloc : Loc X.env.scope n := .inl hln
  refine wpAny_Try_except ?_
  refine wpAny_mono ((hb (wKeep X.K c i ts D) (X.pn ++ pins) (fun e s₁ => wpAny (model X.prog X.w) X.A (noteFrame e X.env) (fun _ s₂ => wpAny (model X.prog X.w) X.A (setFlight e none) (fun _ s₃ =>
    wpAny (model X.prog X.w) X.A (handleBy e X.env [.ExceptHandler (some (.Name x np)) (some n) (b₀ :: suite) pos']) (SP X pins D) X.xe s₃) X.xe s₂) X.xe s₁) (fun u s' xx => ?_) PassesOwn.looking).run [] s σ H D (I.toTry _) h) (fun f s1 hsp => ?_) (fun e s1 he => he)
  · obtain ⟨a, B, sI, pins', σ', H', cls, d, rfl, J', nb, up, sky, na, os, ag, C, rfl, rfl, hb1, hyes⟩ := xx
    have J : Inv X pins σ' H' sI := J'.ofTry ok
    have sky' : Sky B (X.env :: X.outer) a (Zc (.ref C) none) X.env.locals s'.heap := by rw [← hs]; exact sky
    show wpAny (model X.prog X.w) X.A (noteFrame (.ref a) X.env) _ _ _
    refine Sky.land Zc.steady hfr hf sky' fun h3 fl3 up3 => ?_
    have J3 : Inv X pins σ' H' { s' with heap := h3 } := J.landed nb fl3.1 (up.trans up3) os ag
    obtain ⟨oe3, vs3, he3, hz3, hd3⟩ := fl3.there
    have notFr : ∀ {h : Heap} {o : Obj} {vs : Array Value}, h.FunFrames B (X.env :: X.outer) → h.get? a = some o → o.data = .fields vs → a ∉ frs (X.env :: X.outer) := fun {h o vs} ff e dd hm => by
      obtain ⟨_, o', e', hnf⟩ := ff.mem hm
      rw [e] at e'; cases e'
      exact hnf _ dd
    have nfr := notFr fl3.2.2.1 he3 hd3
    have nL : a ≠ X.env.locals := fun z => nfr (List.mem_filterMap.mpr ⟨X.env, List.mem_cons_self, by rw [hf, z]⟩)
    have nF : a ∉ X.fs := fun hm => by
      obtain ⟨e, he, q⟩ := List.mem_filterMap.mp hm
      exact nfr (List.mem_filterMap.mpr ⟨e, List.mem_cons_of_mem _ he, q⟩)
    have nI : sI.heap.get? a = none := by
      cases q : sI.heap.get? a with
      | none => rfl
      | some ob =>
        have z := nb a ob q (by rw [hs]; exact nfr)
        rw [fl3.2.1] at z; cases z
    have n0 : X.s_0.heap.get? a = none := by
      cases q : X.s_0.heap.get? a with
      | none => rfl
      | some ob =>
        obtain ⟨o', z⟩ := J.base.there a ob q (by rw [hex]; exact List.not_mem_nil)
        rw [nI] at z; cases z
    have nP : ∀ p ∈ X.pn ++ pins, p.1 ≠ a := fun p hp z => by
      have q := (J.pin p hp).1
      rw [z, nI] at q; cases q
    have S3 := J3.suite he3 hd3 na nL nF
    refine wpAny_handleBy_cons (codeAny_handlers_test ?_) (by intro q; cases q)
    have LT : PySem.W.Looks (model X.prog X.w) h3 (typeOf (.ref a)) (.ref C) := fun A Q E s k q => wpAny_typeOf_ref (k _ _ he3) (by rw [hz3.1]; exact q)
    have LM := PySem.W.exm_one (M := model X.prog X.w) (J3.kIn) LT hb1
    have test : ∀ {Q : Value → Shared → Prop} {E : Value → Shared → Prop}, Q c { s' with heap := h3 } → wpAny (model X.prog X.w) (X.A.mark (some (.ref a))) (eval (.Name x np) X.env) Q E { s' with heap := h3 } := fun {Q E} q => by
      obtain ⟨hg, hdbg, hm | ⟨hm, hv, hnn⟩⟩ := hc
      · exact ld_glob (X := X.suite a ((a, oe3) :: (X.pn ++ pins))) S3 hg hm q hdbg
      · exact ld_blt (X := X.suite a ((a, oe3) :: (X.pn ++ pins))) S3 hg hm hv q hnn hdbg
    refine test (LM.here ?_)
    refine codeAny_handlers_suite_as ?_
    refine HandSPX.lands_againZ fl3 fun h4 fl4 up4 => ?_
    have J4 : Inv X pins σ' H' { s' with heap := h4 } := J.landed nb fl4.1 ((up.trans up3).trans up4) os ag
    obtain ⟨oe4, vs4, he4, hz4, hd4⟩ := fl4.there
    have S4 := J4.suite he4 hd4 na nL nF
    refine store_ok (X := X.suite a ((a, oe4) :: (X.pn ++ pins))) (v := .ref a) S4 hN hi hloc rfl (fun s5 S5 => ?_) (.inr hln)
    refine wpAny_mono ((hsu a oe4 (X.pn ++ pins) ⟨_, hd4⟩).run [] s5 _ H' _ S5 (hyes a na)) (fun f s6 hsp => ?_) (fun _ _ z => False.elim z)
    cases f with
    | next =>
      obtain ⟨σ6, H6, S6, q6⟩ := hsp
      obtain ⟨p1, p2, p3, p4, p5⟩ := S6.pin (a, oe4) (by simp)
      have I6 : Inv X pins σ6 H6 s6 := S6.unsuite ok
      have I6' : Inv X ((a, oe4) :: pins) σ6 H6 s6 := I6.pins_of fun p hp => by
        rcases List.mem_cons.mp hp with e | hp
        · rw [e]; exact ⟨p1, p2, nL, nF, p5⟩
        · exact I6.pin p (List.mem_append_right _ hp)
      show wpAny (model X.prog X.w) X.A (do bindName X.env n .none; unbindBehindTheSuite X.env n pos') _ X.xe s6
      refine gone_ok I6' hN hi hln fun s7 I7 => ?_
      have a7 : s7.heap.get? a = some oe4 := (I7.pin (a, oe4) (by simp)).1
      have I8 : Inv X pins (σ6.set i none) H6 s7 := I7.pins_of fun p hp => I7.pin p (List.mem_append_right _ (List.mem_cons_of_mem _ hp))
      have nC : ∀ y cc, X.env.cells.lookup y = some cc → cc ≠ a := fun y cc e z => by
        obtain ⟨v, oc, k1, k2⟩ := I8.cell y cc e
        rw [z, a7] at k1
        cases k1
        rw [hd4] at k2; cases k2
      refine ⟨σ6.set i none, upd H6 a (ExO a C), retrack I8 p2 hex n0 nL nC nP ?_, q6 p2⟩
      exact ⟨⟨oe4, a7, hz4, _, hd4⟩, ⟨oe4, a7⟩, fun h1 h2 ⟨oe, k1, k2, k3⟩ k => ⟨oe, k _ k1, k2, k3⟩⟩
    | brk =>
      obtain ⟨σ6, H6, S6, q6⟩ := hsp
      exact q6.elim
    | cont =>
      obtain ⟨σ6, H6, S6, q6⟩ := hsp
      exact q6.elim
    | ret u =>
      obtain ⟨v6, σ6, H6, S6, r6, q6⟩ := hsp
      exact q6.elim
  · cases f with
    | next =>
      obtain ⟨σ', H', J', q⟩ := hsp
      exact wpAny_execs_nil ⟨σ', H', J'.ofTry ok, q⟩
    | brk =>
      obtain ⟨σ', H', J', q⟩ := hsp
      exact ⟨σ', H', J'.ofTry ok, q⟩
    | cont =>
      obtain ⟨σ', H', J', q⟩ := hsp
      exact ⟨σ', H', J'.ofTry ok, q⟩
    | ret u =>
      obtain ⟨v, σ', H', J', r, q⟩ := hsp
      exact ⟨v, σ', H', J'.ofTry ok, r, q⟩
end
end Mo

set_option Elab.async false
set_option linter.all false
set_option maxRecDepth 100000
set_option autoImplicit false
/-! Mon19: try: x() except C as n: y = n; isinstance of what was kept. -/
namespace Mo
open PySem PySem.Spec L2
open PyProof.Rows hiding St

/-- calls what slot i holds; an exception of cs goes to slot j, the clause's own name's slot k is gone -/
def mTryK (ap : Ap) (i j k : Nat) (cs : List Str) : MS := fun ρ S => match mCallL ap i mNil ρ S with
  | .ok _ S' => .ok (.nx ρ) S'
  | .err c S' => if cs.contains c && decide (k < ρ.length) then .ok (.nx ((ρ.set j (some (.exc c))).set k none)) S' else .stuck
  | .stuck => .stuck
section
variable {X : Cx} {G : Glo} {E : XK} {x y n cn : Str} {p py np pn2 pa pos pos' ep cp : Pos} {kk i j k : Nat} {ap : Ap} {cs : List Str} {cv : Value}
theorem callL0_at {σ0 : L2.St} (C : CallC X.prog X.w X.K X.mg X.base G kk ap) (hr : Room kk X.A) (hx : PassesAt (L2.CX X.prog X.w) X σ0 E) (hN : X.N[i]? = some x) (hv : Vis X.env.scope x) (hdb : (x == ("__debug__" : Str)) = false := by decide) (hcd : (x == ("__classdict__" : Str)) = false := by decide) :
    PE X (.Call (.Name x p) [] [] pos) (fun σ H Q => σ = σ0 ∧ tM G E (mCallL ap i mNil) σ H Q) := by
  refine ⟨fun pins s σ H Q I h => ?_⟩
  obtain ⟨rfl, ρ, S, Z, μ, r, er, af⟩ := h
  unfold mCallL at af
  split at af
  case h_2 => exact af.elim
  rename_i g hg
  obtain ⟨v, hs, hvr⟩ := er.at_ i g hg
  cases hc : ap.ca g with
  | false => rw [hc, if_neg Bool.false_ne_true] at af; exact af.elim
  | true =>
    rw [hc, if_pos rfl] at af
    refine wpAny_Call_Name_kw (thn ((pe_var (pos := p) hN hv hdb hcd).run pins s σ H (fun v' H1 => v' = v ∧ H1 = H) I ⟨v, hs, rfl, rfl⟩) fun u s1 ⟨v', H1, I1, r1, q1⟩ => ?_)
    obtain ⟨ev, eH⟩ := q1
    subst ev
    rw [eH] at I1
    obtain ⟨a, rfl, fa⟩ := C.fn g v' s1 H Z μ hc I1.hok I1.kIn hvr
    obtain rfl : u = Value.ref a := r1
    refine PySem.W.callWith_F0 (first := []) fa (wpAny_call (codeAny_mono (C.run g a X.A X.stack s1 H [] [] [] Z μ S Q E hc hr I1.env0 r hvr VRs.nil .nil af) fun rr s' hq => ?_))
    cases rr with
    | error e => exact hx pins H s1 e s' I1 hq
    | ok fl =>
      cases fl with
      | ret u => exact I1.after hq
      | next => exact False.elim hq
      | brk => exact False.elim hq
      | cont => exact False.elim hq
theorem sm_tryK (C : CallC X.prog X.w X.K X.mg X.base G kk ap) (hr : Room kk X.A) (hGm : G.mg = X.mg) (hGe : ∀ (c : Str) (Ca a : Addr) (H : Hp), G.mg c = some (.ref Ca) → H a = some (ExO a Ca) → G.ex c a H) (hs : X.stack = X.env :: X.outer) (hf : X.env.frame = some X.env.locals) (hex : X.ex = []) (hN : X.N.Nodup)
    (hi : X.N[i]? = some x) (hv : Vis X.env.scope x) (hk : X.N[k]? = some n) (hln : X.env.kindOf n = some .local) (hvn : Vis X.env.scope n) (hj : X.N[j]? = some y) (hly : Loc X.env.scope y) (hjk : j ≠ k) (hc : Names X cn cv)
    (hcs : ∀ c ∈ cs, ∃ Ca, X.mg c = some (.ref Ca) ∧ PySem.W.exmOne X.K (.ref Ca) cv = some true) (hdb : (x == ("__debug__" : Str)) = false := by decide) (hcd : (x == ("__classdict__" : Str)) = false := by decide) (hdb2 : (n == ("__debug__" : Str)) = false := by decide) (hcd2 : (n == ("__classdict__" : Str)) = false := by decide)
    (hsw : swapsWith (.Call (.Name x p) [] [] cp) none ep.line X.env = pure false := by rfl) (hsw2 : swapsWith (.Name n pn2) (some (.Name y py)) pa.line X.env = pure false := by rfl) (hfy : X.fn y = true ∨ X.env.scope.names.lookup y = some .local := by first | exact .inl rfl | exact .inr rfl | assumption) :
    PS X (.Try [.Expr (.Call (.Name x p) [] [] cp) ep] [.ExceptHandler (some (.Name cn np)) (some n) [.Assign [.Name y py] (.Name n pn2) pa] pos'] [] [] pos) (tS G E (mTryK ap i j k cs)) := by
  have T := ps_try_keep (pos := pos) (pos' := pos') (np := np) (i := k) (n := n) (x := cn) (c := cv) (body := [.Expr (.Call (.Name x p) [] [] cp) ep]) (b₀ := .Assign [.Name y py] (.Name n pn2) pa) (suite := []) (tb := fun W D σ H => tM G (WE W σ) (mCallL ap i mNil) σ H fun _ H' => D.nx σ H') (ts := fun _ => tAsg (tVar k) (gName j)) hs hf hex hN hk hln hc ?_ ?_
  · refine T.weak fun D σ H ⟨ρ, S, Z, μ, r, er, af⟩ => ?_
    refine ⟨ρ, S, Z, μ, r, er, ?_⟩
    unfold mTryK at af
    cases e1 : mCallL ap i mNil ρ S with
    | stuck => rw [e1] at af; exact af.elim
    | ok w S' =>
      rw [e1] at af
      exact fun Z' μ' H' g r' v hw => af Z' μ' H' g r' σ (er.mono r g)
    | err c S' =>
      rw [e1] at af
      dsimp only at af
      split at af
      case isFalse => exact af.elim
      rename_i hcc
      obtain ⟨hcc, hkl⟩ := Bool.and_eq_true_iff.mp hcc
      have hkl := of_decide_eq_true hkl
      obtain ⟨Ca, h1, h2⟩ := hcs c (by simpa using hcc)
      refine fun Z' μ' H' g r' => ⟨Ca, by rw [hGm]; exact h1, Ca, rfl, rfl, h2, fun a na => ?_⟩
      have er' := er.mono r g
      refine ⟨.ref a, by rw [List.getElem?_set_self (by rw [er'.len]; exact hkl)], fun na' => ?_⟩
      have gn : Grow Z' μ' H' Z' μ' (upd H' a (ExO a Ca)) := Grow.add na'
      refine af Z' μ' _ (Grow.trans r' g gn) (r'.add na') _ ?_
      have er2 := er'.mono r' gn
      have hv : VR G Z' μ' (upd H' a (ExO a Ca)) (.exc c) (.ref a) := by
        unfold VR
        exact ⟨a, rfl, hGe c Ca a _ (by rw [hGm]; exact h1) upd_same⟩
      have er3 := er2.set hv j
      refine ⟨by simp [er3.len, er2.len], fun m u hm => ?_⟩
      by_cases hmk : m = k
      · subst hmk
        rw [List.getElem?_set_self (by rw [List.length_set]; exact hkl)] at hm
        cases hm
      · rw [List.getElem?_set_ne (Ne.symm hmk)] at hm
        obtain ⟨v, q1, q2⟩ := er3.at_ m u hm
        refine ⟨v, ?_, q2⟩
        rw [List.getElem?_set_ne (Ne.symm hmk)]
        by_cases hmj : m = j
        · subst hmj
          rw [List.getElem?_set] at q1 ⊢
          simpa using q1
        · rw [List.getElem?_set_ne (Ne.symm hmj)] at q1 ⊢
          rw [List.getElem?_set_ne (Ne.symm hmk)]
          exact q1
  · intro W pn xe tk hp
    refine ⟨fun pins s σ H D I h => ?_⟩
    have hx : PassesAt (L2.CX X.prog X.w) (X.tr pn xe) σ (WE W σ) := passAt tk σ
    exact (pss_one (ps_expr (X := X.tr pn xe) (callL0_at (X := X.tr pn xe) (E := WE W σ) (σ0 := σ) C hr hx hi hv hdb hcd) hsw)).run pins s σ H D I ⟨rfl, h⟩
  · intro a oe pn hd
    exact pss_one (ps_set (X := X.suite a ((a, oe) :: pn)) hN hj hly (pe_var (X := X.suite a ((a, oe) :: pn)) hk hvn hdb2 hcd2) hsw2 hfy)
end
end Mo

set_option Elab.async false
set_option linter.all false
set_option maxRecDepth 100000
set_option autoImplicit false
/-! Mon20: isinstance of a kept exception. -/
namespace Mo
open PySem PySem.Spec L2
open PyProof.Rows hiding St

def isxW (xs : List Str) (tb : Str → Str → Bool) (ws : List W) (S : Sto) : R W := match ws with
  | [.exc c, .glob d] => if xs.contains c && xs.contains d then .ok (.bl (tb c d)) S else .stuck
  | [.exc c, .ty n] => if xs.contains c && (n == "ValueError") then .ok (.bl true) S else .stuck
  | [.non, .glob d] => if xs.contains d then .ok (.bl false) S else .stuck
  | [.non, .ty n] => if n == "ValueError" then .ok (.bl false) S else isiW [.non, .ty n] S
  | ws => isiW ws S
structure ExT (K : PySem.W.Frag) (mg : Str → Option Value) (xs : List Str) (tb : Str → Str → Bool) : Prop where
  exc : ∀ c ∈ xs, ∀ C : Addr, mg c = some (.ref C) → ExcC K C ∧ PySem.W.kitOne K (.ref C) (.type "ValueError") = some true
  sub : ∀ c ∈ xs, ∀ d ∈ xs, ∀ C D : Addr, mg c = some (.ref C) → mg d = some (.ref D) → PySem.W.kitOne K (.ref C) (.ref D) = some (tb c d)
  non : ∀ d ∈ xs, ∀ D : Addr, mg d = some (.ref D) → PySem.W.kitOne K (.type "NoneType") (.ref D) = some false
  nve : PySem.W.kitOne K (.type "NoneType") (.type "ValueError") = some false
section
variable {X : Cx} {G : Glo} {E : XK} {Z : Addr → Prop} {μ : List Addr} {H : Hp} {S : Sto}
theorem exO_at {pins : List (Addr × Obj)} {σ : L2.St} {s : Shared} {a C : Addr} (I : Inv X pins σ H s) (h : H a = some (ExO a C)) : ∃ ox, PySem.W.InstAt s.heap a ox C none := by
  obtain ⟨⟨oe, hget, hz, vs, hv⟩, _, _⟩ := I.hok a _ h
  obtain ⟨oc, od, oda, osl⟩ := oe
  obtain ⟨h1, h2⟩ := hz
  dsimp only at h1 h2 hv
  subst h1 h2 hv
  exact ⟨_, hget, rfl, rfl, trivial⟩
theorem c_isx (hK : X.K = G.K) {xs : List Str} {tb : Str → Str → Bool} (T : ExT X.K X.mg xs tb) (hm : G.mg = X.mg) (hGe : ∀ (c : Str) (a : Addr) (H : Hp), G.ex c a H → ∃ C, G.mg c = some (.ref C) ∧ H a = some (ExO a C)) : CallR X (.builtin "isinstance") (cM G E (isxW xs tb)) := by
  intro pins s σ H vs us Q I rv ⟨ws, S, Z, μ, r, hv, af⟩
  have exv : ∀ {c : Str} {v : V}, VR G Z μ H (.exc c) v → ∃ a C, v = .ref a ∧ X.mg c = some (.ref C) ∧ H a = some (ExO a C) := fun {c v} h => by
    unfold VR at h
    obtain ⟨a, rfl, h⟩ := h
    obtain ⟨C, h1, h2⟩ := hGe _ _ _ h
    exact ⟨a, C, rfl, by rw [← hm]; exact h1, h2⟩
  have glv : ∀ {d : Str} {v : V}, VR G Z μ H (.glob d) v → ∃ D, v = .ref D ∧ X.mg d = some (.ref D) := fun {d v} h => by
    unfold VR at h
    obtain ⟨D, h1, rfl⟩ := h
    exact ⟨D, rfl, by rw [← hm]; exact h1⟩
  unfold isxW at af
  split at af
  · rename_i c d
    split at af
    case isFalse => exact af.elim
    rename_i hc
    obtain ⟨hc1, hc2⟩ := Bool.and_eq_true_iff.mp hc
    have hc1 : c ∈ xs := by simpa using hc1
    have hc2 : d ∈ xs := by simpa using hc2
    obtain ⟨v, u, rfl, h1, h2⟩ := two_of hv
    obtain ⟨a, C, rfl, m1, q1⟩ := exv h1
    obtain ⟨D, rfl, m2⟩ := glv h2
    obtain ⟨u1, u2, rfl, r1, r2⟩ := vals2 rv
    cases r1; cases r2
    obtain ⟨ox, J⟩ := exO_at I q1
    obtain ⟨Ce, _⟩ := T.exc c hc1 C m1
    exact PySem.W.kia_one (PySem.W.handS_kitx_exc Ce.hg Ce.hk Ce.hs Ce.hd Ce.ha Ce.hn Ce.ht Ce.hm) I.kIn J (T.sub c hc1 d hc2 C D m1 m2) (fun z => nomatch z) fun tk => ⟨.bl (tb c d), H, I.kept (t' := tk) fun _ _ z => z, rfl, end_val r (vr_bl _ _ _) af⟩
  · rename_i c n
    split at af
    case isFalse => exact af.elim
    rename_i hc
    obtain ⟨hc1, hc2⟩ := Bool.and_eq_true_iff.mp hc
    have hc1 : c ∈ xs := by simpa using hc1
    have hc2 : n = "ValueError" := by simpa using hc2
    subst hc2
    obtain ⟨v, u, rfl, h1, h2⟩ := two_of hv
    obtain ⟨a, C, rfl, m1, q1⟩ := exv h1
    have e2 := i_ty h2
    subst e2
    obtain ⟨u1, u2, rfl, r1, r2⟩ := vals2 rv
    cases r1; cases r2
    obtain ⟨ox, J⟩ := exO_at I q1
    obtain ⟨Ce, hve⟩ := T.exc c hc1 C m1
    exact PySem.W.kia_one (PySem.W.handS_kitx_exc Ce.hg Ce.hk Ce.hs Ce.hd Ce.ha Ce.hn Ce.ht Ce.hm) I.kIn J hve (fun z => nomatch z) fun tk => ⟨.bl true, H, I.kept (t' := tk) fun _ _ z => z, rfl, end_val r (vr_bl _ _ _) af⟩
  · rename_i d
    split at af
    case isFalse => exact af.elim
    rename_i hc
    have hc2 : d ∈ xs := by simpa using hc
    obtain ⟨v, u, rfl, h1, h2⟩ := two_of hv
    have e1 := i_non h1
    subst e1
    obtain ⟨D, rfl, m2⟩ := glv h2
    obtain ⟨u1, u2, rfl, r1, r2⟩ := vals2 rv
    cases r1; cases r2
    exact PySem.W.kia_one PySem.W.kitx_none I.kIn trivial (T.non d hc2 D m2) (fun z => nomatch z) fun tk => ⟨.bl false, H, I.kept (t' := tk) fun _ _ z => z, rfl, end_val r (vr_bl _ _ _) af⟩
  · rename_i n
    split at af
    · rename_i hc
      have hc2 : n = "ValueError" := by simpa using hc
      subst hc2
      obtain ⟨v, u, rfl, h1, h2⟩ := two_of hv
      have e1 := i_non h1
      subst e1
      have e2 := i_ty h2
      subst e2
      obtain ⟨u1, u2, rfl, r1, r2⟩ := vals2 rv
      cases r1; cases r2
      exact PySem.W.kia_one PySem.W.kitx_none I.kIn trivial T.nve (fun z => nomatch z) fun tk => ⟨.bl false, H, I.kept (t' := tk) fun _ _ z => z, rfl, end_val r (vr_bl _ _ _) af⟩
    · exact c_isi hK pins s σ H vs us Q I rv ⟨_, S, Z, μ, r, hv, af⟩
  · exact c_isi hK pins s σ H vs us Q I rv ⟨_, S, Z, μ, r, hv, af⟩
end
end Mo

set_option Elab.async false
set_option linter.all false
set_option maxRecDepth 100000
set_option autoImplicit false
/-! Mon21: closures of the maker's frame, handed to a def within a comprehension of it. -/
namespace Mo
open PySem PySem.Spec L2
open PyProof.Rows hiding St
open LamX (CodeO TabS Tabs ExtN TabB)
section
variable {X : Cx}
theorem lc_coreK {pins : List (Addr × Obj)} {s : Shared} {σ : St} {H : Hp} {Q : VK} {elt tg iter : Expr} {ifs : List Expr} {scope : Scope} {own : List (Str × Nat)} {pos pos' : Pos} {wi : TI} {g : TG} {tt : TT} {te : TE} {use : Option (Value → Sem Unit)} {Qf : Value → Shared → Prop}
    (hc : X.calm = true) (hN : X.N.Nodup) (I : Inv X pins σ H s) (hi : PI X tg iter wi) (ok : BlkOk X.N X.env.scope scope own)
    (hg : ∀ (s : Shared) (H : Hp) (C : Addr) (cl : List (Str × Addr)) (fp : List Addr), PG (X.blk s H scope (compEnvC scope cl C X.env) fp) tg g) (ht : ∀ (s : Shared) (H : Hp) (C : Addr) (cl : List (Str × Addr)) (fp : List Addr), PTs (X.blk s H scope (compEnvC scope cl C X.env) fp) ifs tt)
    (he : ∀ (s : Shared) (H : Hp) (C : Addr) (cl : List (Str × Addr)) (fp : List Addr), Inv X pins σ H s → (∀ b ∈ fp, FpOk X pins H b) → PE (X.blk s H scope (compEnvC scope cl C X.env) fp) elt (fun σ8 H8 Q => L2.wipe σ8 (own.map (·.2)) = L2.wipe σ (own.map (·.2)) ∧ te σ8 H8 Q)) (hs : ∀ x, foldedSetIterable iter X.env x = pure x)
    (h : tLc wi g tt te (own.map (·.2)) σ H Q)
    (hRR : ∀ D C s' m H', Inv X pins σ H' s' → Q (.ref D) H' → s'.heap.Ns C m → FpOk X pins H' C → compPost (model X.prog X.w) X.A X.xe use Qf (.ref D) C (.ok .next) s') :
    wpAny (model X.prog X.w) X.A (comprehension (.ListComp elt [⟨tg, iter, ifs, 0⟩] scope pos) scope X.env pos' (newList []) false (eval iter X.env) use) Qf X.xe s := by
  have hfree : ∀ y ∈ scope.names, y.2 = .free → ∃ c, X.env.cells.lookup y.1 = some c := fun y hy e => by
    rcases ok.free y hy e with k | k
    · exact I.ok.has _ (.inl k)
    · exact I.ok.has _ (.inr k)
  refine wpAny_comprehension_free (use := use) rfl hs (closure_ok hfree) ok.kind (fun y hy e => by rw [ok.uniq y hy, e])
    (thn (hi.run pins s σ H _ I h) fun xv s1 hx => thn hx fun itv s2 h2 => ?_)
  obtain ⟨it, fp, tn, J, H2, e, I2, T, st2, f2, q⟩ := h2
  subst e
  refine wpAny_newObj_type (newEnv_comp ?_) (by show 0 ≤ sizeLine; decide)
  generalize hD : s2.heap.objs.size = D
  have hDn : H2 D = none := I2.hok.fresh (Nat.le_of_eq hD)
  obtain ⟨W, ⟨m0, w0⟩, turn⟩ := q D hDn
  -- the new list
  generalize hs3 : ({ s2 with heap := s2.heap.push { cls := .type "list", data := .seq ([] : List Value).toArray } } : Shared) = s3
  have I3 : Inv X pins σ (upd H2 D (.lst [])) s3 := by
    rw [← hs3]
    refine I2.laid (t' := s2.toks) (fun b o e => Heap.get?_push_of_some _ e) (Nat.le_of_eq hD) ⟨Nat.zero_le _, [], 0, .nil, ?_⟩
    rw [← hD]
    exact Heap.get?_push_size _ rfl
  have h3 : s3.heap = s2.heap.push { cls := .type "list", data := .seq ([] : List Value).toArray } := by rw [← hs3]
  have sz : ∀ b ∈ fp, b < s2.heap.objs.size := fun b hb => by
    obtain ⟨o, e, _⟩ := T.obj _ _ st2 b hb
    exact Heap.lt_size e
  have f3 : ∀ b ∈ fp, FpOk X pins (upd H2 D (.lst [])) b ∧ b < s3.heap.objs.size := fun b hb => by
    have hlt := sz b hb
    refine ⟨⟨?_, (f2 b hb).2⟩, by rw [h3, Heap.size_push]; exact Nat.lt_succ_of_lt hlt⟩
    rw [upd_ne (by rw [← hD]; exact Nat.ne_of_lt hlt)]
    exact (f2 b hb).1
  have st3 : tn 0 s3.heap := T.keep _ _ _ st2 fun b _ o e => by rw [h3]; exact Heap.get?_push_of_some _ e
  have I4 := block_start I3 ok hN f3
  have pg := hg s3 (upd H2 D (.lst [])) s3.heap.objs.size (cellsFrom (s3.heap.objs.size + 1) scope.names (cloFrom X.env.cells scope.names [])) fp
  have pt := ht s3 (upd H2 D (.lst [])) s3.heap.objs.size (cellsFrom (s3.heap.objs.size + 1) scope.names (cloFrom X.env.cells scope.names [])) fp
  have pe := he s3 (upd H2 D (.lst [])) s3.heap.objs.size (cellsFrom (s3.heap.objs.size + 1) scope.names (cloFrom X.env.cells scope.names [])) fp I3 (fun b hb => (f3 b hb).1)
  show codeAny _ _ (.compStart (.ListComp elt [⟨tg, iter, ifs, 0⟩] scope pos) 0 (.ref it) (.ref D) (compEnvC scope (cellsFrom (s3.heap.objs.size + 1) scope.names (cloFrom X.env.cells scope.names [])) s3.heap.objs.size X.env)) (compPost (model X.prog X.w) X.A X.xe use Qf (.ref D) s3.heap.objs.size) { s3 with heap := pushCells (s3.heap.push { cls := .type "dict", data := .dict #[] }) scope.names }
  have nfp : ∀ b ∈ fp, (upd H2 D (.lst [])) b = none := fun b hb => (f3 b hb).1.1
  generalize hce : compEnvC scope (cellsFrom (s3.heap.objs.size + 1) scope.names (cloFrom X.env.cells scope.names [])) s3.heap.objs.size X.env = ce at I4 pg pt pe ⊢
  have cL : ce.locals = s3.heap.objs.size := by subst hce; rfl
  generalize hH3 : upd H2 D (.lst []) = H3 at I3 I4 pg pt pe w0 nfp f3
  generalize hs4 : ({ s3 with heap := pushCells (s3.heap.push { cls := .type "dict", data := .dict #[] }) scope.names } : Shared) = s4 at I4 ⊢
  have st4 : tn 0 s4.heap := T.keep _ _ _ st3 fun b _ o e => by rw [← hs4]; exact pushCells_keeps _ _ _ _ (Heap.get?_push_of_some _ e)
  have stat : ∀ {σ' : St} {H' : Hp} {s' : Shared}, Inv (X.blk s3 H3 scope ce fp) [] σ' H' s' → (∀ b ∈ fp, H' b = none) → ∀ b ∈ fp, FpOk (X.blk s3 H3 scope ce fp) [] H' b := fun {σ' H' s'} I' hn b hb =>
    ⟨hn b hb, (I'.ok.exf b hb).1, I'.ok.exfs b hb, .inl hb, fun x c e => (I'.ok.exf b hb).2 x c e, fun p hp => absurd (show p ∈ ([] : List (Addr × Obj)) ++ [] from hp) (by simp)⟩
  have loop : codeAny (model X.prog X.w) X.A (.compLoop (.ListComp elt [⟨tg, iter, ifs, 0⟩] scope pos) 0 (.ref it) (.ref D) ce) (compPost (model X.prog X.w) X.A X.xe use Qf (.ref D) s3.heap.objs.size) s4 := by
    refine compLoop_any (fun n s' => ∃ i H', Inv (X.blk s3 H3 scope ce fp) [] (L2.wipe σ (own.map (·.2))) H' s' ∧ tn i s'.heap ∧ (∀ b ∈ fp, H' b = none) ∧ W i n H') ?_ m0 ⟨0, H3, I4, st4, nfp, w0⟩
    rintro n s5 ⟨i, H5, I5, st5, n5, w5⟩
    rcases turn i n H5 w5 with ⟨stop, qq⟩ | ⟨go, Nx, hNx, step⟩
    · have td := T.done (X.blk s3 H3 scope ce fp) rfl rfl rfl hc i [] s5 _ H5 (fun _ _ => False) I5 (stat I5 n5) st5 stop
      refine thnF td fun r s6 ⟨hr, I6⟩ => ?_
      subst hr
      -- back in the def's context
      have I7 : Inv X pins σ H5 s6 := I3.call' (ch := fp) I6.os I6.base I6.hok I6.bare fun b hb => ⟨(f3 b hb).1.2.2.2.1, (f3 b hb).1.2.1, (f3 b hb).1.2.2.2.2.1, (f3 b hb).1.2.2.2.2.2⟩
      have nC : H5 s3.heap.objs.size = none := by
        have z : H5 ce.locals = none := I6.free
        rw [cL] at z
        exact z
      obtain ⟨m, hn, _⟩ := I6.loc
      have hn : s6.heap.Ns ce.locals m := hn
      rw [cL] at hn
      exact hRR D s3.heap.objs.size s6 m H5 I7 qq hn (I3.fpOk (Nat.le_refl _) nC)
    · have ti := T.item (X.blk s3 H3 scope ce fp) rfl rfl rfl hc i [] s5 _ H5 (fun _ _ => False) I5 (stat I5 n5) st5 go
      refine thnF ti fun r s6 ⟨u, hr, h6⟩ => ?_
      subst hr
      refine thnF h6 fun _ s7 ⟨x, H7, I7, r7, y7, st7, n7⟩ => ?_
      have I7' := I7.pinned (stat I7 n7) (T.obj _ _ st7)
      refine thnF (pg.run _ s7 _ H7 x u _ I7' r7 (step x H7 y7)) fun _ s8 ⟨σ8, H8, I8, hw8, q8⟩ => ?_
      refine thnF (pt.run _ s8 σ8 H8 _ I8 q8) fun b s9 ⟨H9, I9, q9⟩ => ?_
      -- the turn's end
      have fin : ∀ {s' : Shared} {H' : Hp}, Inv (X.blk s3 H3 scope ce fp) ([] ++ pinsAt fp s7.heap) σ8 H' s' → Nx H' → ∃ m, m < n ∧ ∃ i H', Inv (X.blk s3 H3 scope ce fp) [] (L2.wipe σ (own.map (·.2))) H' s' ∧ tn i s'.heap ∧ (∀ b ∈ fp, H' b = none) ∧ W i m H' := fun {s' H'} I' nx => by
        obtain ⟨m', hm, w'⟩ := hNx H' nx
        have pin' : ∀ b ∈ fp, ∀ o, s7.heap.get? b = some o → s'.heap.get? b = some o ∧ H' b = none := fun b hb o e =>
          let z := I'.pin (b, o) (List.mem_append_right _ (List.mem_append_right _ (mem_pinsAt hb e)))
          ⟨z.1, z.2.1⟩
        have hl : (L2.wipe σ (own.map (·.2))).length = σ8.length := by rw [← hw8, L2.wipe_length]
        refine ⟨m', hm, i + 1, H', (I'.unpinned (pins := [])).weak hl (fun j v e => ?_), T.keep _ _ _ st7 fun b hb o e => (pin' b hb o e).1, fun b hb => ?_, w'⟩
        · rw [← hw8] at e
          exact (L2.wipe_some e).1
        · obtain ⟨o, e, _⟩ := T.obj _ _ st7 b hb
          exact (pin' b hb o e).2
      cases b with
      | false =>
        simp only [Bool.false_eq_true, if_false] at q9 ⊢
        exact fin I9 q9
      | true =>
        simp only [if_true] at q9 ⊢
        refine thnF (pe.run _ s9 σ8 H9 _ I9 ⟨hw8, q9⟩) fun z s10 ⟨yv, H10, I10, r10, acc, hD10, hz10, nx⟩ => ?_
        exact app_ok (X := X.blk s3 H3 scope ce fp) I10 hD10 hz10 r10 fun s11 I11 => fin I11 nx
  exact codeAny_compStart_list loop (T.self X.A 0 _ _ _ st4 loop)
theorem pe_lcK {elt tg iter : Expr} {ifs : List Expr} {scope : Scope} {own : List (Str × Nat)} {pos : Pos} {wi : TI} {g : TG} {tt : TT} {te : TE} (hc : X.calm = true) (hN : X.N.Nodup) (hi : PI X tg iter wi) (ok : BlkOk X.N X.env.scope scope own)
    (hg : ∀ (s : Shared) (H : Hp) (C : Addr) (cl : List (Str × Addr)) (fp : List Addr), PG (X.blk s H scope (compEnvC scope cl C X.env) fp) tg g) (ht : ∀ (s : Shared) (H : Hp) (C : Addr) (cl : List (Str × Addr)) (fp : List Addr), PTs (X.blk s H scope (compEnvC scope cl C X.env) fp) ifs tt)
    (he : ∀ (pins : List (Addr × Obj)) (σ : L2.St) (s : Shared) (H : Hp) (C : Addr) (cl : List (Str × Addr)) (fp : List Addr), Inv X pins σ H s → (∀ b ∈ fp, FpOk X pins H b) → PE (X.blk s H scope (compEnvC scope cl C X.env) fp) elt (fun σ8 H8 Q => L2.wipe σ8 (own.map (·.2)) = L2.wipe σ (own.map (·.2)) ∧ te σ8 H8 Q)) (hs : ∀ x, foldedSetIterable iter X.env x = pure x := by intro _; rfl) :
    PE X (.ListComp elt [⟨tg, iter, ifs, 0⟩] scope pos) (tLc wi g tt te (own.map (·.2))) := by
  refine ⟨fun pins s σ H Q I h => ?_⟩
  rw [eval_ListComp]
  refine lc_coreK hc hN I hi ok hg ht (he pins σ) hs h fun D C s' m H' I' q hn f => ⟨m, hn, fun h'' sb => ?_⟩
  obtain ⟨f0, f1, f2, f3, f4, f5⟩ := f
  exact ⟨.ref D, H', I'.turned (t' := s'.toks) (fun b o hb e => (sb.2 b hb).trans e) f0 f1 f3 f4 f5, rfl, q⟩
end
section
variable {X : Cx} {G : Glo} {E : XK} {elt tg iter : Expr} {ifs : List Expr} {scope : Scope} {mi : MI} {mt : MT} {me : ME} {pos spos : Pos} {g : TG} {t : MG} {is : List Nat} {own : List (Str × Nat)}
theorem em_lcK (hg : GM G is g t) (his : ∀ i ∈ is, i ∈ own.map (·.2)) (hc : X.calm = true) (hN : X.N.Nodup) (hi : PI X tg iter (tI G E mi)) (ok : BlkOk X.N X.env.scope scope own)
    (hp : ∀ (s : Shared) (H : Hp) (C : Addr) (cl : List (Str × Addr)) (fp : List Addr), PG (X.blk s H scope (compEnvC scope cl C X.env) fp) tg g) (ht : ∀ (s : Shared) (H : Hp) (C : Addr) (cl : List (Str × Addr)) (fp : List Addr), PTs (X.blk s H scope (compEnvC scope cl C X.env) fp) ifs (tMT G E0' mt))
    (he : ∀ (pins : List (Addr × Obj)) (σ : L2.St) (s : Shared) (H : Hp) (C : Addr) (cl : List (Str × Addr)) (fp : List Addr), Inv X pins σ H s → (∀ b ∈ fp, FpOk X pins H b) → PE (X.blk s H scope (compEnvC scope cl C X.env) fp) elt (fun σ8 H8 Q => L2.wipe σ8 (own.map (·.2)) = L2.wipe σ (own.map (·.2)) ∧ tM G E0' me σ8 H8 Q)) (hs : ∀ x, foldedSetIterable iter X.env x = pure x := by intro _; rfl) :
    PE X (.ListComp elt [⟨tg, iter, ifs, 0⟩] scope pos) (tM G E (mLc mi (own.map (·.2)) t mt me)) := (pe_lcK hc hN hi ok hp ht he hs).weak fun σ H Q h => lc_frozen hg his h
end
/-! ### the base in the block -/
section
variable {X : Cx} {pins pins1 : List (Addr × Obj)} {σ σ1 : L2.St} {H3 H1 : Hp} {s3 s1 : Shared} {scope : Scope} {ce : Env} {fp : List Addr}
theorem cell_nofr (I : Inv X pins σ H3 s3) (hfn : ∀ x, X.fn x = true) {b : Addr} (k : isCellOf X.env.cells b = true) : b ∉ frs X.stack := fun hL => by
  obtain ⟨y, hy⟩ := isCellOf_of k
  rcases List.mem_cons.mp (I.stkSub b hL) with e | e
  · exact I.cne y b hy e
  · obtain ⟨_, oL, hoL, _⟩ := I.ok.funs.mem e
    exact Nat.lt_irrefl _ (Nat.lt_of_lt_of_le (Heap.lt_size hoL) (I.ok.cab y b (hfn y) hy))
theorem env0_plusB (I : Inv X pins σ H3 s3) (hfn : ∀ x, X.fn x = true) (hfp : ∀ b ∈ fp, FpOk X pins H3 b) (I1 : Inv (X.blk s3 H3 scope ce fp) pins1 σ1 H1 s1) : Env0 X.prog X.w X.K X.mg (baseP X s3) X.A X.stack s1 H1 := by
  have e0 : Env0 X.prog X.w X.K X.mg X.base X.A X.stack s1 H1 := I1.env0
  have bb : ∀ b o, X.base.get? b = some o → (baseP X s3).get? b = some o := fun b o h => baseP_base I h
  refine ⟨e0.frames, ⟨fun a o h => bb a o (e0.mod.kin a o h), e0.mod.glob.keeps bb, ?_, e0.mod.nolimit.keeps bb⟩, fun b o h => ?_, ?_, ?_, e0.frf, e0.hok, e0.bare⟩
  · obtain ⟨mb, h1, h2⟩ := e0.mod.blt
    exact ⟨mb, h1.keeps bb, h2⟩
  · obtain ⟨h1, h2⟩ := baseP_of h
    rcases h2 with h2 | h2
    · obtain ⟨o', ho⟩ := Option.isSome_iff_exists.mp h2
      have q := (I.bs b o' ho).1
      rw [h1] at q
      cases q
      exact e0.bs b o ho
    · obtain ⟨y, hy⟩ := isCellOf_of h2
      have n3 := I.freeC y b hy
      have nfp : b ∉ fp := fun hb => (hfp b hb).2.2.2.2.1 y b hy rfl
      exact ⟨I1.base.keep b o h1 n3 (cell_nofr I hfn h2) nfp, I1.base.free b o h1 n3 nfp⟩
  · exact Nat.le_trans (Nat.le_of_eq (PySem.W.hideAll_size _ _)) I1.sz
  · refine L2.funFrames_none e0.funs fun L hL => ?_
    cases q : (baseP X s3).get? L with
    | none => rfl
    | some o =>
      obtain ⟨h1, h2⟩ := baseP_of q
      obtain ⟨k1, o', ho, hd⟩ := e0.funs.mem hL
      rcases h2 with h2 | h2
      · rw [k1] at h2; cases h2
      · exact absurd hL (cell_nofr I hfn h2)
end
end Mo

set_option Elab.async false
set_option linter.all false
set_option maxRecDepth 100000
set_option autoImplicit false
/-! Mon22: a def called with closures in a block of the maker's. -/
namespace Mo
open PySem PySem.Spec L2
open PyProof.Rows hiding St
open LamX (CodeO TabS Tabs ExtN TabB)
def mCallCB (n : Nat) (m : MD) (ms : List LamM) (own : List Nat) (r : MA) : ME := fun ρ S => (r ρ S).bind fun ws S1 => gCallC n m ms (wipeW ρ own) ws S1
section
variable {X : Cx} {T : List (Addr × Str)} {lams : List LamD} {ms : List LamM} {gs : List (Str × Nat × MD)} {E : XK}
theorem capOf_ok2 {pins : List (Addr × Obj)} {σ : L2.St} {H0 H : Hp} {s : Shared} {Z : Addr → Prop} {μ : List Addr} {ρ : Env'} {G G' : Glo} (hK : G'.K = G.K) (hm : G'.mg = G.mg) (he : G'.ex = G.ex) (I : Inv X pins σ H0 s) (er : ∀ (j : Nat) (u : W), ρ[j]? = some (some u) → ∃ v : V, σ[j]? = some (some v) ∧ VR G Z μ H u v) : ∀ (js : List Nat) (fr : List Str) (us : List W), capOf ρ js = some us → js.length = fr.length → (∀ (i : Nat) (y : Str), fr[i]? = some y → ∃ j : Nat, js[i]? = some j ∧ X.N[j]? = some y ∧ X.env.scope.names.lookup y = some .cell) →
    ∃ vs, VRs G' Z [] H us vs ∧ vs.length = fr.length ∧ ∀ (i : Nat) (y : Str), fr[i]? = some y → ∃ (c : Addr) (oc : Obj) (u : Value) (v : V), X.env.cells.lookup y = some c ∧ (baseP X s).get? c = some oc ∧ oc.data = .cell (some u) ∧ vs[i]? = some v ∧ RelV v u
  | [], [], us, e, _, _ => by
    unfold capOf at e; cases e
    exact ⟨[], VRs.nil, rfl, fun i y h => by simp at h⟩
  | j :: js, y :: fr, us, e, hl, hat => by
    unfold capOf at e
    split at e
    · rename_i u hu
      split at e
      · rename_i hn
        have hn' := Bool.and_eq_true_iff.mp hn
        split at e
        · rename_i us' e2
          cases e
          obtain ⟨vs, h1, h2, h3⟩ := capOf_ok2 hK hm he I er js fr us' e2 (by simpa using hl) fun i y h => by simpa using hat (i + 1) y (by simpa using h)
          obtain ⟨j', k1, k2, k3⟩ := hat 0 y rfl
          simp at k1
          subst k1
          obtain ⟨v, q1, q2⟩ := er j u hu
          obtain ⟨m, _, hl'⟩ := I.loc
          obtain ⟨uv, ru, lk⟩ := hl' j y v k2 q1 (.inr (.inl k3))
          refine ⟨v :: vs, VRs.cons (VR.reG hK hm he hn'.2 (VR.nr (fun _ h => h) hn'.1 q2)) h1, by simp [h2], fun i z hz => ?_⟩
          cases i with
          | zero =>
            simp at hz
            subst hz
            rcases lk with ⟨lk, _⟩ | ⟨_, c, hc, oc, ho, hd⟩
            · have lk' : X.env.scope.names.lookup y = some .local := lk
              rw [k3] at lk'; cases lk'
            · exact ⟨c, oc, uv, v, hc, baseP_at ho (.inr (isCellOf_lookup hc)), hd, rfl, ru⟩
          | succ i =>
            obtain ⟨c, oc, u2, v2, p1, p2, p3, p4, p5⟩ := h3 i z (by simpa using hz)
            exact ⟨c, oc, u2, v2, p1, p2, p3, by simpa using p4, p5⟩
        · cases e
      · cases e
    · cases e
  | [], _ :: _, _, _, hl, _ => by simp at hl
  | _ :: _, [], _, _, hl, _ => by simp at hl
theorem cvt_ok2 {pins : List (Addr × Obj)} {σ : L2.St} {H0 H : Hp} {s : Shared} {Z : Addr → Prop} {μ : List Addr} {ρ : Env'} (I : Inv X pins σ H0 s) (er : ∀ (j : Nat) (u : W), ρ[j]? = some (some u) → ∃ v : V, σ[j]? = some (some v) ∧ VR (gloM X T lams fun _ vs => vs = []) Z μ H u v) (hcap : ∀ (k : Nat) (L : LamD) (M : LamM), lams[k]? = some L → ms[k]? = some M → Capt X L M) :
    ∀ (w u : W) (v : V), cvt ms ρ w = some u → VR (gloM X T lams fun _ vs => vs = []) Z μ H w v → VR (gloM X T lams fun k vs => ∃ L, lams[k]? = some L ∧ CV (baseP X s) X.env.cells L vs) Z [] H u v := fun w u v e h => by
  unfold cvt at e
  split at e
  · rename_i k
    split at e
    · rename_i M eM
      split at e
      · rename_i us eu
        cases e
        unfold VR at h ⊢
        obtain ⟨a, vs, rfl, ⟨L, c', h1, h2, h3⟩, h4, h5⟩ := h
        have cp := hcap k L M h1 eM
        rw [cp.js] at eu
        obtain ⟨cs, k1, k2, k3⟩ := capOf_ok2 (G := gloM X T lams fun _ vs => vs = []) (G' := gloM X T lams fun k vs => ∃ L, lams[k]? = some L ∧ CV (baseP X s) X.env.cells L vs) rfl rfl rfl I er L.js L.fr us eu cp.len cp.at_
        exact ⟨a, cs, rfl, ⟨L, c', h1, h2, h3⟩, ⟨L, h1, k2, k3⟩, k1⟩
      · cases e
    · cases e
  · split at e
    · rename_i hn
      have hn' := Bool.and_eq_true_iff.mp hn
      cases e
      exact VR.reG (G := gloM X T lams fun _ vs => vs = []) (G' := gloM X T lams fun k vs => ∃ L, lams[k]? = some L ∧ CV (baseP X s) X.env.cells L vs) rfl rfl rfl hn'.2 (VR.nr (fun _ h => h) hn'.1 h)
    · cases e
/-- f(e, ..) in a block of the maker's -/
theorem em_callCB {pins : List (Addr × Obj)} {σ : L2.St} {H3 : Hp} {s3 : Shared} {scope : Scope} {ce : Env} {fp : List Addr} {own : List Nat} {kf kk n : Nat} {f : Addr} {x : Str} {p pos : Pos} {e : Expr} {es : List Expr} {mr : MA} {m : MD}
    (I3 : Inv X pins σ H3 s3) (hfp : ∀ b ∈ fp, FpOk X pins H3 b) (hfn : ∀ x, X.fn x = true) (hlen : lams.length = ms.length) (hcap : ∀ (k : Nat) (L : LamD) (M : LamM), lams[k]? = some L → ms[k]? = some M → Capt X L M)
    (hl : ∀ (B : Heap) (cv : Nat → List V → Prop) (k : Nat) (L : LamD) (M : LamM), lams[k]? = some L → ms[k]? = some M → X.Ok → LamOk X.prog X.w X.K X.mg B (gloM X T lams cv) kk (X.env.qual ++ "<lambda>") X.env.cells L M)
    (hgl : ∀ (B : Heap) (cv : Nat → List V → Prop) (x : Str) (n : Nat) (m : MD), gs.lookup x = some (n, m) → GlobOk X.prog X.w X.K X.mg B (gloM X T lams cv) (kk + 1) x n m)
    (F : ∀ (B : Heap) (cv : Nat → List V → Prop), CallC X.prog X.w X.K X.mg B (gloM X T lams cv) (kk + 1) (apM ms gs) → FG X.prog X.w X.K X.mg B (gloM X T lams cv) x kf n m)
    (hr : Room kf X.A) (hg : Gl (X.blk s3 H3 scope ce fp) x) (hm : X.mg x = some (.ref f)) (hk : PySem.W.keepIn X.K (.ref f) = true)
    (ha : PA (X.blk s3 H3 scope ce fp) (e :: es) (tMA (gloM X T lams fun _ vs => vs = []) E0' mr)) (hdb : (x == ("__debug__" : Str)) = false := by decide) (he : starEach (e :: es) ce = (false, eval e ce) :: starEach es ce := by rfl) (hpl : (backTo pos (starEach es ce)).any (·.1) = false := by rfl) :
    PE (X.blk s3 H3 scope ce fp) (.Call (.Name x p) (e :: es) [] pos) (fun σ8 H8 Q => L2.wipe σ8 own = L2.wipe σ own ∧ tM (gloM X T lams fun _ vs => vs = []) E0' (mCallCB n m ms own mr) σ8 H8 Q) := by
  refine ⟨fun pins1 s σ8 H Q I h => ?_⟩
  obtain ⟨hw8, ρ, S, Z, μ, r, er, af⟩ := h
  refine wpAny_Call_Name_kw (ld_glob I hg hm ?_ hdb)
  refine PySem.W.callWith_K (h₀ := X.base) I.ok.mod.kin hk (thn (ha.run pos pins1 s σ8 H (fun vs H1 => ∃ ws S1 Z1 μ1, Rel (gloM X T lams fun _ vs => vs = []) Z1 μ1 H1 S1 ∧ ER (gloM X T lams fun _ vs => vs = []) Z1 μ1 H1 ρ σ8 ∧ VRs (gloM X T lams fun _ vs => vs = []) Z1 μ1 H1 ws vs ∧ Aft (gloM X T lams fun _ vs => vs = []) E0' Z1 μ1 H1 (gCallC n m ms (wipeW ρ own) ws S1) (PQ (gloM X T lams fun _ vs => vs = []) Q)) I ?_) fun us s1 ⟨vs, H1, I1, rv, q⟩ => ⟨I1.kIn, ?_⟩) he hpl
  · exact ⟨ρ, S, Z, μ, r, er, Aft.imp (Aft.bind af) fun ws Z1 μ1 H1 S1 _ g1 r1 a1 vs hvs => ⟨ws, S1, Z1, μ1, r1, er.mono r g1, hvs, a1⟩⟩
  · obtain ⟨ws, S1, Z1, μ1, r1, er1, hvs, a1⟩ := q
    have e0 := env0_plusB I3 hfn hfp I1
    have C : CallC X.prog X.w X.K X.mg (baseP X s3) (gloM X T lams fun k vs => ∃ L, lams[k]? = some L ∧ CV (baseP X s3) X.env.cells L vs) (kk + 1) (apM ms gs) :=
      callC_of I3.ok.inj (fun k vs ⟨L, h1, h2⟩ L' h3 => by rw [h1] at h3; cases h3; exact h2) hlen (fun k L M h1 h2 => hl _ _ k L M h1 h2 I3.ok) (fun x n m h => hgl _ _ x n m h)
    obtain ⟨f', fd, ps, g1, _, Fn, hb, _, _⟩ := (F _ _ C).ex
    have ef := g1.symm.trans hm
    cases ef
    have er' : ∀ (j : Nat) (u : W), (wipeW ρ own)[j]? = some (some u) → ∃ v : V, σ[j]? = some (some v) ∧ VR (gloM X T lams fun _ vs => vs = []) Z1 μ1 H1 u v := fun j u hu => by
      obtain ⟨v, q1, q2⟩ := (er1.wipe own).at_ j u hu
      rw [hw8] at q1
      exact ⟨v, (L2.wipe_some q1).1, q2⟩
    have hsp : spM (gloM X T lams fun k vs => ∃ L, lams[k]? = some L ∧ CV (baseP X s3) X.env.cells L vs) n m vs H1 Q E0' := by
      unfold gCallC at a1
      split at a1
      case isFalse => exact a1.elim
      rename_i hn
      refine ⟨by rw [hvs.length]; exact hn, ?_⟩
      cases e1 : mapO (cvt ms (wipeW ρ own)) ws with
      | none => rw [e1] at a1; exact a1.elim
      | some us' =>
        rw [e1] at a1
        dsimp only at a1
        have fin : ∀ {Z' : Addr → Prop} {μ' : List Addr} {H' : Hp}, Grow Z1 [] H1 Z' μ' H' → Tabs T H' → Rel (gloM X T lams fun _ vs => vs = []) Z1 μ1 H' S1 ∧ Grow Z1 μ1 H1 Z1 μ1 H' := fun g hi => r1.extN (fun a o q ht => g.keep a o q (by simp) ht) g.th hi
        refine ⟨us', [], Z1, [], ⟨rfl, List.nodup_nil, fun a (h : a ∈ []) => (List.not_mem_nil h).elim, r1.zm, r1.inv, fun n a o h => by simp at h⟩, mapO_vr2 (G := gloM X T lams fun _ vs => vs = []) (fun w u v q1 q2 => cvt_ok2 I3 er' hcap w u v q1 q2) e1 hvs, ?_⟩
        cases e2 : m us' [] with
        | stuck => rw [e2] at a1; exact a1.elim
        | err c S' =>
          rw [e2] at a1
          exact fun Z' μ' H' g r' => a1 Z1 μ1 H' (fin g r'.inv).2 (fin g r'.inv).1
        | ok w S' =>
          rw [e2] at a1
          dsimp only at a1
          cases e3 : fz S' 6 w with
          | none => rw [e3] at a1; exact a1.elim
          | some w' =>
            rw [e3] at a1
            dsimp only at a1
            split at a1
            case isFalse => exact a1.elim
            rename_i hnc
            intro Z' μ' H' g r' v hw
            refine a1 Z1 μ1 H' (fin g r'.inv).2 (fin g r'.inv).1 v (VR.reG (G := gloM X T lams fun k vs => ∃ L, lams[k]? = some L ∧ CV (baseP X s3) X.env.cells L vs) (G' := gloM X T lams fun _ vs => vs = []) rfl rfl rfl hnc (fz_vr r' g.zk (fun a ha => ?_) 6 w w' v e3 hw))
            obtain ⟨e, rfl, fe⟩ := g.mu
            exact r1.fresh (fe a (by simpa using ha))
    have hl' : (us ++ [] : List Value).length = ps.length := by rw [List.append_nil, ← rv.length]; exact Fn.len _ _ _ _ hsp
    have hb' := hb s1 us I1.kIn hl'
    rw [List.append_nil] at hb'
    refine wpAny_call (codeAny_mono (Fn.run X.A X.stack s1 H1 ⟨us, []⟩ us vs Q E0' hr e0 hb' rv hsp) fun r s' hq => ?_)
    cases r with
    | error e => exact passL pins1 σ8 H1 s1 e s' I1 hq
    | ok fl =>
      cases fl with
      | ret u => exact I1.after hq
      | next => exact False.elim hq
      | brk => exact False.elim hq
      | cont => exact False.elim hq
/-- f(e, ..) in the maker's own frame -/
theorem em_callCF {kf kk n : Nat} {f : Addr} {x : Str} {p pos : Pos} {e : Expr} {es : List Expr} {mr : MA} {m : MD} (hfn : ∀ x, X.fn x = true) (hlen : lams.length = ms.length) (hcap : ∀ (k : Nat) (L : LamD) (M : LamM), lams[k]? = some L → ms[k]? = some M → Capt X L M)
    (hl : ∀ (B : Heap) (cv : Nat → List V → Prop) (k : Nat) (L : LamD) (M : LamM), lams[k]? = some L → ms[k]? = some M → X.Ok → LamOk X.prog X.w X.K X.mg B (gloM X T lams cv) kk (X.env.qual ++ "<lambda>") X.env.cells L M)
    (hgl : ∀ (B : Heap) (cv : Nat → List V → Prop) (x : Str) (n : Nat) (m : MD), gs.lookup x = some (n, m) → GlobOk X.prog X.w X.K X.mg B (gloM X T lams cv) (kk + 1) x n m)
    (F : ∀ (B : Heap) (cv : Nat → List V → Prop), CallC X.prog X.w X.K X.mg B (gloM X T lams cv) (kk + 1) (apM ms gs) → FG X.prog X.w X.K X.mg B (gloM X T lams cv) x kf n m)
    (hr : Room kf X.A) (hg : Gl X x) (hm : X.mg x = some (.ref f)) (hk : PySem.W.keepIn X.K (.ref f) = true)
    (hx : Passes (L2.CX X.prog X.w) X E) (ha : PA X (e :: es) (tMA (gloM X T lams fun _ vs => vs = []) E mr)) (hdb : (x == ("__debug__" : Str)) = false := by decide) (he : starEach (e :: es) X.env = (false, eval e X.env) :: starEach es X.env := by rfl) (hpl : (backTo pos (starEach es X.env)).any (·.1) = false := by rfl) :
    PE X (.Call (.Name x p) (e :: es) [] pos) (tM (gloM X T lams fun _ vs => vs = []) E (mCallC n m ms mr)) := by
  refine ⟨fun pins s σ H Q I h => ?_⟩
  obtain ⟨ρ, S, Z, μ, r, er, af⟩ := h
  refine wpAny_Call_Name_kw (ld_glob I hg hm ?_ hdb)
  refine PySem.W.callWith_K (h₀ := X.base) I.ok.mod.kin hk (thn (ha.run pos pins s σ H (fun vs H1 => ∃ ws S1 Z1 μ1, Rel (gloM X T lams fun _ vs => vs = []) Z1 μ1 H1 S1 ∧ ER (gloM X T lams fun _ vs => vs = []) Z1 μ1 H1 ρ σ ∧ VRs (gloM X T lams fun _ vs => vs = []) Z1 μ1 H1 ws vs ∧ Aft (gloM X T lams fun _ vs => vs = []) E Z1 μ1 H1 (gCallC n m ms ρ ws S1) (PQ (gloM X T lams fun _ vs => vs = []) Q)) I ?_) fun us s1 ⟨vs, H1, I1, rv, q⟩ => ⟨I1.kIn, ?_⟩) he hpl
  · exact ⟨ρ, S, Z, μ, r, er, Aft.imp (Aft.bind af) fun ws Z1 μ1 H1 S1 _ g1 r1 a1 vs hvs => ⟨ws, S1, Z1, μ1, r1, er.mono r g1, hvs, a1⟩⟩
  · obtain ⟨ws, S1, Z1, μ1, r1, er1, hvs, a1⟩ := q
    have e0 := env0_plus I1 hfn
    have C : CallC X.prog X.w X.K X.mg (baseP X s1) (gloM X T lams fun k vs => ∃ L, lams[k]? = some L ∧ CV (baseP X s1) X.env.cells L vs) (kk + 1) (apM ms gs) :=
      callC_of I1.ok.inj (fun k vs ⟨L, h1, h2⟩ L' h3 => by rw [h1] at h3; cases h3; exact h2) hlen (fun k L M h1 h2 => hl _ _ k L M h1 h2 I1.ok) (fun x n m h => hgl _ _ x n m h)
    obtain ⟨f', fd, ps, g1, _, Fn, hb, _, _⟩ := (F _ _ C).ex
    have ef := g1.symm.trans hm
    cases ef
    have hsp : spM (gloM X T lams fun k vs => ∃ L, lams[k]? = some L ∧ CV (baseP X s1) X.env.cells L vs) n m vs H1 Q E := by
      unfold gCallC at a1
      split at a1
      case isFalse => exact a1.elim
      rename_i hn
      refine ⟨by rw [hvs.length]; exact hn, ?_⟩
      cases e1 : mapO (cvt ms ρ) ws with
      | none => rw [e1] at a1; exact a1.elim
      | some us' =>
        rw [e1] at a1
        dsimp only at a1
        have fin : ∀ {Z' : Addr → Prop} {μ' : List Addr} {H' : Hp}, Grow Z1 [] H1 Z' μ' H' → Tabs T H' → Rel (gloM X T lams fun _ vs => vs = []) Z1 μ1 H' S1 ∧ Grow Z1 μ1 H1 Z1 μ1 H' := fun g hi => r1.extN (fun a o q ht => g.keep a o q (by simp) ht) g.th hi
        refine ⟨us', [], Z1, [], ⟨rfl, List.nodup_nil, fun a (h : a ∈ []) => (List.not_mem_nil h).elim, r1.zm, r1.inv, fun n a o h => by simp at h⟩, mapO_vr2 (G := gloM X T lams fun _ vs => vs = []) (fun w u v q1 q2 => cvt_ok I1 er1 hcap w u v q1 q2) e1 hvs, ?_⟩
        cases e2 : m us' [] with
        | stuck => rw [e2] at a1; exact a1.elim
        | err c S' =>
          rw [e2] at a1
          exact fun Z' μ' H' g r' => a1 Z1 μ1 H' (fin g r'.inv).2 (fin g r'.inv).1
        | ok w S' =>
          rw [e2] at a1
          dsimp only at a1
          cases e3 : fz S' 6 w with
          | none => rw [e3] at a1; exact a1.elim
          | some w' =>
            rw [e3] at a1
            dsimp only at a1
            split at a1
            case isFalse => exact a1.elim
            rename_i hnc
            intro Z' μ' H' g r' v hw
            refine a1 Z1 μ1 H' (fin g r'.inv).2 (fin g r'.inv).1 v (VR.reG (G := gloM X T lams fun k vs => ∃ L, lams[k]? = some L ∧ CV (baseP X s1) X.env.cells L vs) (G' := gloM X T lams fun _ vs => vs = []) rfl rfl rfl hnc (fz_vr r' g.zk (fun a ha => ?_) 6 w w' v e3 hw))
            obtain ⟨e, rfl, fe⟩ := g.mu
            exact r1.fresh (fe a (by simpa using ha))
    have hl' : (us ++ [] : List Value).length = ps.length := by rw [List.append_nil, ← rv.length]; exact Fn.len _ _ _ _ hsp
    have hb' := hb s1 us I1.kIn hl'
    rw [List.append_nil] at hb'
    refine wpAny_call (codeAny_mono (Fn.run X.A X.stack s1 H1 ⟨us, []⟩ us vs Q E hr e0 hb' rv hsp) fun r s' hq => ?_)
    cases r with
    | error e => exact hx pins σ H1 s1 e s' I1 hq
    | ok fl =>
      cases fl with
      | ret u => exact I1.after hq
      | next => exact False.elim hq
      | brk => exact False.elim hq
      | cont => exact False.elim hq
end
end Mo

set_option Elab.async false
set_option linter.all false
set_option maxRecDepth 100000
set_option autoImplicit false
/-! Mon23: the head's facts for these rules. -/
namespace Mo
open PySem PySem.Spec L2
open PyProof.Rows hiding St
open LamX (CodeO TabS Tabs ExtN TabB)
/-- a class of the module that may be raised -/
structure XC (K : PySem.W.Frag) (mg : Str → Option Value) (x : Str) : Prop where
  at_ : mg x = some (.ref (He.ga K x))
  ein : PySem.W.excIn K (He.ga K x) He.veBase "ValueError.__new__" = true
  kp : PySem.W.keepIn K (.ref (He.ga K x)) = true
  sub : PySem.W.subIn K (.ref (He.ga K x)) (.type "BaseException") = some true
  ty : PySem.W.typeIn K (.ref (He.ga K x)) = some (.type "type")
section
variable {X : Cx} {G : Glo} {E : XK} {P : Program} {w : World} {K : PySem.W.Frag} {mg : Str → Option Value}
theorem sm_raiseX {x m : Str} {j : Nat} {p p2 pos pos' : Pos} (c : XC X.K X.mg x) (hG : G.mg = X.mg) (tk : Takes X (fun cls d _ H => E cls d H)) (hc : X.calm = true := by rfl) (hg : Gl X x := by rfl) (hdb : (x == ("__debug__" : Str)) = false := by decide) :
    PS X (.Raise (some (.Call (.Name x p) [.Constant (.str m) j p2] [] pos)) none pos') (tS G E (mRaise x)) :=
  sm_raise hc tk (fun _ _ _ _ h => h) (pmk_own PySem.F.excBase_ValueError c.ein c.at_ c.kp (raises_own c.sub c.ty) hg hdb) (by rw [hG]; exact c.at_)
theorem tk_of {base : Heap} {N : List Str} {qual : Str} {scope : Scope} {f : Addr} {cd : Value} {A : Around} {outer : List Env} {s : Shared} {H : Hp} : Takes (cxOf (L2.CX P w) P w K mg base N qual scope f cd A outer s H E) (fun cls d _ H => E cls d H) := takes_of rfl rfl rfl rfl
theorem pas_ncx {base : Heap} {N : List Str} {F : NdefX.NF} {f : Addr} {A : Around} {outer : List Env} {s : Shared} {H : Hp} : Passes (L2.CX P w) (NdefX.ncx (L2.CX P w) P w K mg base N F f A outer s H E) E :=
  passes_call (takes_of rfl rfl rfl rfl) fun _ _ _ _ h => h
end
/-! ### isinstance's facts, told by a Bool -/
def fndB (K : PySem.W.Frag) (C : Addr) (m : Str) (o : Option Value) : Bool := decide (PySem.W.findIn K (.ref C) m = some o)
def excCB (K : PySem.W.Frag) (D : Addr) : Bool :=
  fndB K D "__getattribute__" (some (.builtin "BaseException.__getattribute__")) && (fndB K D "__getattr__" none && (decide (PySem.W.subIn K (.ref D) (.type "BaseException") = some true) && (PySem.W.hasDictIn K D &&
    (fndB K D "__class__" (some (.builtin "object.__class__")) && (decide (PySem.W.specialIn K (.builtin "object.__class__") "__get__" = some (some (.builtin "getset_descriptor.__get__"))) && (decide (PySem.W.takesIn K (.builtin "object.__class__") = some true) && decide (PySem.W.mroIn K D (.type "object") = some true)))))))
theorem excCB_ok {K : PySem.W.Frag} {D : Addr} (h : excCB K D = true) : ExcC K D := by
  unfold excCB fndB at h
  simp only [Bool.and_eq_true, decide_eq_true_eq] at h
  exact ⟨h.1, h.2.1, h.2.2.1, h.2.2.2.1, h.2.2.2.2.1, h.2.2.2.2.2.1, h.2.2.2.2.2.2.1, h.2.2.2.2.2.2.2⟩
def extB (xs : List Str) (tb : Str → Str → Bool) (K : PySem.W.Frag) : Bool :=
  xs.all (fun c => excCB K (He.ga K c) && (decide (PySem.W.kitOne K (.ref (He.ga K c)) (.type "ValueError") = some true) && (decide (PySem.W.kitOne K (.type "NoneType") (.ref (He.ga K c)) = some false) && xs.all fun d => decide (PySem.W.kitOne K (.ref (He.ga K c)) (.ref (He.ga K d)) = some (tb c d))))) &&
    decide (PySem.W.kitOne K (.type "NoneType") (.type "ValueError") = some false)
theorem extB_ok {xs : List Str} {tb : Str → Str → Bool} {K : PySem.W.Frag} {mg : Str → Option Value} (h : extB xs tb K = true) (hm : ∀ c ∈ xs, mg c = some (.ref (He.ga K c))) : ExT K mg xs tb := by
  unfold extB at h
  simp only [Bool.and_eq_true, List.all_eq_true, decide_eq_true_eq] at h
  obtain ⟨h1, h2⟩ := h
  refine ⟨fun c hc C e => ?_, fun c hc d hd C D e1 e2 => ?_, fun d hd D e => ?_, h2⟩
  · rw [hm c hc] at e; cases e
    exact ⟨excCB_ok (h1 c hc).1, (h1 c hc).2.1⟩
  · rw [hm c hc] at e1; cases e1
    rw [hm d hd] at e2; cases e2
    exact (h1 c hc).2.2.2 d hd
  · rw [hm d hd] at e; cases e
    exact (h1 d hd).2.2.1
/-! ### the law's call -/
theorem law_sp {G : Glo} {m : MD} {H : Hp} {a : Addr} {ns : List Int} (hi : G.inv H) (hS : SqL G.K H a (ns.map V.int)) (h : m [.scr ns] [] = .ok (.bl true) []) : spM G 1 m [.ref a] H (fun v _ => v = .bl true) fun _ _ _ => False := by
  refine ⟨rfl, [.scr ns], [], fun _ => False, [], ⟨rfl, List.nodup_nil, fun a (h : a ∈ []) => (List.not_mem_nil h).elim, fun a h => h.elim, hi, fun n a o h => by simp at h⟩, VRs.cons ?_ VRs.nil, ?_⟩
  · unfold VR
    refine ⟨a, rfl, ?_⟩
    rcases hS with h1 | h1
    · exact .inl ⟨h1, fun z => z⟩
    · exact .inr fun H' => .inr h1
  · rw [h]
    intro Z' μ' H' g r' v hv
    exact vr_bl_of hv
theorem hCX0 {P : Program} {w : World} {H : Hp} {s : Shared} {e : Value} {s' : Shared} (h : L2.CX P w [] H s (fun _ _ _ => False) e s') : False := by
  obtain ⟨_, _, _, _, _, _, _, _, _, _, _, _, z⟩ := h
  exact z
end Mo

set_option Elab.async false
set_option linter.all false
set_option maxRecDepth 100000
set_option autoImplicit false
/-! Mon24: where a lambda stands; what its maker's frame tells of it. -/
namespace Mo
open PySem PySem.Spec L2
open PyProof.Rows hiding St
open LamX (CodeO TabS Tabs ExtN TabB)
def noS : Stmt := .Pass ⟨0, 0, 0, 0⟩
def noE : Expr := .Constant .none 0 ⟨0, 0, 0, 0⟩
def sB (st : Stmt) (i : Nat) : Stmt := (match st with
  | .For _ _ b _ _ => b
  | .If _ b _ _ => b
  | .While _ b _ _ => b
  | _ => []).getD i noS
def sO (st : Stmt) (i : Nat) : Stmt := (match st with
  | .If _ _ b _ => b
  | _ => []).getD i noS
def sV (st : Stmt) : Expr := match st with
  | .Assign _ v _ => v
  | .Return (some v) _ => v
  | .Expr v _ => v
  | _ => noE
def eC (e : Expr) (i : Nat) : Expr := match e with
  | .List es _ => es.getD i noE
  | .Call _ es _ _ => es.getD i noE
  | .Tuple es _ _ => es.getD i noE
  | _ => noE
def laP : Expr → Arguments → Arguments
  | .Lambda a _ _ _, _ => a
  | _, a => a
def laB : Expr → Expr
  | .Lambda _ b _ _ => b
  | e => e
def laS : Expr → Scope → Scope
  | .Lambda _ _ s _, _ => s
  | _, s => s
theorem lookup1 {β : Type} {g x : Str} {p q : β} (h : [(g, p)].lookup x = some q) : x = g ∧ p = q := by
  unfold List.lookup at h
  cases e : x == g with
  | true => rw [e] at h; cases h; exact ⟨beq_iff_eq.mp e, rfl⟩
  | false => rw [e] at h; cases h
theorem Df.kp {K : PySem.W.Frag} {mg : Str → Option Value} {d : He.DefD} (D : Df K mg d) : PySem.W.keepIn K (.ref (He.fAd K d.at_)) = true := D.ex.elim fun _ F => F.kp
theorem Df.fgs {P : Program} {w : World} {K : PySem.W.Frag} {mg : Str → Option Value} {base : Heap} {G : Glo} {d : He.DefD} {ps : List Str} {k : Nat} (D : Df K mg d) (hb : ∀ (kV doc pm : Value) (an : Option Addr) (cdv ct : Value) (us : List Value), us.length = ps.length → bindArgs (PySem.W.fnOf d.name d.qual d.params d.body d.scope .none kV doc pm an cdv ct) ⟨us, []⟩ = pure (ps.zip us)) :
    FG P w K mg base G d.name k ps.length (fun _ _ => .stuck) := by
  obtain ⟨fd, F⟩ := D.ex
  have e := F.ex
  obtain ⟨oc, od, dV, kV, doc, pm, an, cdv, ct, osl, efd, lk, _⟩ := e
  exact ⟨_, fd, ps, D.at_, rfl, fn_stuck, F.bindsN hb, F.kp, oc, od, osl, lk⟩
section
variable {P : Program} {w : World} {K : PySem.W.Frag} {mg : Str → Option Value} {base : Heap} {G : Glo} {d : He.DefD} {N ps : List Str} {k : Nat} {mb : MS} {T : List (Addr × Str)} {lams lams' : List LamD} {q : Str} {cells : List (Str × Addr)} {cv : Nat → List V → Prop} {fd : FuncData}
theorem fgFn (F : FunD K d.name d.qual d.params d.body d.scope [] [] (He.fAd K d.at_) fd) (S : FnScope N ps d.scope)
    (hbody : ∀ (cdv : Value) (A : Around) (outer : List Env) (s : Shared) (H : Hp) (E : XK), Room k (A.deeper (envOfC d.qual d.scope s.heap.objs.size (He.fAd K d.at_) cdv)) → PSs (cxOf (L2.CX P w) P w K mg base N d.qual d.scope (He.fAd K d.at_) cdv A outer s H E) d.body (tS G E mb)) :
    FnOk P w K mg base (L2.CX P w) (k + 1) (He.fAd K d.at_) fd ps (spM G ps.length (mDef N.length mb)) := fn_ok F S hbody
theorem mkFn (F : FunD K d.name d.qual d.params d.body d.scope [] [] (He.fAd K d.at_) fd) (S : FnScope N ps d.scope)
    (hbody : ∀ (A : Around) (outer : List Env) (s : Shared) (H : Hp) (E : XK), Room k (A.deeper (envOfC d.qual d.scope s.heap.objs.size (He.fAd K d.at_) (.ref (He.cT K d.at_).1))) →
      PSs (cxOf (L2.CX P w) P w K mg base N d.qual d.scope (He.fAd K d.at_) (.ref (He.cT K d.at_).1) A outer s H E) d.body (tS (gloM (cxOf (L2.CX P w) P w K mg base N d.qual d.scope (He.fAd K d.at_) (.ref (He.cT K d.at_).1) A outer s H E) T lams fun _ vs => vs = []) E mb)) :
    FnOk P w K mg base (L2.CX P w) (k + 1) (He.fAd K d.at_) fd ps (spM (glo K mg T q lams' cells cv) ps.length (mkM N.length mb)) := by
  have e := F.ex
  obtain ⟨oc, od, dV, kV, doc, pm, an, cdv, ct, osl, efd, lk, _⟩ := e
  refine fn_mk (lams := lams) F S fun c A outer s H E ec hr => ?_
  have e2 : (He.cT K d.at_).1 = c := He.codeOf_eq lk ec
  rw [← e2] at hr ⊢
  exact hbody A outer s H E hr
theorem df_of {h : Heap} {fa : List He.Fa} {fn : List He.DefD} (X : K.In h) (G : h.Ns mainGlobals mg) (c : He.SaysD fa fn K) (hd : d ∈ fn) (hf : He.Fa.glo d.name ∈ fa) (h1 : d.at_ = (d.name, none)) (h2 : d.dfl = []) (h3 : d.kwd = []) : Df K mg d := by
  obtain ⟨fd, F⟩ := c.defs hd
  have e1 : d.dvs K = [] := by unfold He.DefD.dvs; rw [h2]; rfl
  have e2 : d.kws K = [] := by unfold He.DefD.kws; rw [h3]; rfl
  rw [e1, e2] at F
  refine ⟨?_, fd, F⟩
  rw [h1]
  exact He.glo_ok X G (c.facts hf)
theorem xc_of {h : Heap} {fa : List He.Fa} {fn : List He.DefD} {x : Str} (X : K.In h) (G : h.Ns mainGlobals mg) (c : He.SaysD fa fn K) (h1 : He.Fa.glo x ∈ fa) (h2 : He.Fa.exc x ∈ fa) : XC K mg x := by
  obtain ⟨k1, k2, k3, k4⟩ := He.exc_ok (c.facts h2)
  exact ⟨He.glo_ok X G (c.facts h1), k1, k2, k3, k4⟩
end
section
variable {X : Cx}
theorem capt_of {L : LamD} {M : LamM} (hj : M.js = L.js) (hl : L.js.length = L.fr.length) (h : ∀ p ∈ L.fr.zip L.js, X.N[p.2]? = some p.1 ∧ X.env.scope.names.lookup p.1 = some .cell) : Capt X L M := by
  refine ⟨hj, hl, fun i y hy => ?_⟩
  have hi : i < L.js.length := by rw [hl]; exact (List.getElem?_eq_some_iff.mp hy).1
  have hz : (L.fr.zip L.js)[i]? = some (y, L.js[i]) := by
    rw [List.getElem?_zip_eq_some]
    exact ⟨hy, List.getElem?_eq_getElem hi⟩
  obtain ⟨h1, h2⟩ := h _ (List.mem_of_getElem? hz)
  exact ⟨L.js[i], List.getElem?_eq_getElem hi, h1, h2⟩
end
end Mo

set_option Elab.async false
set_option linter.all false
set_option maxRecDepth 100000
set_option autoImplicit false
/-! Mon25: plain laws: loops, calls. -/
namespace Mo
open PySem PySem.Spec L2
theorem for_inv {g : MG} {body : MS} {wi : Its'} (hw : wi.at_ = none) (Iv : Nat → Env' → Sto → Prop) : ∀ (ws : List W) (k : Nat) (ρ : Env') (S : Sto), Iv k ρ S →
    (∀ (j : Nat) (w : W) (ρ : Env') (S : Sto), ws[j]? = some w → Iv (k + j) ρ S → ∃ ρ1 ρ2 S2, g w ρ = some ρ1 ∧ body ρ1 S = .ok (.nx ρ2) S2 ∧ Iv (k + j + 1) ρ2 S2) → ∃ ρ' S', forGo g body wi ws ρ S = .ok (.nx ρ') S' ∧ Iv (k + ws.length) ρ' S'
  | [], k, ρ, S, h, _ => ⟨ρ, S, by unfold forGo Its'.stays; rw [hw]; rfl, h⟩
  | w :: ws, k, ρ, S, h, step => by
    obtain ⟨ρ1, ρ2, S2, e1, e2, h2⟩ := step 0 w ρ S rfl h
    obtain ⟨ρ', S', e3, h3⟩ := for_inv hw Iv ws (k + 1) ρ2 S2 h2 fun j w ρ S hj hi => by
      have := step (j + 1) w ρ S (by simpa using hj) (by rw [← Nat.add_assoc, Nat.add_right_comm]; exact hi)
      rw [← Nat.add_assoc, Nat.add_right_comm k j 1] at this
      exact this
    refine ⟨ρ', S', ?_, by rw [List.length_cons, Nat.add_comm ws.length 1, ← Nat.add_assoc]; exact h3⟩
    unfold forGo
    have st : wi.stays S = true := by unfold Its'.stays; rw [hw]
    rw [st, if_pos rfl, e1]
    dsimp only
    rw [e2]
    exact e3
theorem rng_inv {g : MG} {body : MS} {r : MA} {ρ : Env'} {S : Sto} {n : Nat} (Iv : Nat → Env' → Sto → Prop) (hr : r ρ S = .ok [.int n] S) (hn : n < 100000) (h0 : Iv 0 ρ S)
    (step : ∀ (j : Nat) (ρ : Env') (S : Sto), j < n → Iv j ρ S → ∃ ρ1 ρ2 S2, g (.int j) ρ = some ρ1 ∧ body ρ1 S = .ok (.nx ρ2) S2 ∧ Iv (j + 1) ρ2 S2) : ∃ ρ' S', mFor (mRng1 r) g body ρ S = .ok (.nx ρ') S' ∧ Iv n ρ' S' := by
  have hl := rangeW_len n 0
  obtain ⟨ρ', S', e, h⟩ := for_inv (g := g) (body := body) (wi := ⟨rangeW 0 n, none⟩) rfl Iv (rangeW 0 n) 0 ρ S h0 fun j w ρ S hj hi => by
    obtain ⟨rfl, hlt⟩ := rangeW_get n 0 j w hj
    rw [Nat.zero_add] at hi ⊢
    rw [Int.zero_add]
    exact step j ρ S hlt hi
  rw [hl, Nat.zero_add] at h
  refine ⟨ρ', S', ?_, h⟩
  unfold mFor mRng1
  rw [hr]
  rw [R.bind_ok]
  dsimp only
  rw [if_pos ⟨by omega, by omega⟩, Int.toNat_natCast, R.bind_ok]
  exact e
theorem lc_go {g : MG} {me : ME} {ρ : Env'} {wi : Its'} {S : Sto} (hw : wi.at_ = none) : ∀ (ws us : List W), ws.length = us.length → (∀ (j : Nat) (w : W), ws[j]? = some w → ∃ ρ1 u, g w ρ = some ρ1 ∧ me ρ1 S = .ok u S ∧ us[j]? = some u) → lcGo g tYesM me ρ wi ws S = .ok us S
  | [], us, hl, _ => by
    have : us = [] := List.eq_nil_of_length_eq_zero (by simpa using hl.symm)
    subst this
    unfold lcGo Its'.stays
    rw [hw]; rfl
  | w :: ws, [], hl, _ => by simp at hl
  | w :: ws, u :: us, hl, h => by
    obtain ⟨ρ1, u', e1, e2, e3⟩ := h 0 w rfl
    cases e3
    have ih := lc_go (g := g) (me := me) (ρ := ρ) (wi := wi) (S := S) hw ws us (by simpa using hl) fun j w hj => by simpa using h (j + 1) w (by simpa using hj)
    unfold lcGo
    have st : wi.stays S = true := by unfold Its'.stays; rw [hw]
    rw [st, if_pos rfl, e1]
    dsimp only
    show R.bind (R.ok true S) _ = _
    rw [R.bind_ok]
    dsimp only
    rw [e2, R.bind_ok, ih, R.bind_ok]
theorem lc_rng {g : MG} {me : ME} {r : MA} {ρ : Env'} {S : Sto} {own : List Nat} {n : Nat} (us : List W) (hr : r ρ S = .ok [.int n] S) (hn : n < 100000) (hl : us.length = n) (h : ∀ j : Nat, j < n → ∃ ρ1 u, g (.int j) (wipeW ρ own) = some ρ1 ∧ me ρ1 S = .ok u S ∧ us[j]? = some u) :
    mLc (mRng1 r) own g tYesM me ρ S = .ok (.lst us) S := by
  have hl2 := rangeW_len n 0
  have e := lc_go (g := g) (me := me) (ρ := wipeW ρ own) (wi := ⟨rangeW 0 n, none⟩) (S := S) rfl (rangeW 0 n) us (by rw [hl2, hl]) fun j w hj => by
    obtain ⟨rfl, hlt⟩ := rangeW_get n 0 j w hj
    rw [Int.zero_add]
    exact h j hlt
  unfold mLc mLcI mRng1
  rw [hr, R.bind_ok]
  dsimp only
  rw [if_pos ⟨by omega, by omega⟩, Int.toNat_natCast, R.bind_ok]
  dsimp only
  rw [if_pos (by rw [hl2]; omega), e]
  rfl
theorem gPure_nr {n : Nat} {m : MD} {ws : List W} {S S' : Sto} {w : W} (h : m ws [] = .ok w S') (hl : ws.length = n) (hn : nrs ws = true) (hw : w.nr = true) : gPure n m ws S = .ok w S := by
  unfold gPure
  rw [if_pos hl, fz_nr hn]
  dsimp only
  rw [h]
  dsimp only
  have e : fz S' 6 w = some w := by unfold fz; rw [if_pos hw]
  rw [e]
  dsimp only
  rw [hn]
  rfl
theorem gPure_err {n : Nat} {m : MD} {ws : List W} {S S' : Sto} {c : Str} (h : m ws [] = .err c S') (hl : ws.length = n) (hn : nrs ws = true) : gPure n m ws S = .err c S := by
  unfold gPure
  rw [if_pos hl, fz_nr hn]
  dsimp only
  rw [h]
end Mo

set_option Elab.async false
set_option linter.all false
set_option maxRecDepth 100000
set_option maxHeartbeats 4000000
namespace Law62
open Mo PySem PySem.Spec L2
open PyProof.Rows hiding St
open LamX (CodeO TabS Tabs ExtN TabB)
abbrev row := PySem.Challenge.rw_nearkinds_k62_weights_of_words_by_rule
def top (i : Nat) : Stmt := PySem.Challenge.pw_nearkinds_k62_weights_of_words_by_rule.main.body.getD i (.Pass ⟨0, 0, 0, 0⟩)
abbrev s_is_whole : Stmt := top 21
def d_is_whole : He.DefD := ⟨("is_whole", none), "is_whole", "is_whole", defArgs s_is_whole, defBody s_is_whole, defScope s_is_whole, [], []⟩
abbrev s_is_upto : Stmt := top 22
def d_is_upto : He.DefD := ⟨("is_upto", none), "is_upto", "is_upto", defArgs s_is_upto, defBody s_is_upto, defScope s_is_upto, [], []⟩
abbrev s_need_from : Stmt := top 26
def d_need_from : He.DefD := ⟨("need_from", none), "need_from", "need_from", defArgs s_need_from, defBody s_need_from, defScope s_need_from, [], []⟩
abbrev s_power_of : Stmt := top 27
def d_power_of : He.DefD := ⟨("power_of", none), "power_of", "power_of", defArgs s_power_of, defBody s_power_of, defScope s_power_of, [], []⟩
abbrev s_lots_many : Stmt := top 28
def d_lots_many : He.DefD := ⟨("lots_many", none), "lots_many", "lots_many", defArgs s_lots_many, defBody s_lots_many, defScope s_lots_many, [], []⟩
abbrev s_need_kind_to : Stmt := top 29
def d_need_kind_to : He.DefD := ⟨("need_kind_to", none), "need_kind_to", "need_kind_to", defArgs s_need_kind_to, defBody s_need_kind_to, defScope s_need_kind_to, [], []⟩
abbrev s_words_weight : Stmt := top 30
def d_words_weight : He.DefD := ⟨("words_weight", none), "words_weight", "words_weight", defArgs s_words_weight, defBody s_words_weight, defScope s_words_weight, [], []⟩
abbrev s__law_cell_at : Stmt := top 32
def d__law_cell_at : He.DefD := ⟨("_law_cell_at", none), "_law_cell_at", "_law_cell_at", defArgs s__law_cell_at, defBody s__law_cell_at, defScope s__law_cell_at, [], []⟩
abbrev s__law_state : Stmt := top 33
def d__law_state : He.DefD := ⟨("_law_state", none), "_law_state", "_law_state", defArgs s__law_state, defBody s__law_state, defScope s__law_state, [], []⟩
abbrev s__law_take : Stmt := top 34
def d__law_take : He.DefD := ⟨("_law_take", none), "_law_take", "_law_take", defArgs s__law_take, defBody s__law_take, defScope s__law_take, [], []⟩
abbrev s__law_same : Stmt := top 35
def d__law_same : He.DefD := ⟨("_law_same", none), "_law_same", "_law_same", defArgs s__law_same, defBody s__law_same, defScope s__law_same, [], []⟩
abbrev s__law_refused : Stmt := top 36
def d__law_refused : He.DefD := ⟨("_law_refused", none), "_law_refused", "_law_refused", defArgs s__law_refused, defBody s__law_refused, defScope s__law_refused, [], []⟩
abbrev s__law_due : Stmt := top 37
def d__law_due : He.DefD := ⟨("_law_due", none), "_law_due", "_law_due", defArgs s__law_due, defBody s__law_due, defScope s__law_due, [], []⟩
abbrev s_law : Stmt := top 38
def d_law : He.DefD := ⟨("law", none), "law", "law", defArgs s_law, defBody s_law, defScope s_law, [], []⟩
def fn0 : List He.DefD := [d_is_whole, d_is_upto, d_need_from, d_power_of, d_lots_many, d_need_kind_to, d_words_weight, d__law_cell_at, d__law_state, d__law_take, d__law_same, d__law_refused, d__law_due, d_law]
def fn : List He.DefD := fn0
def frees0 : List Str := ["ValueError", "all", "bool", "int", "isinstance", "len", "list", "max", "min", "range", "tuple", "zip"]
def frees : List Str := frees0
def gints0 : List (Str × Int) := [("MOST_LONG", 12), ("MOST_SIGNS", 9)]
def gints : List (Str × Int) := gints0
def xcs0 : List Str := ["NearError", "NoTable", "NotSteady", "NoPlace", "NoKind", "NoMix", "NoNumber", "NoLot", "NoKinds", "NoPaper", "NoParting", "NoClosed", "NoWeights", "NotWhole", "NoNumbers", "TooMany", "NoText", "NoLine", "NoDeed"]
def xcs : List Str := xcs0
def xtb (c d : Str) : Bool := c == d || d == "NearError"
def tf : List (Str × Option Str) := [("law", none)]
def tabs (K : PySem.W.Frag) : List (Addr × Str) := [((He.cT K ("law", none)).2, (("law" ++ ".<locals>.") ++ "<lambda>" : Str))]
structure Fx (K : PySem.W.Frag) (mg : Str → Option Value) : Prop where
  df : ∀ (i : Nat) (d : He.DefD), fn[i]? = some d → Df K mg d
  fr : ∀ (i : Nat) (x : Str), frees[i]? = some x → mg x = none
  gi : ∀ (i : Nat) (x : Str) (n : Int), gints[i]? = some (x, n) → ∃ t, mg x = some (.int n t)
  xc : ∀ (i : Nat) (x : Str), xcs[i]? = some x → XC K mg x
  xt : ExT K mg xcs xtb
  xm : ∀ c ∈ xcs, ∃ Ca, mg c = some (.ref Ca) ∧ PySem.W.exmOne K (.ref Ca) (.ref (He.ga K "NearError")) = some true
section
variable {P : Program} {w : World} {K : PySem.W.Frag} {mg : Str → Option Value} {base : Heap} {lams : List LamD} {q : Str} {cells : List (Str × Addr)} {cv : Nat → List V → Prop}
theorem sc_is_whole : FnScope ["thing"] ["thing"] (defScope s_is_whole) := ⟨rfl, rfl, rfl, by decide +kernel, rfl, by decide +kernel, by decide +kernel⟩
def lams_is_whole : List LamD := []
def m_is_whole : MS := mRet (mAnd (mAp isiW (mCons (mVar 0) (mCons (mC (.ty "int")) (mNil)))) (mNot (mAp isiW (mCons (mVar 0) (mCons (mC (.ty "bool")) (mNil))))))
def M_is_whole : MD := mDef 1 m_is_whole
theorem ok_is_whole (c : Fx K mg) : FG P w K mg base (glo K mg (tabs K) q lams cells cv) "is_whole" 1 1 (M_is_whole) :=
  (c.df 0 d_is_whole rfl).fg (N := ["thing"]) (ps := ["thing"]) sc_is_whole (fun _ _ _ _ _ _ us hl => match us, hl with | [_], _ => rfl) fun cdv A outer s H E hr => by
    have sc := sc_is_whole
    exact sm_one (sm_ret (em_and (em_b (c_isi rfl) (c.fr 4 "isinstance" rfl) (am_cons (em_var (pv 0)) (am_cons (em_tyv (c.fr 3 "int" rfl)) (am_nil)))) (em_one (em_not (em_b (c_isi rfl) (c.fr 4 "isinstance" rfl) (am_cons (em_var (pv 0)) (am_cons (em_tyv (c.fr 2 "bool" rfl)) (am_nil))))))))
theorem sc_is_upto : FnScope ["thing", "low", "high"] ["thing", "low", "high"] (defScope s_is_upto) := ⟨rfl, rfl, rfl, by decide +kernel, rfl, by decide +kernel, by decide +kernel⟩
def lams_is_upto : List LamD := []
def m_is_upto : MS := mRet (mAnd (mAp (gPure 1 M_is_whole) (mCons (mVar 0) (mNil))) (mChain leW leW (mVar 1) (mVar 0) (mVar 2)))
def M_is_upto : MD := mDef 3 m_is_upto
theorem ok_is_upto (c : Fx K mg) : FG P w K mg base (glo K mg (tabs K) q lams cells cv) "is_upto" 2 3 (M_is_upto) :=
  (c.df 1 d_is_upto rfl).fg (N := ["thing", "low", "high"]) (ps := ["thing", "low", "high"]) sc_is_upto (fun _ _ _ _ _ _ us hl => match us, hl with | [_, _, _], _ => rfl) fun cdv A outer s H E hr => by
    have sc := sc_is_upto
    exact sm_one (sm_ret (em_and (em_fP (ok_is_whole c) hr pas_of (am_cons (em_var (pv 0)) (am_nil))) (em_one (em_chain (o_le) (o_le) (em_var (pv 1)) (em_var (pv 0)) (em_var (pv 2))))))
theorem sc_need_from : FnScope ["thing", "low", "high"] ["thing", "low", "high"] (defScope s_need_from) := ⟨rfl, rfl, rfl, by decide +kernel, rfl, by decide +kernel, by decide +kernel⟩
def lams_need_from : List LamD := []
def m_need_from : MS := mCond (mNotT (mIsT (mAp (gPure 3 M_is_upto) (mCons (mVar 0) (mCons (mVar 1) (mCons (mVar 2) (mNil))))))) (mRaise "NoNumber") (mSkip)
def M_need_from : MD := mDef 3 m_need_from
theorem ok_need_from (c : Fx K mg) : FG P w K mg base (glo K mg (tabs K) q lams cells cv) "need_from" 3 3 (M_need_from) :=
  (c.df 2 d_need_from rfl).fg (N := ["thing", "low", "high"]) (ps := ["thing", "low", "high"]) sc_need_from (fun _ _ _ _ _ _ us hl => match us, hl with | [_, _, _], _ => rfl) fun cdv A outer s H E hr => by
    have sc := sc_need_from
    exact sm_one (sm_if (tm_not (tm_val (em_fP (ok_is_upto c) hr pas_of (am_cons (em_var (pv 0)) (am_cons (em_var (pv 1)) (am_cons (em_var (pv 2)) (am_nil))))))) (sm_one (sm_raiseX (c.xc 6 "NoNumber" rfl) rfl tk_of)) (sm_nil))
theorem sc_power_of : FnScope ["one", "often", "found", "turn"] ["one", "often"] (defScope s_power_of) := ⟨rfl, rfl, rfl, by decide +kernel, rfl, by decide +kernel, by decide +kernel⟩
def lams_power_of : List LamD := []
def m_power_of : MS := mSeq (mSet 2 (mC (.int 1))) (mSeq (mFor (mRng1 (mCons (mVar 1) (mNil))) (tgN 3) (mSet 2 (mBin mulW (mVar 2) (mVar 0)))) (mRet (mVar 2)))
def M_power_of : MD := mDef 4 m_power_of
theorem ok_power_of (c : Fx K mg) : FG P w K mg base (glo K mg (tabs K) q lams cells cv) "power_of" 1 2 (M_power_of) :=
  (c.df 3 d_power_of rfl).fg (N := ["one", "often", "found", "turn"]) (ps := ["one", "often"]) sc_power_of (fun _ _ _ _ _ _ us hl => match us, hl with | [_, _], _ => rfl) fun cdv A outer s H E hr => by
    have sc := sc_power_of
    exact sm_cons (sm_set (i := 2) (em_int) sc.nd) (sm_cons (sm_for (gm_name (i := 3)) (passes_of rfl) rfl (im_rng1 (by rfl) (c.fr 9 "range" rfl) (am_cons (em_var (pv 1)) (am_nil))) (pg_name (i := 3) sc.nd rfl (by first | exact Or.inl rfl | exact Or.inr rfl)) (sm_one (sm_set (i := 2) (em_op (o_mul) (em_var (pv 2)) (em_var (pv 0))) sc.nd))) (sm_one (sm_ret (em_var (pv 2)))))
theorem sc_lots_many : FnScope ["many", "size", "found", "step"] ["many", "size"] (defScope s_lots_many) := ⟨rfl, rfl, rfl, by decide +kernel, rfl, by decide +kernel, by decide +kernel⟩
def lams_lots_many : List LamD := []
def m_lots_many : MS := mSeq (mSet 2 (mC (.int 1))) (mSeq (mFor (mRng1 (mCons (mVar 1) (mNil))) (tgN 3) (mSet 2 (mBin fdivW (mBin mulW (mVar 2) (mBin subW (mVar 0) (mVar 3))) (mBin addW (mVar 3) (mC (.int 1)))))) (mRet (mVar 2)))
def M_lots_many : MD := mDef 4 m_lots_many
theorem ok_lots_many (c : Fx K mg) : FG P w K mg base (glo K mg (tabs K) q lams cells cv) "lots_many" 1 2 (M_lots_many) :=
  (c.df 4 d_lots_many rfl).fg (N := ["many", "size", "found", "step"]) (ps := ["many", "size"]) sc_lots_many (fun _ _ _ _ _ _ us hl => match us, hl with | [_, _], _ => rfl) fun cdv A outer s H E hr => by
    have sc := sc_lots_many
    exact sm_cons (sm_set (i := 2) (em_int) sc.nd) (sm_cons (sm_for (gm_name (i := 3)) (passes_of rfl) rfl (im_rng1 (by rfl) (c.fr 9 "range" rfl) (am_cons (em_var (pv 1)) (am_nil))) (pg_name (i := 3) sc.nd rfl (by first | exact Or.inl rfl | exact Or.inr rfl)) (sm_one (sm_set (i := 2) (em_op (o_fdiv) (em_op (o_mul) (em_var (pv 2)) (em_op (o_sub) (em_var (pv 0)) (em_var (pv 3)))) (em_op (o_add) (em_var (pv 3)) (em_int))) sc.nd))) (sm_one (sm_ret (em_var (pv 2)))))
theorem sc_need_kind_to : FnScope ["many", "kind"] ["many", "kind"] (defScope s_need_kind_to) := ⟨rfl, rfl, rfl, by decide +kernel, rfl, by decide +kernel, by decide +kernel⟩
def lams_need_kind_to : List LamD := []
def m_need_kind_to : MS := mCond (mNotT (mIsT (mAp (gPure 3 M_is_upto) (mCons (mVar 1) (mCons (mC (.int 0)) (mCons (mVar 0) (mNil))))))) (mRaise "NoKind") (mSkip)
def M_need_kind_to : MD := mDef 2 m_need_kind_to
theorem ok_need_kind_to (c : Fx K mg) : FG P w K mg base (glo K mg (tabs K) q lams cells cv) "need_kind_to" 3 2 (M_need_kind_to) :=
  (c.df 5 d_need_kind_to rfl).fg (N := ["many", "kind"]) (ps := ["many", "kind"]) sc_need_kind_to (fun _ _ _ _ _ _ us hl => match us, hl with | [_, _], _ => rfl) fun cdv A outer s H E hr => by
    have sc := sc_need_kind_to
    exact sm_one (sm_if (tm_not (tm_val (em_fP (ok_is_upto c) hr pas_of (am_cons (em_var (pv 1)) (am_cons (em_int) (am_cons (em_var (pv 0)) (am_nil))))))) (sm_one (sm_raiseX (c.xc 4 "NoKind" rfl) rfl tk_of)) (sm_nil))
theorem sc_words_weight : FnScope ["many", "signs", "kind", "place", "found", "step", "part"] ["many", "signs", "kind", "place"] (defScope s_words_weight) := ⟨rfl, rfl, rfl, by decide +kernel, rfl, by decide +kernel, by decide +kernel⟩
def lams_words_weight : List LamD := []
def m_words_weight : MS := mSeq (mDo (mAp (gPure 3 M_need_from) (mCons (mVar 0) (mCons (mC (.int 1)) (mCons (mC (.int 12)) (mNil)))))) (mSeq (mDo (mAp (gPure 3 M_need_from) (mCons (mVar 1) (mCons (mC (.int 2)) (mCons (mC (.int 9)) (mNil)))))) (mSeq (mDo (mAp (gPure 2 M_need_kind_to) (mCons (mVar 0) (mCons (mVar 2) (mNil))))) (mSeq (mDo (mAp (gPure 2 M_need_kind_to) (mCons (mVar 0) (mCons (mVar 3) (mNil))))) (mSeq (mSet 4 (mC (.int 0))) (mSeq (mFor (mRng1 (mCons (mBin addW (mVar 2) (mC (.int 1))) (mNil))) (tgN 5) (mSeq (mSet 6 (mBin mulW (mBin mulW (mAp (gPure 2 M_lots_many) (mCons (mVar 3) (mCons (mVar 5) (mNil)))) (mAp (gPure 2 M_lots_many) (mCons (mBin subW (mVar 0) (mVar 3)) (mCons (mBin subW (mVar 2) (mVar 5)) (mNil))))) (mAp (gPure 2 M_power_of) (mCons (mBin subW (mVar 1) (mC (.int 1))) (mCons (mBin subW (mVar 2) (mVar 5)) (mNil)))))) (mSet 4 (mBin addW (mVar 4) (mBin mulW (mVar 6) (mBin subW (mC (.int 1)) (mBin mulW (mC (.int 2)) (mBin modW (mVar 5) (mC (.int 2)))))))))) (mRet (mVar 4)))))))
def M_words_weight : MD := mDef 7 m_words_weight
theorem ok_words_weight (c : Fx K mg) : FG P w K mg base (glo K mg (tabs K) q lams cells cv) "words_weight" 4 4 (M_words_weight) :=
  (c.df 6 d_words_weight rfl).fg (N := ["many", "signs", "kind", "place", "found", "step", "part"]) (ps := ["many", "signs", "kind", "place"]) sc_words_weight (fun _ _ _ _ _ _ us hl => match us, hl with | [_, _, _, _], _ => rfl) fun cdv A outer s H E hr => by
    have sc := sc_words_weight
    exact sm_cons (sm_do (em_fP (ok_need_from c) hr pas_of (am_cons (em_var (pv 0)) (am_cons (em_int) (am_cons (em_gi (c.gi 0 "MOST_LONG" 12 rfl)) (am_nil)))))) (sm_cons (sm_do (em_fP (ok_need_from c) hr pas_of (am_cons (em_var (pv 1)) (am_cons (em_int) (am_cons (em_gi (c.gi 1 "MOST_SIGNS" 9 rfl)) (am_nil)))))) (sm_cons (sm_do (em_fP (ok_need_kind_to c) hr pas_of (am_cons (em_var (pv 0)) (am_cons (em_var (pv 2)) (am_nil))))) (sm_cons (sm_do (em_fP (ok_need_kind_to c) hr pas_of (am_cons (em_var (pv 0)) (am_cons (em_var (pv 3)) (am_nil))))) (sm_cons (sm_set (i := 4) (em_int) sc.nd) (sm_cons (sm_for (gm_name (i := 5)) (passes_of rfl) rfl (im_rng1 (by rfl) (c.fr 9 "range" rfl) (am_cons (em_op (o_add) (em_var (pv 2)) (em_int)) (am_nil))) (pg_name (i := 5) sc.nd rfl (by first | exact Or.inl rfl | exact Or.inr rfl)) (sm_cons (sm_set (i := 6) (em_op (o_mul) (em_op (o_mul) (em_fP (ok_lots_many c) hr pas_of (am_cons (em_var (pv 3)) (am_cons (em_var (pv 5)) (am_nil)))) (em_fP (ok_lots_many c) hr pas_of (am_cons (em_op (o_sub) (em_var (pv 0)) (em_var (pv 3))) (am_cons (em_op (o_sub) (em_var (pv 2)) (em_var (pv 5))) (am_nil))))) (em_fP (ok_power_of c) hr pas_of (am_cons (em_op (o_sub) (em_var (pv 1)) (em_int)) (am_cons (em_op (o_sub) (em_var (pv 2)) (em_var (pv 5))) (am_nil))))) sc.nd) (sm_one (sm_set (i := 4) (em_op (o_add) (em_var (pv 4)) (em_op (o_mul) (em_var (pv 6)) (em_op (o_sub) (em_int) (em_op (o_mul) (em_int) (em_op (o_mod) (em_var (pv 5)) (em_int)))))) sc.nd)))) (sm_one (sm_ret (em_var (pv 4)))))))))
theorem sc__law_cell_at : FnScope ["_law_script", "_law_k"] ["_law_script", "_law_k"] (defScope s__law_cell_at) := ⟨rfl, rfl, rfl, by decide +kernel, rfl, by decide +kernel, by decide +kernel⟩
def lams__law_cell_at : List LamD := []
def m__law_cell_at : MS := mSeq (mCond (mIsT (mBin ltW (mVar 1) (mAp lenW (mCons (mVar 0) (mNil))))) (mRet (mBin idxW (mVar 0) (mVar 1))) (mSkip)) (mRet (mC (.int 0)))
def M__law_cell_at : MD := mDef 2 m__law_cell_at
theorem ok__law_cell_at (c : Fx K mg) : FG P w K mg base (glo K mg (tabs K) q lams cells cv) "_law_cell_at" 1 2 (M__law_cell_at) :=
  (c.df 7 d__law_cell_at rfl).fg (N := ["_law_script", "_law_k"]) (ps := ["_law_script", "_law_k"]) sc__law_cell_at (fun _ _ _ _ _ _ us hl => match us, hl with | [_, _], _ => rfl) fun cdv A outer s H E hr => by
    have sc := sc__law_cell_at
    exact sm_cons (sm_if (tm_cmp (o_lt) (em_var (pv 1)) (em_b (c_len rfl) (c.fr 5 "len" rfl) (am_cons (em_var (pv 0)) (am_nil)))) (sm_one (sm_ret (em_ix (o_idx rfl) (em_var (pv 0)) (em_var (pv 1))))) (sm_nil)) (sm_one (sm_ret (em_int)))
theorem sc__law_state : FnScope ["_law_script", "_law_k", "_law_cell"] ["_law_script", "_law_k"] (defScope s__law_state) := ⟨rfl, rfl, rfl, by decide +kernel, rfl, by decide +kernel, by decide +kernel⟩
def lams__law_state : List LamD := []
def m__law_state : MS := mSeq (mSet 2 (mAp (gPure 2 M__law_cell_at) (mCons (mVar 0) (mCons (mVar 1) (mNil))))) (mSeq (mCond (mIsT (mBin geW (mVar 2) (mBin powW (mC (.int 10)) (mC (.int 18))))) (mRet (mNew (mCons (mBin subW (mVar 2) (mBin powW (mC (.int 10)) (mC (.int 18)))) (mCons (mC (.bl true)) (mNil))))) (mSkip)) (mRet (mNew (mCons (mBin modW (mVar 2) (mC (.int 2147483647))) (mCons (mC (.bl false)) (mNil))))))
def M__law_state : MD := mDef 3 m__law_state
theorem ok__law_state (c : Fx K mg) : FG P w K mg base (glo K mg (tabs K) q lams cells cv) "_law_state" 2 2 (M__law_state) :=
  (c.df 8 d__law_state rfl).fg (N := ["_law_script", "_law_k", "_law_cell"]) (ps := ["_law_script", "_law_k"]) sc__law_state (fun _ _ _ _ _ _ us hl => match us, hl with | [_, _], _ => rfl) fun cdv A outer s H E hr => by
    have sc := sc__law_state
    exact sm_cons (sm_set (i := 2) (em_fP (ok__law_cell_at c) hr pas_of (am_cons (em_var (pv 0)) (am_cons (em_var (pv 1)) (am_nil)))) sc.nd) (sm_cons (sm_if (tm_cmp (o_ge) (em_var (pv 2)) (em_op (o_pow) (em_int) (em_int))) (sm_one (sm_ret (em_new (am_cons (em_op (o_sub) (em_var (pv 2)) (em_op (o_pow) (em_int) (em_int))) (am_cons (em_bl) (am_nil)))))) (sm_nil)) (sm_one (sm_ret (em_new (am_cons (em_op (o_mod) (em_var (pv 2)) (em_int)) (am_cons (em_bl) (am_nil)))))))
theorem sc__law_take : FnScope ["_law_state_here", "_law_many", "_law_found", "_law_stirred"] ["_law_state_here", "_law_many"] (defScope s__law_take) := ⟨rfl, rfl, rfl, by decide +kernel, rfl, by decide +kernel, by decide +kernel⟩
def lams__law_take : List LamD := []
def m__law_take : MS := mSeq (mCond (mIsT (mBin idxW (mVar 0) (mC (.int 1)))) (mSeq (mSet 2 (mBin modW (mBin idxW (mVar 0) (mC (.int 0))) (mVar 1))) (mSeq (mSetIx (mBin fdivW (mBin idxW (mVar 0) (mC (.int 0))) (mVar 1)) (mVar 0) (mC (.int 0))) (mRet (mVar 2)))) (mSkip)) (mSeq (mSetIx (mBin modW (mBin addW (mBin mulW (mBin idxW (mVar 0) (mC (.int 0))) (mC (.int 48271))) (mC (.int 29))) (mC (.int 2147483647))) (mVar 0) (mC (.int 0))) (mSeq (mSet 3 (mBin modW (mBin addW (mBin addW (mBin mulW (mBin idxW (mVar 0) (mC (.int 0))) (mBin idxW (mVar 0) (mC (.int 0)))) (mBin mulW (mC (.int 39373)) (mBin idxW (mVar 0) (mC (.int 0))))) (mC (.int 7))) (mC (.int 2147483629)))) (mSeq (mSet 3 (mBin modW (mBin addW (mBin mulW (mVar 3) (mVar 3)) (mBin mulW (mC (.int 16807)) (mVar 3))) (mC (.int 2147483587)))) (mRet (mBin modW (mBin fdivW (mVar 3) (mC (.int 8))) (mVar 1))))))
def M__law_take : MD := mDef 4 m__law_take
theorem ok__law_take (c : Fx K mg) : FG P w K mg base (glo K mg (tabs K) q lams cells cv) "_law_take" 1 2 (M__law_take) :=
  (c.df 9 d__law_take rfl).fg (N := ["_law_state_here", "_law_many", "_law_found", "_law_stirred"]) (ps := ["_law_state_here", "_law_many"]) sc__law_take (fun _ _ _ _ _ _ us hl => match us, hl with | [_, _], _ => rfl) fun cdv A outer s H E hr => by
    have sc := sc__law_take
    exact sm_cons (sm_if (tm_val (em_ix (o_idx rfl) (em_var (pv 0)) (em_int))) (sm_cons (sm_set (i := 2) (em_op (o_mod) (em_ix (o_idx rfl) (em_var (pv 0)) (em_int)) (em_var (pv 1))) sc.nd) (sm_cons (sm_setIx (em_op (o_fdiv) (em_ix (o_idx rfl) (em_var (pv 0)) (em_int)) (em_var (pv 1))) (em_var (pv 0)) (em_int)) (sm_one (sm_ret (em_var (pv 2)))))) (sm_nil)) (sm_cons (sm_setIx (em_op (o_mod) (em_op (o_add) (em_op (o_mul) (em_ix (o_idx rfl) (em_var (pv 0)) (em_int)) (em_int)) (em_int)) (em_int)) (em_var (pv 0)) (em_int)) (sm_cons (sm_set (i := 3) (em_op (o_mod) (em_op (o_add) (em_op (o_add) (em_op (o_mul) (em_ix (o_idx rfl) (em_var (pv 0)) (em_int)) (em_ix (o_idx rfl) (em_var (pv 0)) (em_int))) (em_op (o_mul) (em_int) (em_ix (o_idx rfl) (em_var (pv 0)) (em_int)))) (em_int)) (em_int)) sc.nd) (sm_cons (sm_set (i := 3) (em_op (o_mod) (em_op (o_add) (em_op (o_mul) (em_var (pv 3)) (em_var (pv 3))) (em_op (o_mul) (em_int) (em_var (pv 3)))) (em_int)) sc.nd) (sm_one (sm_ret (em_op (o_mod) (em_op (o_fdiv) (em_var (pv 3)) (em_int)) (em_var (pv 1))))))))
theorem sc__law_same : FnScope ["_law_found", "_law_due_here", "_law_one", "_law_other"] ["_law_found", "_law_due_here"] (defScope s__law_same) := ⟨rfl, rfl, rfl, by decide +kernel, rfl, by decide +kernel, by decide +kernel⟩
def lams__law_same : List LamD := []
def m__law_same (self : MD) : MS := mSeq (mCond (mIsT (mAp isiW (mCons (mVar 1) (mCons (mTup (mCons (mC (.ty "tuple")) (mCons (mC (.ty "list")) (mNil)))) (mNil))))) (mSeq (mCond (mOrT (mIsT (mBin neW (mAp isiW (mCons (mVar 0) (mCons (mC (.ty "tuple")) (mNil)))) (mAp isiW (mCons (mVar 1) (mCons (mC (.ty "tuple")) (mNil)))))) (mIsT (mBin neW (mAp isiW (mCons (mVar 0) (mCons (mC (.ty "list")) (mNil)))) (mAp isiW (mCons (mVar 1) (mCons (mC (.ty "list")) (mNil))))))) (mRet (mC (.bl false))) (mSkip)) (mSeq (mCond (mIsT (mBin neW (mAp lenW (mCons (mVar 0) (mNil))) (mAp lenW (mCons (mVar 1) (mNil))))) (mRet (mC (.bl false))) (mSkip)) (mRet (mAp allW (mCons (mLc (mZipB (mCons (mVar 0) (mCons (mVar 1) (mNil)))) [2, 3] (tgT [2, 3]) (tYesM) (mAp (gPure 2 self) (mCons (mVar 2) (mCons (mVar 3) (mNil))))) (mNil)))))) (mSkip)) (mRet (mAnd (mBin eqW (mVar 0) (mVar 1)) (mBin eqW (mAp isiW (mCons (mVar 0) (mCons (mC (.ty "bool")) (mNil)))) (mAp isiW (mCons (mVar 1) (mCons (mC (.ty "bool")) (mNil)))))))
def Mf__law_same : Nat → MD
  | 0 => fun _ _ => .stuck
  | j + 1 => mDef 4 (m__law_same (Mf__law_same j))
def M__law_same : MD := Mf__law_same 6
theorem okf__law_same (c : Fx K mg) : ∀ j : Nat, FG P w K mg base (glo K mg (tabs K) q lams cells cv) "_law_same" (j + 1) 2 (Mf__law_same j)
  | 0 => (c.df 10 d__law_same rfl).fgs (ps := ["_law_found", "_law_due_here"]) fun _ _ _ _ _ _ us hl => match us, hl with | [_, _], _ => rfl
  | j + 1 => by
    have ih := okf__law_same c j
    exact (c.df 10 d__law_same rfl).fg (N := ["_law_found", "_law_due_here", "_law_one", "_law_other"]) (ps := ["_law_found", "_law_due_here"]) sc__law_same (fun _ _ _ _ _ _ us hl => match us, hl with | [_, _], _ => rfl) fun cdv A outer s H E hr => by
      have sc := sc__law_same
      exact sm_cons (sm_if (tm_val (em_b (c_isi rfl) (c.fr 4 "isinstance" rfl) (am_cons (em_var (pv 1)) (am_cons (em_tup (am_cons (em_tyv (c.fr 10 "tuple" rfl)) (am_cons (em_tyv (c.fr 6 "list" rfl)) (am_nil)))) (am_nil))))) (sm_cons (sm_if ((wm_or (tm_cmp (o_ne rfl hr.units) (em_b (c_isi rfl) (c.fr 4 "isinstance" rfl) (am_cons (em_var (pv 0)) (am_cons (em_tyv (c.fr 10 "tuple" rfl)) (am_nil)))) (em_b (c_isi rfl) (c.fr 4 "isinstance" rfl) (am_cons (em_var (pv 1)) (am_cons (em_tyv (c.fr 10 "tuple" rfl)) (am_nil))))) (wm_or1 (tm_cmp (o_ne rfl hr.units) (em_b (c_isi rfl) (c.fr 4 "isinstance" rfl) (am_cons (em_var (pv 0)) (am_cons (em_tyv (c.fr 6 "list" rfl)) (am_nil)))) (em_b (c_isi rfl) (c.fr 4 "isinstance" rfl) (am_cons (em_var (pv 1)) (am_cons (em_tyv (c.fr 6 "list" rfl)) (am_nil))))))).pt) (sm_one (sm_ret (em_bl))) (sm_nil)) (sm_cons (sm_if (tm_cmp (o_ne rfl hr.units) (em_b (c_len rfl) (c.fr 5 "len" rfl) (am_cons (em_var (pv 0)) (am_nil))) (em_b (c_len rfl) (c.fr 5 "len" rfl) (am_cons (em_var (pv 1)) (am_nil)))) (sm_one (sm_ret (em_bl))) (sm_nil)) (sm_one (sm_ret (em_b (c_all rfl rfl) (c.fr 1 "all" rfl) (am_cons (em_lc (gm_tup (is := [2, 3]) rfl) (by decide) rfl sc.nd (im_zipB rfl (by rfl) (c.fr 11 "zip" rfl) (am_cons (em_var (pv 0)) (am_cons (em_var (pv 1)) (am_nil)))) (blkOk_by (own := [("_law_one", 2), ("_law_other", 3)]) (by kernel_rfl)) (fun _s _H _C _cl _fp => pg_tup rfl (pgs_cons (pg_name (i := 2) sc.nd rfl (by first | exact Or.inl rfl | exact Or.inr rfl)) (pgs_cons (pg_name (i := 3) sc.nd rfl (by first | exact Or.inl rfl | exact Or.inr rfl)) (pgs_nil)))) (fun _s _H _C _cl _fp => ptm_nil) (fun _s _H _C _cl _fp => em_fP ih hr passL (am_cons (em_var (pv 2)) (am_cons (em_var (pv 3)) (am_nil))) (hk := Nat.le_refl _))) (am_nil))))))) (sm_nil)) (sm_one (sm_ret (em_and (em_cmp (o_eq rfl hr.units) (em_var (pv 0)) (em_var (pv 1))) (em_one (em_cmp (o_eq rfl hr.units) (em_b (c_isi rfl) (c.fr 4 "isinstance" rfl) (am_cons (em_var (pv 0)) (am_cons (em_tyv (c.fr 2 "bool" rfl)) (am_nil)))) (em_b (c_isi rfl) (c.fr 4 "isinstance" rfl) (am_cons (em_var (pv 1)) (am_cons (em_tyv (c.fr 2 "bool" rfl)) (am_nil)))))))))
theorem ok__law_same (c : Fx K mg) : FG P w K mg base (glo K mg (tabs K) q lams cells cv) "_law_same" 7 2 M__law_same := okf__law_same c 6
theorem sc__law_refused : FnScope ["_law_call", "_law_error", "e", "_law_marks", "_law_k"] ["_law_call"] (defScope s__law_refused) := ⟨rfl, rfl, rfl, by decide +kernel, rfl, by decide +kernel, by decide +kernel⟩
def lams__law_refused : List LamD := []
def m__law_refused (ap : Ap) : MS := mSeq (mSet 1 (mC .non)) (mSeq (mTryK ap 0 1 2 xcs) (mSeq (mSet 3 (mLst (mCons (mAp (isxW xcs xtb) (mCons (mVar 1) (mCons (mC (.glob "NoTable")) (mNil)))) (mCons (mAp (isxW xcs xtb) (mCons (mVar 1) (mCons (mC (.glob "NotSteady")) (mNil)))) (mCons (mAp (isxW xcs xtb) (mCons (mVar 1) (mCons (mC (.glob "NoPlace")) (mNil)))) (mNil)))))) (mSeq (mSet 3 (mBin addW (mVar 3) (mLst (mCons (mAp (isxW xcs xtb) (mCons (mVar 1) (mCons (mC (.glob "NoKind")) (mNil)))) (mCons (mAp (isxW xcs xtb) (mCons (mVar 1) (mCons (mC (.glob "NoMix")) (mNil)))) (mCons (mAp (isxW xcs xtb) (mCons (mVar 1) (mCons (mC (.glob "NoNumber")) (mNil)))) (mNil))))))) (mSeq (mSet 3 (mBin addW (mVar 3) (mLst (mCons (mAp (isxW xcs xtb) (mCons (mVar 1) (mCons (mC (.glob "NoLot")) (mNil)))) (mCons (mAp (isxW xcs xtb) (mCons (mVar 1) (mCons (mC (.glob "NoKinds")) (mNil)))) (mCons (mAp (isxW xcs xtb) (mCons (mVar 1) (mCons (mC (.glob "NoPaper")) (mNil)))) (mNil))))))) (mSeq (mSet 3 (mBin addW (mVar 3) (mLst (mCons (mAp (isxW xcs xtb) (mCons (mVar 1) (mCons (mC (.glob "NoParting")) (mNil)))) (mCons (mAp (isxW xcs xtb) (mCons (mVar 1) (mCons (mC (.glob "NoClosed")) (mNil)))) (mCons (mAp (isxW xcs xtb) (mCons (mVar 1) (mCons (mC (.glob "TooMany")) (mNil)))) (mNil))))))) (mSeq (mSet 3 (mBin addW (mVar 3) (mLst (mCons (mAp (isxW xcs xtb) (mCons (mVar 1) (mCons (mC (.glob "NoText")) (mNil)))) (mCons (mAp (isxW xcs xtb) (mCons (mVar 1) (mCons (mC (.glob "NoLine")) (mNil)))) (mCons (mAp (isxW xcs xtb) (mCons (mVar 1) (mCons (mC (.glob "NoDeed")) (mNil)))) (mNil))))))) (mSeq (mSet 3 (mBin addW (mVar 3) (mLst (mCons (mAp (isxW xcs xtb) (mCons (mVar 1) (mCons (mC (.glob "NoWeights")) (mNil)))) (mCons (mAp (isxW xcs xtb) (mCons (mVar 1) (mCons (mC (.glob "NotWhole")) (mNil)))) (mCons (mAp (isxW xcs xtb) (mCons (mVar 1) (mCons (mC (.glob "NoNumbers")) (mNil)))) (mNil))))))) (mSeq (mCond (mNotT (mIsT (mAp (isxW xcs xtb) (mCons (mVar 1) (mCons (mC (.ty "ValueError")) (mNil)))))) (mRet (mC .non)) (mSkip)) (mRet (mLc (mRng1 (mCons (mC (.int 18)) (mNil))) [4] (tgN 4) (mIsT (mBin idxW (mVar 3) (mVar 4))) (mVar 4)))))))))))
def M__law_refused (ap : Ap) : MD := mDef 5 (m__law_refused ap)
theorem ok__law_refused (c : Fx K mg) {ap : Ap} (C : CallC P w K mg base (glo K mg (tabs K) q lams cells cv) 10 ap) : FG P w K mg base (glo K mg (tabs K) q lams cells cv) "_law_refused" 12 1 (M__law_refused ap) :=
  (c.df 11 d__law_refused rfl).fg (N := ["_law_call", "_law_error", "e", "_law_marks", "_law_k"]) (ps := ["_law_call"]) sc__law_refused (fun _ _ _ _ _ _ us hl => match us, hl with | [_], _ => rfl) fun cdv A outer s H E hr => by
    have sc := sc__law_refused
    exact sm_cons (sm_set (i := 1) (em_non) sc.nd) (sm_cons (sm_tryK (i := 0) (j := 1) (k := 2) C (hr.mono (by decide)) rfl (fun _ Ca _ _ h1 h2 => ⟨Ca, h1, h2⟩) rfl rfl rfl sc.nd rfl (by first | exact Or.inl rfl | exact Or.inr (Or.inl rfl) | exact Or.inr (Or.inr rfl)) rfl rfl (by first | exact Or.inl rfl | exact Or.inr (Or.inl rfl) | exact Or.inr (Or.inr rfl)) rfl (by first | exact Or.inl rfl | exact Or.inr rfl) (by decide) ⟨rfl, rfl, .inl (c.xc 0 "NearError" rfl).at_⟩ c.xm) (sm_cons (sm_set (i := 3) (em_lst (am_cons (em_b (c_isx rfl c.xt rfl (fun _ _ _ h => h)) (c.fr 4 "isinstance" rfl) (am_cons (em_var (pv 1)) (am_cons (em_gf (c.xc 1 "NoTable" rfl).at_ rfl) (am_nil)))) (am_cons (em_b (c_isx rfl c.xt rfl (fun _ _ _ h => h)) (c.fr 4 "isinstance" rfl) (am_cons (em_var (pv 1)) (am_cons (em_gf (c.xc 2 "NotSteady" rfl).at_ rfl) (am_nil)))) (am_cons (em_b (c_isx rfl c.xt rfl (fun _ _ _ h => h)) (c.fr 4 "isinstance" rfl) (am_cons (em_var (pv 1)) (am_cons (em_gf (c.xc 3 "NoPlace" rfl).at_ rfl) (am_nil)))) (am_nil))))) sc.nd) (sm_cons (sm_set (i := 3) (em_op (o_add) (em_var (pv 3)) (em_lst (am_cons (em_b (c_isx rfl c.xt rfl (fun _ _ _ h => h)) (c.fr 4 "isinstance" rfl) (am_cons (em_var (pv 1)) (am_cons (em_gf (c.xc 4 "NoKind" rfl).at_ rfl) (am_nil)))) (am_cons (em_b (c_isx rfl c.xt rfl (fun _ _ _ h => h)) (c.fr 4 "isinstance" rfl) (am_cons (em_var (pv 1)) (am_cons (em_gf (c.xc 5 "NoMix" rfl).at_ rfl) (am_nil)))) (am_cons (em_b (c_isx rfl c.xt rfl (fun _ _ _ h => h)) (c.fr 4 "isinstance" rfl) (am_cons (em_var (pv 1)) (am_cons (em_gf (c.xc 6 "NoNumber" rfl).at_ rfl) (am_nil)))) (am_nil)))))) sc.nd) (sm_cons (sm_set (i := 3) (em_op (o_add) (em_var (pv 3)) (em_lst (am_cons (em_b (c_isx rfl c.xt rfl (fun _ _ _ h => h)) (c.fr 4 "isinstance" rfl) (am_cons (em_var (pv 1)) (am_cons (em_gf (c.xc 7 "NoLot" rfl).at_ rfl) (am_nil)))) (am_cons (em_b (c_isx rfl c.xt rfl (fun _ _ _ h => h)) (c.fr 4 "isinstance" rfl) (am_cons (em_var (pv 1)) (am_cons (em_gf (c.xc 8 "NoKinds" rfl).at_ rfl) (am_nil)))) (am_cons (em_b (c_isx rfl c.xt rfl (fun _ _ _ h => h)) (c.fr 4 "isinstance" rfl) (am_cons (em_var (pv 1)) (am_cons (em_gf (c.xc 9 "NoPaper" rfl).at_ rfl) (am_nil)))) (am_nil)))))) sc.nd) (sm_cons (sm_set (i := 3) (em_op (o_add) (em_var (pv 3)) (em_lst (am_cons (em_b (c_isx rfl c.xt rfl (fun _ _ _ h => h)) (c.fr 4 "isinstance" rfl) (am_cons (em_var (pv 1)) (am_cons (em_gf (c.xc 10 "NoParting" rfl).at_ rfl) (am_nil)))) (am_cons (em_b (c_isx rfl c.xt rfl (fun _ _ _ h => h)) (c.fr 4 "isinstance" rfl) (am_cons (em_var (pv 1)) (am_cons (em_gf (c.xc 11 "NoClosed" rfl).at_ rfl) (am_nil)))) (am_cons (em_b (c_isx rfl c.xt rfl (fun _ _ _ h => h)) (c.fr 4 "isinstance" rfl) (am_cons (em_var (pv 1)) (am_cons (em_gf (c.xc 15 "TooMany" rfl).at_ rfl) (am_nil)))) (am_nil)))))) sc.nd) (sm_cons (sm_set (i := 3) (em_op (o_add) (em_var (pv 3)) (em_lst (am_cons (em_b (c_isx rfl c.xt rfl (fun _ _ _ h => h)) (c.fr 4 "isinstance" rfl) (am_cons (em_var (pv 1)) (am_cons (em_gf (c.xc 16 "NoText" rfl).at_ rfl) (am_nil)))) (am_cons (em_b (c_isx rfl c.xt rfl (fun _ _ _ h => h)) (c.fr 4 "isinstance" rfl) (am_cons (em_var (pv 1)) (am_cons (em_gf (c.xc 17 "NoLine" rfl).at_ rfl) (am_nil)))) (am_cons (em_b (c_isx rfl c.xt rfl (fun _ _ _ h => h)) (c.fr 4 "isinstance" rfl) (am_cons (em_var (pv 1)) (am_cons (em_gf (c.xc 18 "NoDeed" rfl).at_ rfl) (am_nil)))) (am_nil)))))) sc.nd) (sm_cons (sm_set (i := 3) (em_op (o_add) (em_var (pv 3)) (em_lst (am_cons (em_b (c_isx rfl c.xt rfl (fun _ _ _ h => h)) (c.fr 4 "isinstance" rfl) (am_cons (em_var (pv 1)) (am_cons (em_gf (c.xc 12 "NoWeights" rfl).at_ rfl) (am_nil)))) (am_cons (em_b (c_isx rfl c.xt rfl (fun _ _ _ h => h)) (c.fr 4 "isinstance" rfl) (am_cons (em_var (pv 1)) (am_cons (em_gf (c.xc 13 "NotWhole" rfl).at_ rfl) (am_nil)))) (am_cons (em_b (c_isx rfl c.xt rfl (fun _ _ _ h => h)) (c.fr 4 "isinstance" rfl) (am_cons (em_var (pv 1)) (am_cons (em_gf (c.xc 14 "NoNumbers" rfl).at_ rfl) (am_nil)))) (am_nil)))))) sc.nd) (sm_cons (sm_if (tm_not (tm_val (em_b (c_isx rfl c.xt rfl (fun _ _ _ h => h)) (c.fr 4 "isinstance" rfl) (am_cons (em_var (pv 1)) (am_cons (em_tyv (c.fr 0 "ValueError" rfl)) (am_nil)))))) (sm_one (sm_ret (em_non))) (sm_nil)) (sm_one (sm_ret (em_lc (gm_name (i := 4)) (by decide) rfl sc.nd (im_rng1 (by rfl) (c.fr 9 "range" rfl) (am_cons (em_int) (am_nil))) (blkOk_by (own := [("_law_k", 4)]) (by kernel_rfl)) (fun _s _H _C _cl _fp => pg_name (i := 4) sc.nd rfl (by first | exact Or.inl rfl | exact Or.inr rfl)) (fun _s _H _C _cl _fp => pts_one (tm_val (em_ix (o_idx rfl) (em_var (pv 3)) (em_var (pv 4))))) (fun _s _H _C _cl _fp => em_var (pv 4)))))))))))))
theorem sc__law_due : FnScope ["_law_many", "_law_signs", "_law_kind", "_law_place", "_law_row", "_law_at", "_law_weight", "_law_step"] ["_law_many", "_law_signs", "_law_kind", "_law_place"] (defScope s__law_due) := ⟨rfl, rfl, rfl, by decide +kernel, rfl, by decide +kernel, by decide +kernel⟩
def lams__law_due : List LamD := []
def m__law_due : MS := mSeq (mSet 4 (mBin addW (mLst (mCons (mC (.int 1)) (mNil))) (mBin mulW (mLst (mCons (mC (.int 0)) (mNil))) (mVar 0)))) (mSeq (mFor (mRng1 (mCons (mVar 0) (mNil))) (tgN 5) (mSeq (mSet 6 (mIf (mIsT (mBin ltW (mVar 5) (mVar 3))) (mUn negW (mC (.int 1))) (mBin subW (mVar 1) (mC (.int 1))))) (mSet 4 (mLc (mRng1 (mCons (mBin addW (mVar 0) (mC (.int 1))) (mNil))) [7] (tgN 7) (tYesM) (mBin addW (mBin idxW (mVar 4) (mVar 7)) (mBin mulW (mVar 6) (mBin idxW (mBin addW (mLst (mCons (mC (.int 0)) (mNil))) (mVar 4)) (mVar 7)))))))) (mRet (mBin idxW (mVar 4) (mVar 2))))
def M__law_due : MD := mDef 8 m__law_due
theorem ok__law_due (c : Fx K mg) : FG P w K mg base (glo K mg (tabs K) q lams cells cv) "_law_due" 1 4 (M__law_due) :=
  (c.df 12 d__law_due rfl).fg (N := ["_law_many", "_law_signs", "_law_kind", "_law_place", "_law_row", "_law_at", "_law_weight", "_law_step"]) (ps := ["_law_many", "_law_signs", "_law_kind", "_law_place"]) sc__law_due (fun _ _ _ _ _ _ us hl => match us, hl with | [_, _, _, _], _ => rfl) fun cdv A outer s H E hr => by
    have sc := sc__law_due
    exact sm_cons (sm_set (i := 4) (em_op (o_add) (em_lst (am_cons (em_int) (am_nil))) (em_op (o_mul) (em_lst (am_cons (em_int) (am_nil))) (em_var (pv 0)))) sc.nd) (sm_cons (sm_for (gm_name (i := 5)) (passes_of rfl) rfl (im_rng1 (by rfl) (c.fr 9 "range" rfl) (am_cons (em_var (pv 0)) (am_nil))) (pg_name (i := 5) sc.nd rfl (by first | exact Or.inl rfl | exact Or.inr rfl)) (sm_cons (sm_set (i := 6) (em_if (tm_cmp (o_lt) (em_var (pv 5)) (em_var (pv 3))) (em_un o_neg (em_int)) (em_op (o_sub) (em_var (pv 1)) (em_int))) sc.nd) (sm_one (sm_set (i := 4) (em_lc (gm_name (i := 7)) (by decide) rfl sc.nd (im_rng1 (by rfl) (c.fr 9 "range" rfl) (am_cons (em_op (o_add) (em_var (pv 0)) (em_int)) (am_nil))) (blkOk_by (own := [("_law_step", 7)]) (by kernel_rfl)) (fun _s _H _C _cl _fp => pg_name (i := 7) sc.nd rfl (by first | exact Or.inl rfl | exact Or.inr rfl)) (fun _s _H _C _cl _fp => ptm_nil) (fun _s _H _C _cl _fp => em_op (o_add) (em_ix (o_idx rfl) (em_var (pv 4)) (em_var (pv 7))) (em_op (o_mul) (em_var (pv 6)) (em_ix (o_idx rfl) (em_op (o_add) (em_lst (am_cons (em_int) (am_nil))) (em_var (pv 4))) (em_var (pv 7)))))) sc.nd)))) (sm_one (sm_ret (em_ix (o_idx rfl) (em_var (pv 4)) (em_var (pv 2))))))
theorem sc_law : FnScope ["_law_script", "_law_k", "_law_state_here", "_law_many", "_law_signs", "_law_turn", "_law_kind", "_law_place", "_law_bad", "_law_none", "_law_calls", "_law_odd", "_law_call"] ["_law_script"] (defScope s_law) := ⟨rfl, rfl, rfl, by decide +kernel, rfl, by decide +kernel, by decide +kernel⟩
def l_law_0 : LamD := ⟨laP (eC (sV (sB ((defBody s_law).getD 0 noS) 5)) 0) (defArgs s_law), laB (eC (sV (sB ((defBody s_law).getD 0 noS) 5)) 0), laS (eC (sV (sB ((defBody s_law).getD 0 noS) 5)) 0) (defScope s_law), ["_law_bad", "_law_none"], [], ["_law_bad", "_law_none"], [8, 9]⟩
def lm_law_0 : LamM := ⟨0, 2, 2, mAp (gPure 4 M_words_weight) (mCons (mVar 0) (mCons (mVar 0) (mCons (mVar 1) (mCons (mVar 1) (mNil))))), [8, 9]⟩
def l_law_1 : LamD := ⟨laP (eC (sV (sB ((defBody s_law).getD 0 noS) 6)) 0) (defArgs s_law), laB (eC (sV (sB ((defBody s_law).getD 0 noS) 6)) 0), laS (eC (sV (sB ((defBody s_law).getD 0 noS) 6)) 0) (defScope s_law), ["_law_bad", "_law_signs", "_law_none"], [], ["_law_bad", "_law_signs", "_law_none"], [8, 4, 9]⟩
def lm_law_1 : LamM := ⟨0, 3, 3, mAp (gPure 4 M_words_weight) (mCons (mVar 0) (mCons (mVar 1) (mCons (mVar 2) (mCons (mC (.int 0)) (mNil))))), [8, 4, 9]⟩
def l_law_2 : LamD := ⟨laP (eC (sV (sB ((defBody s_law).getD 0 noS) 8)) 0) (defArgs s_law), laB (eC (sV (sB ((defBody s_law).getD 0 noS) 8)) 0), laS (eC (sV (sB ((defBody s_law).getD 0 noS) 8)) 0) (defScope s_law), ["_law_many", "_law_odd", "_law_none"], [], ["_law_many", "_law_odd", "_law_none"], [3, 11, 9]⟩
def lm_law_2 : LamM := ⟨0, 3, 3, mAp (gPure 4 M_words_weight) (mCons (mVar 0) (mCons (mVar 1) (mCons (mC (.int 0)) (mCons (mVar 2) (mNil))))), [3, 11, 9]⟩
def l_law_3 : LamD := ⟨laP (eC (sV (sB ((defBody s_law).getD 0 noS) 10)) 0) (defArgs s_law), laB (eC (sV (sB ((defBody s_law).getD 0 noS) 10)) 0), laS (eC (sV (sB ((defBody s_law).getD 0 noS) 10)) 0) (defScope s_law), ["_law_many", "_law_signs", "_law_none"], [], ["_law_many", "_law_signs", "_law_none"], [3, 4, 9]⟩
def lm_law_3 : LamM := ⟨0, 3, 3, mAp (gPure 4 M_words_weight) (mCons (mVar 0) (mCons (mVar 1) (mCons (mVar 2) (mCons (mC (.int 0)) (mNil))))), [3, 4, 9]⟩
def l_law_4 : LamD := ⟨laP (eC (sV (sB ((defBody s_law).getD 0 noS) 11)) 0) (defArgs s_law), laB (eC (sV (sB ((defBody s_law).getD 0 noS) 11)) 0), laS (eC (sV (sB ((defBody s_law).getD 0 noS) 11)) 0) (defScope s_law), ["_law_many", "_law_signs", "_law_none"], [], ["_law_many", "_law_signs", "_law_none"], [3, 4, 9]⟩
def lm_law_4 : LamM := ⟨0, 3, 3, mAp (gPure 4 M_words_weight) (mCons (mVar 0) (mCons (mVar 1) (mCons (mC (.int 0)) (mCons (mVar 2) (mNil))))), [3, 4, 9]⟩
def lams_law : List LamD := [l_law_0, l_law_1, l_law_2, l_law_3, l_law_4]
def ms_law : List LamM := [lm_law_0, lm_law_1, lm_law_2, lm_law_3, lm_law_4]
theorem cf_law_0 : ∀ y ∈ l_law_0.scope.names, y.2 = .free → (defScope s_law).names.lookup y.1 = some .cell := by decide +kernel
theorem lk_law_0 (c : Fx K mg) (hf : ∀ y ∈ l_law_0.scope.names, y.2 = .free → ∃ cc, cells.lookup y.1 = some cc) : LamOk P w K mg base (glo K mg (tabs K) q lams_law cells cv) 9 q cells l_law_0 lm_law_0 where
  np := rfl
  nf := rfl
  nn := rfl
  S := NdefX.nscope_by (by decide +kernel)
  bind := fun _ _ _ _ us hl => match us, hl with | [], _ => rfl
  body := fun f c' A outer s H E hr => by
    exact em_fP (ok_words_weight c) hr pas_ncx (am_cons (em_var (pv 0)) (am_cons (em_var (pv 0)) (am_cons (em_var (pv 1)) (am_cons (em_var (pv 1)) (am_nil)))))
  free := hf
theorem cf_law_1 : ∀ y ∈ l_law_1.scope.names, y.2 = .free → (defScope s_law).names.lookup y.1 = some .cell := by decide +kernel
theorem lk_law_1 (c : Fx K mg) (hf : ∀ y ∈ l_law_1.scope.names, y.2 = .free → ∃ cc, cells.lookup y.1 = some cc) : LamOk P w K mg base (glo K mg (tabs K) q lams_law cells cv) 9 q cells l_law_1 lm_law_1 where
  np := rfl
  nf := rfl
  nn := rfl
  S := NdefX.nscope_by (by decide +kernel)
  bind := fun _ _ _ _ us hl => match us, hl with | [], _ => rfl
  body := fun f c' A outer s H E hr => by
    exact em_fP (ok_words_weight c) hr pas_ncx (am_cons (em_var (pv 0)) (am_cons (em_var (pv 1)) (am_cons (em_var (pv 2)) (am_cons (em_int) (am_nil)))))
  free := hf
theorem cf_law_2 : ∀ y ∈ l_law_2.scope.names, y.2 = .free → (defScope s_law).names.lookup y.1 = some .cell := by decide +kernel
theorem lk_law_2 (c : Fx K mg) (hf : ∀ y ∈ l_law_2.scope.names, y.2 = .free → ∃ cc, cells.lookup y.1 = some cc) : LamOk P w K mg base (glo K mg (tabs K) q lams_law cells cv) 9 q cells l_law_2 lm_law_2 where
  np := rfl
  nf := rfl
  nn := rfl
  S := NdefX.nscope_by (by decide +kernel)
  bind := fun _ _ _ _ us hl => match us, hl with | [], _ => rfl
  body := fun f c' A outer s H E hr => by
    exact em_fP (ok_words_weight c) hr pas_ncx (am_cons (em_var (pv 0)) (am_cons (em_var (pv 1)) (am_cons (em_int) (am_cons (em_var (pv 2)) (am_nil)))))
  free := hf
theorem cf_law_3 : ∀ y ∈ l_law_3.scope.names, y.2 = .free → (defScope s_law).names.lookup y.1 = some .cell := by decide +kernel
theorem lk_law_3 (c : Fx K mg) (hf : ∀ y ∈ l_law_3.scope.names, y.2 = .free → ∃ cc, cells.lookup y.1 = some cc) : LamOk P w K mg base (glo K mg (tabs K) q lams_law cells cv) 9 q cells l_law_3 lm_law_3 where
  np := rfl
  nf := rfl
  nn := rfl
  S := NdefX.nscope_by (by decide +kernel)
  bind := fun _ _ _ _ us hl => match us, hl with | [], _ => rfl
  body := fun f c' A outer s H E hr => by
    exact em_fP (ok_words_weight c) hr pas_ncx (am_cons (em_var (pv 0)) (am_cons (em_var (pv 1)) (am_cons (em_var (pv 2)) (am_cons (em_int) (am_nil)))))
  free := hf
theorem cf_law_4 : ∀ y ∈ l_law_4.scope.names, y.2 = .free → (defScope s_law).names.lookup y.1 = some .cell := by decide +kernel
theorem lk_law_4 (c : Fx K mg) (hf : ∀ y ∈ l_law_4.scope.names, y.2 = .free → ∃ cc, cells.lookup y.1 = some cc) : LamOk P w K mg base (glo K mg (tabs K) q lams_law cells cv) 9 q cells l_law_4 lm_law_4 where
  np := rfl
  nf := rfl
  nn := rfl
  S := NdefX.nscope_by (by decide +kernel)
  bind := fun _ _ _ _ us hl => match us, hl with | [], _ => rfl
  body := fun f c' A outer s H E hr => by
    exact em_fP (ok_words_weight c) hr pas_ncx (am_cons (em_var (pv 0)) (am_cons (em_var (pv 1)) (am_cons (em_int) (am_cons (em_var (pv 2)) (am_nil)))))
  free := hf
theorem hl_law (c : Fx K mg) (has : ∀ y, (defScope s_law).names.lookup y = some .cell ∨ (defScope s_law).names.lookup y = some .free → ∃ cc, cells.lookup y = some cc) (k : Nat) (L : LamD) (M : LamM) (h1 : lams_law[k]? = some L) (h2 : ms_law[k]? = some M) : LamOk P w K mg base (glo K mg (tabs K) q lams_law cells cv) 9 q cells L M := match k, h1, h2 with
  | 0, h1, h2 => by cases h1; cases h2; exact lk_law_0 c fun y hy e => has y.1 (.inl (cf_law_0 y hy e))
  | 1, h1, h2 => by cases h1; cases h2; exact lk_law_1 c fun y hy e => has y.1 (.inl (cf_law_1 y hy e))
  | 2, h1, h2 => by cases h1; cases h2; exact lk_law_2 c fun y hy e => has y.1 (.inl (cf_law_2 y hy e))
  | 3, h1, h2 => by cases h1; cases h2; exact lk_law_3 c fun y hy e => has y.1 (.inl (cf_law_3 y hy e))
  | 4, h1, h2 => by cases h1; cases h2; exact lk_law_4 c fun y hy e => has y.1 (.inl (cf_law_4 y hy e))
theorem hcap_law (X : Cx) (hN : X.N = (["_law_script", "_law_k", "_law_state_here", "_law_many", "_law_signs", "_law_turn", "_law_kind", "_law_place", "_law_bad", "_law_none", "_law_calls", "_law_odd", "_law_call"] : List Str)) (hs : X.env.scope = defScope s_law) (k : Nat) (L : LamD) (M : LamM) (h1 : lams_law[k]? = some L) (h2 : ms_law[k]? = some M) : Capt X L M := match k, h1, h2 with
  | 0, h1, h2 => by cases h1; cases h2; exact capt_of rfl rfl (by rw [hN, hs]; decide +kernel)
  | 1, h1, h2 => by cases h1; cases h2; exact capt_of rfl rfl (by rw [hN, hs]; decide +kernel)
  | 2, h1, h2 => by cases h1; cases h2; exact capt_of rfl rfl (by rw [hN, hs]; decide +kernel)
  | 3, h1, h2 => by cases h1; cases h2; exact capt_of rfl rfl (by rw [hN, hs]; decide +kernel)
  | 4, h1, h2 => by cases h1; cases h2; exact capt_of rfl rfl (by rw [hN, hs]; decide +kernel)
def m_law : MS := mSeq (mFor (mRng1 (mCons (mAp max2W (mCons (mC (.int 1)) (mCons (mAp min2W (mCons (mAp lenW (mCons (mVar 0) (mNil))) (mCons (mC (.int 6)) (mNil)))) (mNil)))) (mNil))) (tgN 1) (mSeq (mSet 2 (mAp (gCall 2 M__law_state) (mCons (mVar 0) (mCons (mVar 1) (mNil))))) (mSeq (mAsg (tgT [3, 4]) (mTup (mCons (mBin addW (mC (.int 1)) (mAp (gCall 2 M__law_take) (mCons (mVar 2) (mCons (mC (.int 12)) (mNil))))) (mCons (mBin addW (mC (.int 2)) (mAp (gCall 2 M__law_take) (mCons (mVar 2) (mCons (mC (.int 8)) (mNil))))) (mNil))))) (mSeq (mFor (mRng1 (mCons (mC (.int 6)) (mNil))) (tgN 5) (mSeq (mPar 6 7 (mCons (mAp (gCall 2 M__law_take) (mCons (mVar 2) (mCons (mBin addW (mVar 3) (mC (.int 1))) (mNil)))) (mCons (mAp (gCall 2 M__law_take) (mCons (mVar 2) (mCons (mBin addW (mVar 3) (mC (.int 1))) (mNil)))) (mNil)))) (mCond (mNotT (mIsT (mAp (gPure 2 M__law_same) (mCons (mAp (gPure 4 M_words_weight) (mCons (mVar 3) (mCons (mVar 4) (mCons (mVar 6) (mCons (mVar 7) (mNil)))))) (mCons (mAp (gPure 4 M__law_due) (mCons (mVar 3) (mCons (mVar 4) (mCons (mVar 6) (mCons (mVar 7) (mNil)))))) (mNil)))))) (mRet (mC (.bl false))) (mSkip)))) (mSeq (mSet 8 (mBin idxW (mLst (mCons (mC (.int 0)) (mCons (mC (.int 13)) (mCons (mUn negW (mC (.int 1))) (mCons (mC (.bl true)) (mCons (mC .non) (mCons (mC (.str "2")) (mCons (mTup (mCons (mC (.int 2)) (mNil))) (mCons (mBin powW (mC (.int 10)) (mC (.int 29))) (mNil)))))))))) (mAp (gCall 2 M__law_take) (mCons (mVar 2) (mCons (mC (.int 8)) (mNil)))))) (mSeq (mSet 9 (mBin idxW (mLst (mCons (mBin addW (mVar 3) (mC (.int 1))) (mCons (mUn negW (mC (.int 1))) (mCons (mC (.bl true)) (mCons (mC .non) (mCons (mC (.str "0")) (mCons (mTup (mCons (mC (.int 0)) (mNil))) (mNil)))))))) (mAp (gCall 2 M__law_take) (mCons (mVar 2) (mCons (mC (.int 6)) (mNil)))))) (mSeq (mSet 10 (mNew (mCons (mC (.clo 0 [])) (mNil)))) (mSeq (mDo (mMt appW (mVar 10) (mCons (mC (.clo 1 [])) (mNil)))) (mSeq (mSet 11 (mBin idxW (mLst (mCons (mC (.int 1)) (mCons (mIf (mIsT (mBin eqW (mVar 8) (mC (.int 13)))) (mC (.int 10)) (mVar 8)) (mNil)))) (mAp (gCall 2 M__law_take) (mCons (mVar 2) (mCons (mC (.int 2)) (mNil)))))) (mSeq (mDo (mMt appW (mVar 10) (mCons (mC (.clo 2 [])) (mNil)))) (mSeq (mCond (mIsT (mBin neW (mLc (mItV (mVar 10)) [12] (tgN 12) (tYesM) (mCallCB 1 (M__law_refused (apM ms_law [])) ms_law [12] (mCons (mVar 12) (mNil)))) (mBin mulW (mLst (mCons (mLst (mCons (mC (.int 5)) (mNil))) (mNil))) (mC (.int 3))))) (mRet (mC (.bl false))) (mSkip)) (mSeq (mSet 10 (mNew (mCons (mC (.clo 3 [])) (mNil)))) (mSeq (mDo (mMt appW (mVar 10) (mCons (mC (.clo 4 [])) (mNil)))) (mCond (mIsT (mBin neW (mLc (mItV (mVar 10)) [12] (tgN 12) (tYesM) (mCallCB 1 (M__law_refused (apM ms_law [])) ms_law [12] (mCons (mVar 12) (mNil)))) (mBin mulW (mLst (mCons (mLst (mCons (mC (.int 3)) (mNil))) (mNil))) (mC (.int 2))))) (mRet (mC (.bl false))) (mSkip))))))))))))))) (mRet (mC (.bl true)))
def M_law : MD := mkM 13 m_law
theorem tabM_law : ((He.cT K ("law", none)).2, (("law" ++ ".<locals>.") ++ "<lambda>" : Str)) ∈ tabs K := by unfold tabs; simp
theorem tabU_law : ∀ p ∈ tabs K, p.1 = (He.cT K ("law", none)).2 → p.2 = (("law" ++ ".<locals>.") ++ "<lambda>" : Str) := by unfold tabs; intro p hp e; simp at hp; first | (rw [hp]; done) | (subst hp; rfl)
theorem ok_law (c : Fx K mg) (TB : TabB base mg (He.cT K ("law", none)).1 (He.cT K ("law", none)).2) : FG P w K mg base (glo K mg (tabs K) q lams cells cv) "law" 13 1 (M_law) :=
  (c.df 13 d_law rfl).mk_ (N := ["_law_script", "_law_k", "_law_state_here", "_law_many", "_law_signs", "_law_turn", "_law_kind", "_law_place", "_law_bad", "_law_none", "_law_calls", "_law_odd", "_law_call"]) (ps := ["_law_script"]) (lams := lams_law) sc_law (fun _ _ _ _ _ _ us hl => match us, hl with | [_], _ => rfl) fun A outer s H E hr => by
    have sc := sc_law
    exact sm_cons (sm_for (gm_name (i := 1)) (passes_of rfl) rfl (im_rng1 (by rfl) (c.fr 9 "range" rfl) (am_cons (em_b (c_max2 rfl) (c.fr 7 "max" rfl) (am_cons (em_int) (am_cons (em_b (c_min2 rfl) (c.fr 8 "min" rfl) (am_cons (em_b (c_len rfl) (c.fr 5 "len" rfl) (am_cons (em_var (pv 0)) (am_nil))) (am_cons (em_int) (am_nil)))) (am_nil)))) (am_nil))) (pg_name (i := 1) sc.nd rfl (by first | exact Or.inl rfl | exact Or.inr rfl)) (sm_cons (sm_set (i := 2) (em_fS (ok__law_state c) hr pas_of (am_cons (em_var (pv 0)) (am_cons (em_var (pv 1)) (am_nil)))) sc.nd) (sm_cons (sm_asg (gm_tup (is := [3, 4]) rfl) (em_tup (am_cons (em_op (o_add) (em_int) (em_fS (ok__law_take c) hr pas_of (am_cons (em_var (pv 2)) (am_cons (em_int) (am_nil))))) (am_cons (em_op (o_add) (em_int) (em_fS (ok__law_take c) hr pas_of (am_cons (em_var (pv 2)) (am_cons (em_int) (am_nil))))) (am_nil)))) (pg_tup rfl (pgs_cons (pg_name (i := 3) sc.nd rfl (by first | exact Or.inl rfl | exact Or.inr rfl)) (pgs_cons (pg_name (i := 4) sc.nd rfl (by first | exact Or.inl rfl | exact Or.inr rfl)) (pgs_nil))))) (sm_cons (sm_for (gm_name (i := 5)) (passes_of rfl) rfl (im_rng1 (by rfl) (c.fr 9 "range" rfl) (am_cons (em_int) (am_nil))) (pg_name (i := 5) sc.nd rfl (by first | exact Or.inl rfl | exact Or.inr rfl)) (sm_cons (sm_par (i := 6) (j := 7) rfl sc.nd rfl rfl (by decide) rfl rfl (am_cons (em_fS (ok__law_take c) hr pas_of (am_cons (em_var (pv 2)) (am_cons (em_op (o_add) (em_var (pv 3)) (em_int)) (am_nil)))) (am_cons (em_fS (ok__law_take c) hr pas_of (am_cons (em_var (pv 2)) (am_cons (em_op (o_add) (em_var (pv 3)) (em_int)) (am_nil)))) (am_nil))) rfl) (sm_one (sm_if (tm_not (tm_val (em_fP (ok__law_same c) hr pas_of (am_cons (em_fP (ok_words_weight c) hr pas_of (am_cons (em_var (pv 3)) (am_cons (em_var (pv 4)) (am_cons (em_var (pv 6)) (am_cons (em_var (pv 7)) (am_nil)))))) (am_cons (em_fP (ok__law_due c) hr pas_of (am_cons (em_var (pv 3)) (am_cons (em_var (pv 4)) (am_cons (em_var (pv 6)) (am_cons (em_var (pv 7)) (am_nil)))))) (am_nil)))))) (sm_one (sm_ret (em_bl))) (sm_nil))))) (sm_cons (sm_set (i := 8) (em_ix (o_idx rfl) (em_lst (am_cons (em_int) (am_cons (em_int) (am_cons (em_un o_neg (em_int)) (am_cons (em_bl) (am_cons (em_non) (am_cons (em_str) (am_cons (em_tup (am_cons (em_int) (am_nil))) (am_cons (em_op (o_pow) (em_int) (em_int)) (am_nil)))))))))) (em_fS (ok__law_take c) hr pas_of (am_cons (em_var (pv 2)) (am_cons (em_int) (am_nil))))) sc.nd) (sm_cons (sm_set (i := 9) (em_ix (o_idx rfl) (em_lst (am_cons (em_op (o_add) (em_var (pv 3)) (em_int)) (am_cons (em_un o_neg (em_int)) (am_cons (em_bl) (am_cons (em_non) (am_cons (em_str) (am_cons (em_tup (am_cons (em_int) (am_nil))) (am_nil)))))))) (em_fS (ok__law_take c) hr pas_of (am_cons (em_var (pv 2)) (am_cons (em_int) (am_nil))))) sc.nd) (sm_cons (sm_set (i := 10) (em_new (am_cons (em_lam (k := 0) (L := l_law_0) TB rfl tabM_law tabU_law rfl (fun y hy e => cell_has (cf_law_0 y hy e))) (am_nil))) sc.nd) (sm_cons (sm_do (em_mt rfl PySem.F.slot_list_append rfl m_app (em_var (pv 10)) (am_cons (em_lam (k := 1) (L := l_law_1) TB rfl tabM_law tabU_law rfl (fun y hy e => cell_has (cf_law_1 y hy e))) (am_nil)))) (sm_cons (sm_set (i := 11) (em_ix (o_idx rfl) (em_lst (am_cons (em_int) (am_cons (em_if (tm_cmp (o_eq rfl hr.units) (em_var (pv 8)) (em_int)) (em_int) (em_var (pv 8))) (am_nil)))) (em_fS (ok__law_take c) hr pas_of (am_cons (em_var (pv 2)) (am_cons (em_int) (am_nil))))) sc.nd) (sm_cons (sm_do (em_mt rfl PySem.F.slot_list_append rfl m_app (em_var (pv 10)) (am_cons (em_lam (k := 2) (L := l_law_2) TB rfl tabM_law tabU_law rfl (fun y hy e => cell_has (cf_law_2 y hy e))) (am_nil)))) (sm_cons (sm_if (tm_cmp (o_ne rfl hr.units) (em_lcK (gm_name (i := 12)) (by decide) rfl sc.nd (im_val (em_var (pv 10))) (blkOk_by (own := [("_law_call", 12)]) (by kernel_rfl)) (fun _s _H _C _cl _fp => pg_name (i := 12) sc.nd rfl (by first | exact Or.inl rfl | exact Or.inr rfl)) (fun _s _H _C _cl _fp => ptm_nil) (fun pins σ s3 H3 _C _cl _fp I3 hfp => em_callCB (kk := 9) (gs := []) I3 hfp (fun _ => rfl) rfl (hcap_law _ rfl rfl) (fun B cv k L M h1 h2 ok => hl_law c ok.has k L M h1 h2) (fun B cv x n m h => nomatch h) (fun B cv C => ok__law_refused c C) (hr.mono (by decide)) rfl (c.df 11 d__law_refused rfl).at_ (c.df 11 d__law_refused rfl).kp (am_cons (em_var (pv 12)) (am_nil)))) (em_op (o_mul) (em_lst (am_cons (em_lst (am_cons (em_int) (am_nil))) (am_nil))) (em_int))) (sm_one (sm_ret (em_bl))) (sm_nil)) (sm_cons (sm_set (i := 10) (em_new (am_cons (em_lam (k := 3) (L := l_law_3) TB rfl tabM_law tabU_law rfl (fun y hy e => cell_has (cf_law_3 y hy e))) (am_nil))) sc.nd) (sm_cons (sm_do (em_mt rfl PySem.F.slot_list_append rfl m_app (em_var (pv 10)) (am_cons (em_lam (k := 4) (L := l_law_4) TB rfl tabM_law tabU_law rfl (fun y hy e => cell_has (cf_law_4 y hy e))) (am_nil)))) (sm_one (sm_if (tm_cmp (o_ne rfl hr.units) (em_lcK (gm_name (i := 12)) (by decide) rfl sc.nd (im_val (em_var (pv 10))) (blkOk_by (own := [("_law_call", 12)]) (by kernel_rfl)) (fun _s _H _C _cl _fp => pg_name (i := 12) sc.nd rfl (by first | exact Or.inl rfl | exact Or.inr rfl)) (fun _s _H _C _cl _fp => ptm_nil) (fun pins σ s3 H3 _C _cl _fp I3 hfp => em_callCB (kk := 9) (gs := []) I3 hfp (fun _ => rfl) rfl (hcap_law _ rfl rfl) (fun B cv k L M h1 h2 ok => hl_law c ok.has k L M h1 h2) (fun B cv x n m h => nomatch h) (fun B cv C => ok__law_refused c C) (hr.mono (by decide)) rfl (c.df 11 d__law_refused rfl).at_ (c.df 11 d__law_refused rfl).kp (am_cons (em_var (pv 12)) (am_nil)))) (em_op (o_mul) (em_lst (am_cons (em_lst (am_cons (em_int) (am_nil))) (am_nil))) (em_int))) (sm_one (sm_ret (em_bl))) (sm_nil)))))))))))))))) (sm_one (sm_ret (em_bl)))
theorem okl_law (c : Fx K mg) (TB : TabB base mg (He.cT K ("law", none)).1 (He.cT K ("law", none)).2) {fd : FuncData} (F : FunD K d_law.name d_law.qual d_law.params d_law.body d_law.scope [] [] (He.fAd K d_law.at_) fd) : FnOk P w K mg base (L2.CX P w) 13 (He.fAd K d_law.at_) fd ["_law_script"] (spM (glo K mg (tabs K) q lams cells cv) 1 M_law) :=
  mkFn (N := ["_law_script", "_law_k", "_law_state_here", "_law_many", "_law_signs", "_law_turn", "_law_kind", "_law_place", "_law_bad", "_law_none", "_law_calls", "_law_odd", "_law_call"]) (ps := ["_law_script"]) (lams := lams_law) F sc_law fun A outer s H E hr => by
    have sc := sc_law
    exact sm_cons (sm_for (gm_name (i := 1)) (passes_of rfl) rfl (im_rng1 (by rfl) (c.fr 9 "range" rfl) (am_cons (em_b (c_max2 rfl) (c.fr 7 "max" rfl) (am_cons (em_int) (am_cons (em_b (c_min2 rfl) (c.fr 8 "min" rfl) (am_cons (em_b (c_len rfl) (c.fr 5 "len" rfl) (am_cons (em_var (pv 0)) (am_nil))) (am_cons (em_int) (am_nil)))) (am_nil)))) (am_nil))) (pg_name (i := 1) sc.nd rfl (by first | exact Or.inl rfl | exact Or.inr rfl)) (sm_cons (sm_set (i := 2) (em_fS (ok__law_state c) hr pas_of (am_cons (em_var (pv 0)) (am_cons (em_var (pv 1)) (am_nil)))) sc.nd) (sm_cons (sm_asg (gm_tup (is := [3, 4]) rfl) (em_tup (am_cons (em_op (o_add) (em_int) (em_fS (ok__law_take c) hr pas_of (am_cons (em_var (pv 2)) (am_cons (em_int) (am_nil))))) (am_cons (em_op (o_add) (em_int) (em_fS (ok__law_take c) hr pas_of (am_cons (em_var (pv 2)) (am_cons (em_int) (am_nil))))) (am_nil)))) (pg_tup rfl (pgs_cons (pg_name (i := 3) sc.nd rfl (by first | exact Or.inl rfl | exact Or.inr rfl)) (pgs_cons (pg_name (i := 4) sc.nd rfl (by first | exact Or.inl rfl | exact Or.inr rfl)) (pgs_nil))))) (sm_cons (sm_for (gm_name (i := 5)) (passes_of rfl) rfl (im_rng1 (by rfl) (c.fr 9 "range" rfl) (am_cons (em_int) (am_nil))) (pg_name (i := 5) sc.nd rfl (by first | exact Or.inl rfl | exact Or.inr rfl)) (sm_cons (sm_par (i := 6) (j := 7) rfl sc.nd rfl rfl (by decide) rfl rfl (am_cons (em_fS (ok__law_take c) hr pas_of (am_cons (em_var (pv 2)) (am_cons (em_op (o_add) (em_var (pv 3)) (em_int)) (am_nil)))) (am_cons (em_fS (ok__law_take c) hr pas_of (am_cons (em_var (pv 2)) (am_cons (em_op (o_add) (em_var (pv 3)) (em_int)) (am_nil)))) (am_nil))) rfl) (sm_one (sm_if (tm_not (tm_val (em_fP (ok__law_same c) hr pas_of (am_cons (em_fP (ok_words_weight c) hr pas_of (am_cons (em_var (pv 3)) (am_cons (em_var (pv 4)) (am_cons (em_var (pv 6)) (am_cons (em_var (pv 7)) (am_nil)))))) (am_cons (em_fP (ok__law_due c) hr pas_of (am_cons (em_var (pv 3)) (am_cons (em_var (pv 4)) (am_cons (em_var (pv 6)) (am_cons (em_var (pv 7)) (am_nil)))))) (am_nil)))))) (sm_one (sm_ret (em_bl))) (sm_nil))))) (sm_cons (sm_set (i := 8) (em_ix (o_idx rfl) (em_lst (am_cons (em_int) (am_cons (em_int) (am_cons (em_un o_neg (em_int)) (am_cons (em_bl) (am_cons (em_non) (am_cons (em_str) (am_cons (em_tup (am_cons (em_int) (am_nil))) (am_cons (em_op (o_pow) (em_int) (em_int)) (am_nil)))))))))) (em_fS (ok__law_take c) hr pas_of (am_cons (em_var (pv 2)) (am_cons (em_int) (am_nil))))) sc.nd) (sm_cons (sm_set (i := 9) (em_ix (o_idx rfl) (em_lst (am_cons (em_op (o_add) (em_var (pv 3)) (em_int)) (am_cons (em_un o_neg (em_int)) (am_cons (em_bl) (am_cons (em_non) (am_cons (em_str) (am_cons (em_tup (am_cons (em_int) (am_nil))) (am_nil)))))))) (em_fS (ok__law_take c) hr pas_of (am_cons (em_var (pv 2)) (am_cons (em_int) (am_nil))))) sc.nd) (sm_cons (sm_set (i := 10) (em_new (am_cons (em_lam (k := 0) (L := l_law_0) TB rfl tabM_law tabU_law rfl (fun y hy e => cell_has (cf_law_0 y hy e))) (am_nil))) sc.nd) (sm_cons (sm_do (em_mt rfl PySem.F.slot_list_append rfl m_app (em_var (pv 10)) (am_cons (em_lam (k := 1) (L := l_law_1) TB rfl tabM_law tabU_law rfl (fun y hy e => cell_has (cf_law_1 y hy e))) (am_nil)))) (sm_cons (sm_set (i := 11) (em_ix (o_idx rfl) (em_lst (am_cons (em_int) (am_cons (em_if (tm_cmp (o_eq rfl hr.units) (em_var (pv 8)) (em_int)) (em_int) (em_var (pv 8))) (am_nil)))) (em_fS (ok__law_take c) hr pas_of (am_cons (em_var (pv 2)) (am_cons (em_int) (am_nil))))) sc.nd) (sm_cons (sm_do (em_mt rfl PySem.F.slot_list_append rfl m_app (em_var (pv 10)) (am_cons (em_lam (k := 2) (L := l_law_2) TB rfl tabM_law tabU_law rfl (fun y hy e => cell_has (cf_law_2 y hy e))) (am_nil)))) (sm_cons (sm_if (tm_cmp (o_ne rfl hr.units) (em_lcK (gm_name (i := 12)) (by decide) rfl sc.nd (im_val (em_var (pv 10))) (blkOk_by (own := [("_law_call", 12)]) (by kernel_rfl)) (fun _s _H _C _cl _fp => pg_name (i := 12) sc.nd rfl (by first | exact Or.inl rfl | exact Or.inr rfl)) (fun _s _H _C _cl _fp => ptm_nil) (fun pins σ s3 H3 _C _cl _fp I3 hfp => em_callCB (kk := 9) (gs := []) I3 hfp (fun _ => rfl) rfl (hcap_law _ rfl rfl) (fun B cv k L M h1 h2 ok => hl_law c ok.has k L M h1 h2) (fun B cv x n m h => nomatch h) (fun B cv C => ok__law_refused c C) (hr.mono (by decide)) rfl (c.df 11 d__law_refused rfl).at_ (c.df 11 d__law_refused rfl).kp (am_cons (em_var (pv 12)) (am_nil)))) (em_op (o_mul) (em_lst (am_cons (em_lst (am_cons (em_int) (am_nil))) (am_nil))) (em_int))) (sm_one (sm_ret (em_bl))) (sm_nil)) (sm_cons (sm_set (i := 10) (em_new (am_cons (em_lam (k := 3) (L := l_law_3) TB rfl tabM_law tabU_law rfl (fun y hy e => cell_has (cf_law_3 y hy e))) (am_nil))) sc.nd) (sm_cons (sm_do (em_mt rfl PySem.F.slot_list_append rfl m_app (em_var (pv 10)) (am_cons (em_lam (k := 4) (L := l_law_4) TB rfl tabM_law tabU_law rfl (fun y hy e => cell_has (cf_law_4 y hy e))) (am_nil)))) (sm_one (sm_if (tm_cmp (o_ne rfl hr.units) (em_lcK (gm_name (i := 12)) (by decide) rfl sc.nd (im_val (em_var (pv 10))) (blkOk_by (own := [("_law_call", 12)]) (by kernel_rfl)) (fun _s _H _C _cl _fp => pg_name (i := 12) sc.nd rfl (by first | exact Or.inl rfl | exact Or.inr rfl)) (fun _s _H _C _cl _fp => ptm_nil) (fun pins σ s3 H3 _C _cl _fp I3 hfp => em_callCB (kk := 9) (gs := []) I3 hfp (fun _ => rfl) rfl (hcap_law _ rfl rfl) (fun B cv k L M h1 h2 ok => hl_law c ok.has k L M h1 h2) (fun B cv x n m h => nomatch h) (fun B cv C => ok__law_refused c C) (hr.mono (by decide)) rfl (c.df 11 d__law_refused rfl).at_ (c.df 11 d__law_refused rfl).kp (am_cons (em_var (pv 12)) (am_nil)))) (em_op (o_mul) (em_lst (am_cons (em_lst (am_cons (em_int) (am_nil))) (am_nil))) (em_int))) (sm_one (sm_ret (em_bl))) (sm_nil)))))))))))))))) (sm_one (sm_ret (em_bl)))
end
def fa : List He.Fa := fn.map (fun d => .glo d.name) ++ (frees.map .free ++ (gints.map (fun p => .int p.1 p.2) ++ (xcs.map .glo ++ xcs.map .exc)))
def ex (K : PySem.W.Frag) : Bool := extB xcs xtb K && xcs.all fun c => decide (PySem.W.exmOne K (.ref (He.ga K c)) (.ref (He.ga K "NearError")) = some true)
theorem fn_at : ∀ d ∈ fn, d.at_ = (d.name, none) ∧ d.dfl.isEmpty = true ∧ d.kwd.isEmpty = true := by decide +kernel
theorem fx_of {h : Heap} {w : World} {K : PySem.W.Frag} {mg : Str → Option Value} (X : K.In h) (G : h.Ns mainGlobals mg) (c : He.SaysX fa fn [] tf ex w h K) : Fx K mg := by
  have cd := c.t.d
  have xc : ∀ x ∈ xcs, XC K mg x := fun x hx => xc_of X G cd (by unfold fa; simp only [List.mem_append, List.mem_map]; exact .inr (.inr (.inr (.inl ⟨x, hx, rfl⟩)))) (by unfold fa; simp only [List.mem_append, List.mem_map]; exact .inr (.inr (.inr (.inr ⟨x, hx, rfl⟩))))
  have mo := c.more
  unfold ex at mo
  refine ⟨fun i d hd => ?_, fun i x hx => ?_, fun i x n hx => ?_, fun i x hx => xc x (List.mem_of_getElem? hx), ?_, ?_⟩
  · have hm := List.mem_of_getElem? hd
    obtain ⟨h1, h2, h3⟩ := fn_at d hm
    exact df_of X G cd hm (by unfold fa; simp only [List.mem_append, List.mem_map]; exact .inl ⟨d, hm, rfl⟩) h1 (List.isEmpty_iff.mp h2) (List.isEmpty_iff.mp h3)
  · exact He.free_ok X G (cd.facts (by unfold fa; simp only [List.mem_append, List.mem_map]; exact .inr (.inl ⟨x, List.mem_of_getElem? hx, rfl⟩)))
  · exact He.int_ok X G (cd.facts (by unfold fa; simp only [List.mem_append, List.mem_map]; exact .inr (.inr (.inl ⟨(x, n), List.mem_of_getElem? hx, rfl⟩))))
  · exact extB_ok (Bool.and_eq_true_iff.mp mo).1 fun c hc => (xc c hc).at_
  · intro c hc
    exact ⟨_, (xc c hc).at_, of_decide_eq_true (List.all_eq_true.mp (Bool.and_eq_true_iff.mp mo).2 c hc)⟩

def nms0 : List Str := ["NearError", "NoTable", "NotSteady", "NoPlace", "NoKind", "NoMix", "NoNumber", "NoLot", "NoKinds", "NoPaper", "NoParting", "NoClosed", "NoWeights", "NotWhole", "NoNumbers", "TooMany", "NoText", "NoLine", "NoDeed", "is_whole"]
def nms1 : List Str := ["is_upto", "MOST_LONG", "MOST_SIGNS", "need_from", "power_of", "lots_many", "need_kind_to", "words_weight", "_law_cell_at", "_law_state", "_law_take", "_law_same", "_law_refused", "_law_due"]
def nms : List Str := nms0 ++ nms1
abbrev rwR : PySem.W.OpenRow := PySem.W.OpenLaw.row row
abbrev hk : PySem.W.Hook := He.hookX 5 fa fn [] tf ex
def ob (s : PySem.W.SharedT) : He.AlX := He.obsX 5 fa fn [] tf ex (HandSHeadRun.getT s)
theorem ob_eq (s : PySem.W.SharedT) : ob s = hk.obs s.abs := He.obsX_eq (HandSHeadRun.getT_eq s)
theorem run (w : World) : HandSHeadRun.RunEq rwR (PySem.W.view rwR.prog [38]) hk ob 15000 nms w := by
  intro os
  kernel_rfl
end Law62
namespace Law62
open Mo PySem PySem.Spec L2
def lotsI (a : Int) : Nat → Int
  | 0 => 1
  | n + 1 => (lotsI a n * (a - n)).fdiv (n + 1)
def powI (a : Int) : Nat → Int
  | 0 => 1
  | n + 1 => powI a n * a
theorem lots (a : Int) (n : Nat) (hn : n < 64) (h1 : -1000 < a) (h2 : a < 1000) : M_lots_many [.int a, .int n] [] = .ok (.int (lotsI a n)) [] := by
  obtain ⟨ρ', S', e, rfl, x, rfl⟩ := rng_inv (g := tgN 3) (body := mSet 2 (mBin fdivW (mBin mulW (mVar 2) (mBin subW (mVar 0) (mVar 3))) (mBin addW (mVar 3) (mC (.int 1))))) (r := mCons (mVar 1) (mNil)) (ρ := [some (.int a), some (.int n), some (.int 1), none]) (S := []) (n := n)
    (fun j ρ S => S = [] ∧ ∃ x, ρ = [some (.int a), some (.int n), some (.int (lotsI a j)), x]) rfl (by omega) ⟨rfl, _, rfl⟩ (by
      rintro j _ _ hj ⟨rfl, x, rfl⟩
      have e1 : (small (lotsI a j) || small (a - j)) = true := by simp [small]; right; omega
      have e2 : (decide ((j : Int) + 1 ≠ 0) && decide (((j : Int) + 1).natAbs < 1073741824)) = true := by simp; omega
      refine ⟨_, _, _, rfl, ?_, rfl, some (.int j), rfl⟩
      simp [mSet, mBin, mVar, mC, R.bind, subW, mulW, addW, fdivW, e1, e2, lotsI]
      rw [if_pos (show ¬ ((j : Int) + 1 = 0) ∧ ((j : Int) + 1).natAbs < 1073741824 by omega)])
  unfold M_lots_many mDef m_lots_many
  simp [mSeq, mSet, mC, R.bind, e, mRet, mVar]
theorem pow_ (a : Int) (n : Nat) (hn : n < 64) (h1 : -1000 < a) (h2 : a < 1000) : M_power_of [.int a, .int n] [] = .ok (.int (powI a n)) [] := by
  obtain ⟨ρ', S', e, rfl, x, rfl⟩ := rng_inv (g := tgN 3) (body := mSet 2 (mBin mulW (mVar 2) (mVar 0))) (r := mCons (mVar 1) (mNil)) (ρ := [some (.int a), some (.int n), some (.int 1), none]) (S := []) (n := n)
    (fun j ρ S => S = [] ∧ ∃ x, ρ = [some (.int a), some (.int n), some (.int (powI a j)), x]) rfl (by omega) ⟨rfl, _, rfl⟩ (by
      rintro j _ _ hj ⟨rfl, x, rfl⟩
      have e1 : (small (powI a j) || small a) = true := by simp [small]; right; omega
      refine ⟨_, _, _, rfl, ?_, rfl, some (.int j), rfl⟩
      simp [mSet, mBin, mVar, mC, R.bind, mulW, e1, powI])
  unfold M_power_of mDef m_power_of
  simp [mSeq, mSet, mC, R.bind, e, mRet, mVar]
theorem upto {x lo hi : Int} (h1 : lo ≤ x) (h2 : x ≤ hi) : M_is_upto [.int x, .int lo, .int hi] [] = .ok (.bl true) [] := by
  have e : gPure 1 M_is_whole [.int x] [] = .ok (.bl true) [] := gPure_nr (S' := []) rfl rfl rfl rfl
  unfold M_is_upto mDef m_is_upto
  simp [mRet, mAnd, mAp, mCons, mVar, mNil, R.bind, e, mChain, leW, h1, h2]
theorem needf {x lo hi : Int} (h1 : lo ≤ x) (h2 : x ≤ hi) : M_need_from [.int x, .int lo, .int hi] [] = .ok .non [] := by
  have e : gPure 3 M_is_upto [.int x, .int lo, .int hi] [] = .ok (.bl true) [] := gPure_nr (upto h1 h2) rfl rfl rfl
  unfold M_need_from mDef m_need_from
  simp [mCond, mNotT, mIsT, mAp, mCons, mVar, mNil, R.bind, e, mSkip]
theorem needk {x hi : Int} (h1 : 0 ≤ x) (h2 : x ≤ hi) : M_need_kind_to [.int hi, .int x] [] = .ok .non [] := by
  have e : gPure 3 M_is_upto [.int x, .int 0, .int hi] [] = .ok (.bl true) [] := gPure_nr (upto h1 h2) rfl rfl rfl
  unfold M_need_kind_to mDef m_need_kind_to
  simp [mCond, mNotT, mIsT, mAp, mCons, mVar, mNil, mC, R.bind, e, mSkip]
def partI (many signs kind place s : Nat) : Int := lotsI place s * lotsI ((many - place : Nat) : Int) (kind - s) * powI ((signs - 1 : Nat) : Int) (kind - s)
def wI (many signs kind place : Nat) : Nat → Int
  | 0 => 0
  | n + 1 => wI many signs kind place n + partI many signs kind place n * (1 - 2 * (n % 2 : Nat))
theorem smL : ((List.range 13).all fun a => (List.range 14).all fun n => small (lotsI (a : Nat) n)) = true := by decide +kernel
theorem smP : ((List.range 9).all fun a => (List.range 14).all fun n => small (powI (a : Nat) n)) = true := by decide +kernel
theorem smL' {a n : Nat} (h : a < 13) (k : n < 14) : small (lotsI a n) = true := List.all_eq_true.mp (List.all_eq_true.mp smL a (List.mem_range.mpr h)) n (List.mem_range.mpr k)
theorem smP' {a n : Nat} (h : a < 9) (k : n < 14) : small (powI a n) = true := List.all_eq_true.mp (List.all_eq_true.mp smP a (List.mem_range.mpr h)) n (List.mem_range.mpr k)
theorem weight (many signs kind place : Nat) (h1 : 1 ≤ many) (h2 : many ≤ 12) (h3 : 2 ≤ signs) (h4 : signs ≤ 9) (h5 : kind ≤ many) (h6 : place ≤ many) : M_words_weight [.int many, .int signs, .int kind, .int place] [] = .ok (.int (wI many signs kind place (kind + 1))) [] := by
  have n1 : gPure 3 M_need_from [.int many, .int 1, .int 12] [] = .ok .non [] := gPure_nr (needf (by omega) (by omega)) rfl rfl rfl
  have n2 : gPure 3 M_need_from [.int signs, .int 2, .int 9] [] = .ok .non [] := gPure_nr (needf (by omega) (by omega)) rfl rfl rfl
  have n3 : gPure 2 M_need_kind_to [.int many, .int kind] [] = .ok .non [] := gPure_nr (needk (by omega) (by omega)) rfl rfl rfl
  have n4 : gPure 2 M_need_kind_to [.int many, .int place] [] = .ok .non [] := gPure_nr (needk (by omega) (by omega)) rfl rfl rfl
  obtain ⟨ρ', S', e, rfl, x, y, rfl⟩ := rng_inv (g := tgN 5) (body := mSeq (mSet 6 (mBin mulW (mBin mulW (mAp (gPure 2 M_lots_many) (mCons (mVar 3) (mCons (mVar 5) (mNil)))) (mAp (gPure 2 M_lots_many) (mCons (mBin subW (mVar 0) (mVar 3)) (mCons (mBin subW (mVar 2) (mVar 5)) (mNil))))) (mAp (gPure 2 M_power_of) (mCons (mBin subW (mVar 1) (mC (.int 1))) (mCons (mBin subW (mVar 2) (mVar 5)) (mNil)))))) (mSet 4 (mBin addW (mVar 4) (mBin mulW (mVar 6) (mBin subW (mC (.int 1)) (mBin mulW (mC (.int 2)) (mBin modW (mVar 5) (mC (.int 2)))))))))
    (r := mCons (mBin addW (mVar 2) (mC (.int 1))) (mNil)) (ρ := [some (.int many), some (.int signs), some (.int kind), some (.int place), some (.int 0), none, none]) (S := []) (n := kind + 1)
    (fun j ρ S => S = [] ∧ ∃ x y, ρ = [some (.int many), some (.int signs), some (.int kind), some (.int place), some (.int (wI many signs kind place j)), x, y]) rfl (by omega) ⟨rfl, _, _, rfl⟩ (by
      rintro j _ _ hj ⟨rfl, x, y, rfl⟩
      have l1 : gPure 2 M_lots_many [.int place, .int j] [] = .ok (.int (lotsI place j)) [] := gPure_nr (lots _ _ (by omega) (by omega) (by omega)) rfl rfl rfl
      have c1 : (many : Int) - place = ((many - place : Nat) : Int) := by omega
      have c2 : (kind : Int) - j = ((kind - j : Nat) : Int) := by omega
      have c3 : (signs : Int) - 1 = ((signs - 1 : Nat) : Int) := by omega
      have l2 : gPure 2 M_lots_many [.int ((many - place : Nat) : Int), .int ((kind - j : Nat) : Int)] [] = .ok (.int (lotsI ((many - place : Nat) : Int) (kind - j))) [] := gPure_nr (lots _ _ (by omega) (by omega) (by omega)) rfl rfl rfl
      have l3 : gPure 2 M_power_of [.int ((signs - 1 : Nat) : Int), .int ((kind - j : Nat) : Int)] [] = .ok (.int (powI ((signs - 1 : Nat) : Int) (kind - j))) [] := gPure_nr (pow_ _ _ (by omega) (by omega) (by omega)) rfl rfl rfl
      have m1 := smL' (a := place) (n := j) (by omega) (by omega)
      have m2 := smP' (a := signs - 1) (n := kind - j) (by omega) (by omega)
      refine ⟨_, _, _, rfl, ?_, rfl, some (.int j), some (.int (partI many signs kind place j)), rfl⟩
      have m3 : small 2 = true := by decide
      have m4 : (j : Int).fmod 2 = ((j % 2 : Nat) : Int) := by rw [Int.fmod_eq_emod_of_nonneg _ (by omega)]; omega
      have m5 : small (1 - 2 * ((j : Int) % 2)) = true := by simp [small]; omega
      simp [mSeq, mSet, mBin, mVar, mC, mAp, mCons, mNil, R.bind, subW, mulW, addW, modW, l1, c1, c2, c3, l2, l3, m1, m2, m3, m4, m5, partI, wI])
  unfold M_words_weight mDef m_words_weight
  simp [mSeq, mDo, mAp, mCons, mVar, mNil, mSet, mC, R.bind, n1, n2, n3, n4, e, mRet]
/-- the document's row, step by step -/
def stepR (w : Int) (r : List Int) : List Int := (List.range r.length).map fun s => r.getD s 0 + w * (0 :: r).getD s 0
def rowI (many signs place : Nat) : Nat → List Int
  | 0 => 1 :: List.replicate many 0
  | n + 1 => stepR (if n < place then -1 else (signs : Int) - 1) (rowI many signs place n)
theorem rowI_len (many signs place : Nat) : ∀ n, (rowI many signs place n).length = many + 1
  | 0 => by simp [rowI]
  | n + 1 => by simp [rowI, stepR, rowI_len many signs place n]
theorem atI_nat {ws : List W} {j : Nat} (h : j < ws.length) : L2.atI ws (j : Int) = ws[j]? := by
  unfold L2.atI L2.ixN
  simp [h]
theorem due (many signs kind place : Nat) (h1 : 1 ≤ many) (h2 : many ≤ 12) (h3 : 2 ≤ signs) (h4 : signs ≤ 9) (h5 : kind ≤ many) (h6 : place ≤ many) : M__law_due [.int many, .int signs, .int kind, .int place] [] = .ok (.int ((rowI many signs place many).getD kind 0)) [] := by
  obtain ⟨ρ', S', e, rfl, x, y, z, rfl⟩ := rng_inv (g := tgN 5) (body := mSeq (mSet 6 (mIf (mIsT (mBin ltW (mVar 5) (mVar 3))) (mUn negW (mC (.int 1))) (mBin subW (mVar 1) (mC (.int 1))))) (mSet 4 (mLc (mRng1 (mCons (mBin addW (mVar 0) (mC (.int 1))) (mNil))) [7] (tgN 7) (tYesM) (mBin addW (mBin idxW (mVar 4) (mVar 7)) (mBin mulW (mVar 6) (mBin idxW (mBin addW (mLst (mCons (mC (.int 0)) (mNil))) (mVar 4)) (mVar 7)))))))
    (r := mCons (mVar 0) (mNil)) (ρ := [some (.int many), some (.int signs), some (.int kind), some (.int place), some (.lst ((rowI many signs place 0).map .int)), none, none, none]) (S := []) (n := many)
    (fun j ρ S => S = [] ∧ ∃ x y z, ρ = [some (.int many), some (.int signs), some (.int kind), some (.int place), some (.lst ((rowI many signs place j).map .int)), x, y, z]) rfl (by omega) ⟨rfl, _, _, _, rfl⟩ (by
      rintro j _ _ hj ⟨rfl, x, y, z, rfl⟩
      have hl := rowI_len many signs place j
      have wt : small (if j < place then (-1 : Int) else (signs : Int) - 1) = true := by split <;> simp [small] <;> omega
      have e1 : (mIf (mIsT (mBin ltW (mVar 5) (mVar 3))) (mUn negW (mC (.int 1))) (mBin subW (mVar 1) (mC (.int 1)))) [some (.int many), some (.int signs), some (.int kind), some (.int place), some (.lst ((rowI many signs place j).map .int)), some (.int j), y, z] [] = .ok (.int (if j < place then (-1 : Int) else (signs : Int) - 1)) [] := by
        by_cases hp : j < place
        · simp [mIf, mIsT, mBin, ltW, mVar, mUn, negW, mC, subW, R.bind, hp]
        · simp [mIf, mIsT, mBin, ltW, mVar, mUn, negW, mC, subW, R.bind, hp]
      generalize hw : (if j < place then (-1 : Int) else (signs : Int) - 1) = w at wt e1
      have e2 := lc_rng (g := tgN 7) (me := mBin addW (mBin idxW (mVar 4) (mVar 7)) (mBin mulW (mVar 6) (mBin idxW (mBin addW (mLst (mCons (mC (.int 0)) (mNil))) (mVar 4)) (mVar 7)))) (r := mCons (mBin addW (mVar 0) (mC (.int 1))) (mNil)) (ρ := [some (.int many), some (.int signs), some (.int kind), some (.int place), some (.lst ((rowI many signs place j).map .int)), some (.int j), some (.int w), z]) (S := []) (own := [7]) (n := many + 1) ((stepR w (rowI many signs place j)).map .int) rfl (by omega) (by simp [stepR, hl]) (fun s hs => by
          refine ⟨_, .int ((rowI many signs place j).getD s 0 + w * (0 :: rowI many signs place j).getD s 0), rfl, ?_, ?_⟩
          · have a1 : L2.atI ((rowI many signs place j).map W.int) (s : Int) = some (.int ((rowI many signs place j).getD s 0)) := by
              rw [atI_nat (by simp [hl]; omega)]
              simp [List.getElem?_map, List.getD_eq_getElem?_getD, List.getElem?_eq_getElem (show s < (rowI many signs place j).length by omega)]
            have a2 : L2.atI (W.int 0 :: (rowI many signs place j).map W.int) (s : Int) = some (.int ((0 :: rowI many signs place j).getD s 0)) := by
              rw [atI_nat (by simp [hl]; omega), show (W.int 0 :: (rowI many signs place j).map W.int) = (0 :: rowI many signs place j).map W.int from rfl]
              simp only [List.getElem?_map, List.getD_eq_getElem?_getD, List.getElem?_eq_getElem (show s < (0 :: rowI many signs place j).length by simp; omega)]
              rfl
            have b1 : 1 + (many + 1) ≤ 100000 := by omega
            simp [mBin, mVar, mC, mCons, mNil, mAp, Mo.gLst, R.bind, wipeW, addW, mulW, idxW, itemsL, a1, a2, wt, b1, hl]
          · simp [stepR, List.getElem?_map, hl, List.getElem?_range hs])
      refine ⟨_, _, _, rfl, ?_, rfl, some (.int j), some (.int w), z, rfl⟩
      have e3 : rowI many signs place (j + 1) = stepR w (rowI many signs place j) := by rw [← hw]; rfl
      rw [e3]
      simp only [mSeq, mSet, List.set, e1, e2, R.bind])
  have a1 : L2.atI ((rowI many signs place many).map W.int) (kind : Int) = some (.int ((rowI many signs place many).getD kind 0)) := by
    have hl := rowI_len many signs place many
    rw [atI_nat (by simp [hl]; omega)]
    simp [List.getElem?_map, List.getD_eq_getElem?_getD, List.getElem?_eq_getElem (show kind < (rowI many signs place many).length by omega)]
  have r0 : W.int 1 :: repL many [W.int 0] = (rowI many signs place 0).map W.int := by
    have : ∀ n, repL n [W.int 0] = (List.replicate n (0 : Int)).map W.int := fun n => by
      induction n with
      | zero => rfl
      | succ n ih => unfold repL at ih ⊢; rw [List.replicate_succ, List.flatten_cons, ih, List.replicate_succ]; rfl
    rw [this]; rfl
  have b1 : 1 + (repL many [W.int 0]).length ≤ 100000 := by
    have := congrArg List.length r0
    simp [rowI_len] at this
    omega
  have b2 : (many : Int) < 100000 := by omega
  have b3 : many ≤ 100000 := by omega
  have b0 : (-100000 : Int) < many := by omega
  unfold M__law_due mDef m__law_due
  simp [mSeq, mSet, mBin, mAp, mCons, mNil, mVar, mC, Mo.gLst, R.bind, addW, mulW, b0, b1, b2, b3, r0, e, mRet, idxW, itemsL, a1]
theorem law_num : ((List.range 12).all fun m => (List.range 8).all fun s => (List.range (m + 2)).all fun p => ((List.range (m + 2)).all fun k => wI (m + 1) (s + 2) k p (k + 1) == (rowI (m + 1) (s + 2) p (m + 1)).getD k 0)) = true := by decide +kernel

theorem get_mid {α : Type} (S : List α) (x : α) (T : List α) : (S ++ x :: T)[S.length]? = some x := by simp
theorem set_mid' {α : Type} (S : List α) (x y : α) (T : List α) : (S ++ x :: T).set S.length y = S ++ y :: T := by simp
theorem fmod_lt {a m : Int} (h : 0 < m) : 0 ≤ a.fmod m ∧ a.fmod m < m := ⟨Int.fmod_nonneg_of_pos a h, Int.fmod_lt_of_pos a h⟩
theorem take (S T : Sto) (v m : Int) (b : Bool) (hm : 0 < m) (hm2 : m < 1000) : ∃ (d : Nat) (v' : Int), (d : Int) < m ∧ gCall 2 M__law_take [.ref S.length, .int m] (S ++ .lst [.int v, .bl b] :: T) = .ok (.int d) (S ++ .lst [.int v', .bl b] :: T) := by
  cases b with
  | true =>
    refine ⟨(v.fmod m).toNat, v.fdiv m, ?_, ?_⟩
    · obtain ⟨h1, h2⟩ := fmod_lt (a := v) hm
      omega
    · obtain ⟨h1, h2⟩ := fmod_lt (a := v) hm
      have e0 : ((v.fmod m).toNat : Int) = v.fmod m := Int.toNat_of_nonneg h1
      have c1 : ¬ m = 0 := by omega
      have c2 : m.natAbs < 1073741824 := by omega
      unfold gCall M__law_take mDef m__law_take
      simp [mSeq, mCond, mIsT, mBin, mVar, mC, R.bind, idxW, itemsL, L2.atI, L2.ixN, mSet, modW, c1, c2, mSetIx, fdivW, mRet, e0]
  | false =>
    have key : ∀ x : Int, ∃ d : Nat, (d : Int) < m ∧ (d : Int) = ((x.fdiv 8).fmod m) := fun x => by
      obtain ⟨h1, h2⟩ := fmod_lt (a := x.fdiv 8) hm
      exact ⟨((x.fdiv 8).fmod m).toNat, by omega, by omega⟩
    generalize hv1 : (v * 48271 + 29).fmod 2147483647 = v1
    generalize hs1 : (v1 * v1 + 39373 * v1 + 7).fmod 2147483629 = s1
    generalize hs2 : (s1 * s1 + 16807 * s1).fmod 2147483587 = s2
    obtain ⟨d, hd1, hd2⟩ := key s2
    have q1 := fmod_lt (a := v * 48271 + 29) (m := 2147483647) (by decide)
    rw [hv1] at q1
    have q2 := fmod_lt (a := v1 * v1 + 39373 * v1 + 7) (m := 2147483629) (by decide)
    rw [hs1] at q2
    have k1 : (small v || small 48271) = true := by simp [small]
    have k2 : small v1 = true := by simp [small]; omega
    have k3 : small s1 = true := by simp [small]; omega
    have k4 : small 48271 = true := by decide
    have k5 : small 39373 = true := by decide
    have k6 : small 16807 = true := by decide
    have c1 : ¬ m = 0 := by omega
    refine ⟨d, v1, hd1, ?_⟩
    unfold gCall M__law_take mDef m__law_take
    simp [mSeq, mCond, mIsT, mBin, mVar, mC, R.bind, idxW, itemsL, L2.atI, L2.ixN, mSet, modW, c1, mSetIx, fdivW, mRet, mSkip, mulW, addW, k2, k3, k4, k5, k6, hv1, hs1, hs2, hd2]

theorem cell_ {S : Sto} (ns : List Int) (k : Nat) (hn : ns.length < 100000) : ∃ c : Int, gPure 2 M__law_cell_at [.scr ns, .int k] S = .ok (.int c) S := by
  by_cases h : k < ns.length
  · refine ⟨ns[k], gPure_nr (S' := []) ?_ rfl rfl rfl⟩
    have e : L2.atI (List.map W.int ns) (k : Int) = some (.int ns[k]) := by
      unfold L2.atI L2.ixN
      simp [h]
    unfold M__law_cell_at mDef m__law_cell_at
    simp [mSeq, mCond, mIsT, mBin, mVar, mAp, mCons, mNil, R.bind, ltW, lenW, itemsL, h, mRet, idxW, e]
  · refine ⟨0, gPure_nr (S' := []) ?_ rfl rfl rfl⟩
    unfold M__law_cell_at mDef m__law_cell_at
    simp [mSeq, mCond, mIsT, mBin, mVar, mAp, mCons, mNil, R.bind, ltW, lenW, itemsL, h, mRet, mSkip, mC]
theorem state_ (ns : List Int) (k : Nat) (hn : ns.length < 100000) (S : Sto) : ∃ (v : Int) (b : Bool), gCall 2 M__law_state [.scr ns, .int k] S = .ok (.ref S.length) (S ++ [.lst [.int v, .bl b]]) := by
  obtain ⟨c, hc⟩ := cell_ (S := S) ns k hn
  have p : powW (.int 10) (.int 18) S = .ok (.int 1000000000000000000) S := rfl
  by_cases h : c ≥ 1000000000000000000
  · refine ⟨c - 1000000000000000000, true, ?_⟩
    unfold gCall M__law_state mDef m__law_state
    simp [mSeq, mSet, mAp, mCons, mVar, mNil, R.bind, hc, mCond, mIsT, mBin, geW, mC, p, h, mRet, subW, gNew]
  · refine ⟨c.fmod 2147483647, false, ?_⟩
    unfold gCall M__law_state mDef m__law_state
    simp [mSeq, mSet, mAp, mCons, mVar, mNil, R.bind, hc, mCond, mIsT, mBin, geW, mC, p, h, mRet, modW, gNew, mSkip]
theorem same_ (x : Int) : M__law_same [.int x, .int x] [] = .ok (.bl true) [] := by
  have e : eqW (.int x) (.int x) [] = .ok (.bl true) [] := by
    unfold eqW eqD dataS W.data
    simp [SeqAt.shaped, PyData.canLay0, PyData.depth, PyData.eqv]
  unfold M__law_same Mf__law_same mDef m__law_same
  simp [mSeq, mCond, mIsT, mAp, mCons, mNil, mVar, mTup, gTup', mC, R.bind, isiW, tyW, subT, mSkip, mRet, mAnd, mBin, e]
  rfl
theorem refused5 (ap : Ap) (g : W) (h1 : ap.ca g = true) (h2 : ap.run g [] [] = .err "NoNumber" []) : M__law_refused ap [g] [] = .ok (.lst [.int 5]) [] := by
  have e : mTryK ap 0 1 2 xcs [some g, some .non, none, none, none] [] = .ok (.nx [some g, some (.exc "NoNumber"), none, none, none]) [] := by
    unfold mTryK mCallL
    simp [h1, h2, mNil, R.bind]
    decide
  unfold M__law_refused mDef m__law_refused
  simp only [mSeq, mSet, mC, R.bind, List.map, List.replicate, List.append, List.set, List.length]
  show _ = _
  rw [show ([some g] ++ [none, none, none, none] : Env').set 1 (some .non) = [some g, some .non, none, none, none] from rfl, e]
  rfl

theorem refused3 (ap : Ap) (g : W) (h1 : ap.ca g = true) (h2 : ap.run g [] [] = .err "NoKind" []) : M__law_refused ap [g] [] = .ok (.lst [.int 3]) [] := by
  have e : mTryK ap 0 1 2 xcs [some g, some .non, none, none, none] [] = .ok (.nx [some g, some (.exc "NoKind"), none, none, none]) [] := by
    unfold mTryK mCallL
    simp [h1, h2, mNil, R.bind]
    decide
  unfold M__law_refused mDef m__law_refused
  simp only [mSeq, mSet, mC, R.bind, List.map, List.replicate, List.append, List.set, List.length]
  show _ = _
  rw [show ([some g] ++ [none, none, none, none] : Env').set 1 (some .non) = [some g, some .non, none, none, none] from rfl, e]
  rfl
theorem ww1 {bad : W} (x y z : W) (h : gPure 3 M_need_from [bad, .int 1, .int 12] [] = .err "NoNumber" []) : M_words_weight [bad, x, y, z] [] = .err "NoNumber" [] := by
  unfold M_words_weight mDef m_words_weight
  simp [mSeq, mDo, mAp, mCons, mVar, mNil, mC, R.bind, h]
theorem ww2 {a bad : W} (y z : W) (h0 : gPure 3 M_need_from [a, .int 1, .int 12] [] = .ok .non []) (h : gPure 3 M_need_from [bad, .int 2, .int 9] [] = .err "NoNumber" []) : M_words_weight [a, bad, y, z] [] = .err "NoNumber" [] := by
  unfold M_words_weight mDef m_words_weight
  simp [mSeq, mDo, mAp, mCons, mVar, mNil, mC, R.bind, h0, h]
theorem ww3 {a b bad : W} (z : W) (h0 : gPure 3 M_need_from [a, .int 1, .int 12] [] = .ok .non []) (h1 : gPure 3 M_need_from [b, .int 2, .int 9] [] = .ok .non []) (h : gPure 2 M_need_kind_to [a, bad] [] = .err "NoKind" []) : M_words_weight [a, b, bad, z] [] = .err "NoKind" [] := by
  unfold M_words_weight mDef m_words_weight
  simp [mSeq, mDo, mAp, mCons, mVar, mNil, mC, R.bind, h0, h1, h]
theorem ww4 {a b c bad : W} (h0 : gPure 3 M_need_from [a, .int 1, .int 12] [] = .ok .non []) (h1 : gPure 3 M_need_from [b, .int 2, .int 9] [] = .ok .non []) (h2 : gPure 2 M_need_kind_to [a, c] [] = .ok .non []) (h : gPure 2 M_need_kind_to [a, bad] [] = .err "NoKind" []) : M_words_weight [a, b, c, bad] [] = .err "NoKind" [] := by
  unfold M_words_weight mDef m_words_weight
  simp [mSeq, mDo, mAp, mCons, mVar, mNil, mC, R.bind, h0, h1, h2, h]
def badsW : List W := [.int 0, .int 13, .int (-1), .bl true, .non, .str "2", .tup [.int 2], .int (10 ^ 29)]
def nonesW (many : Int) : List W := [.int (many + 1), .int (-1), .bl true, .non, .str "0", .tup [.int 0]]
theorem bads_err : ∀ b ∈ badsW, gPure 3 M_need_from [b, .int 1, .int 12] [] = .err "NoNumber" [] ∧ b.nr = true ∧ b.nc = true := by
  unfold badsW
  simp only [List.mem_cons, List.not_mem_nil, or_false]
  rintro b (rfl | rfl | rfl | rfl | rfl | rfl | rfl | rfl) <;> exact ⟨by rfl, rfl, rfl⟩
theorem odds_err : ∀ b ∈ (.int 1 :: .int 10 :: badsW : List W), b ≠ .int 13 → gPure 3 M_need_from [b, .int 2, .int 9] [] = .err "NoNumber" [] ∧ b.nr = true ∧ b.nc = true := by
  unfold badsW
  simp only [List.mem_cons, List.not_mem_nil, or_false]
  rintro b (rfl | rfl | rfl | rfl | rfl | rfl | rfl | rfl | rfl | rfl) hb <;> first | exact absurd rfl hb | exact ⟨by rfl, rfl, rfl⟩
theorem nones_err (many : Nat) (h1 : 1 ≤ many) (h2 : many ≤ 12) : ∀ b ∈ nonesW many, gPure 2 M_need_kind_to [.int many, b] [] = .err "NoKind" [] ∧ b.nr = true ∧ b.nc = true := by
  have key : ∀ x : W, x.nr = true → (gPure 3 M_is_upto [x, .int 0, .int many] [] = .ok (.bl false) []) → gPure 2 M_need_kind_to [.int many, x] [] = .err "NoKind" [] := fun x hx e => by
    refine gPure_err (S' := []) ?_ rfl (by simp [nrs, hx, W.nr])
    unfold M_need_kind_to mDef m_need_kind_to
    simp [mCond, mNotT, mIsT, mAp, mCons, mVar, mNil, mC, R.bind, e, mRaise]
  have up : ∀ x : Int, ¬ (0 ≤ x ∧ x ≤ many) → gPure 3 M_is_upto [.int x, .int 0, .int many] [] = .ok (.bl false) [] := fun x hx => by
    refine gPure_nr (S' := []) ?_ rfl rfl rfl
    have e : gPure 1 M_is_whole [.int x] [] = .ok (.bl true) [] := gPure_nr (S' := []) rfl rfl rfl rfl
    unfold M_is_upto mDef m_is_upto
    by_cases h0 : 0 ≤ x
    · have h1 : ¬ x ≤ many := fun z => hx ⟨h0, z⟩
      simp [mRet, mAnd, mAp, mCons, mVar, mNil, R.bind, e, mChain, leW, h0, h1]
    · simp [mRet, mAnd, mAp, mCons, mVar, mNil, R.bind, e, mChain, leW, h0]
  have wh : ∀ x : W, x.nr = true → gPure 1 M_is_whole [x] [] = .ok (.bl false) [] → gPure 3 M_is_upto [x, .int 0, .int many] [] = .ok (.bl false) [] := fun x hx e => by
    refine gPure_nr (S' := []) ?_ rfl (by simp [nrs, hx, W.nr]) rfl
    unfold M_is_upto mDef m_is_upto
    simp [mRet, mAnd, mAp, mCons, mVar, mNil, R.bind, e]
  unfold nonesW
  simp only [List.mem_cons, List.not_mem_nil, or_false]
  rintro b (rfl | rfl | rfl | rfl | rfl | rfl)
  · exact ⟨key _ rfl (up _ (by omega)), rfl, rfl⟩
  · exact ⟨key _ rfl (up _ (by omega)), rfl, rfl⟩
  · exact ⟨key _ rfl (wh _ rfl (by rfl)), rfl, rfl⟩
  · exact ⟨key _ rfl (wh _ rfl (by rfl)), rfl, rfl⟩
  · exact ⟨key _ rfl (wh _ rfl (by rfl)), rfl, rfl⟩
  · exact ⟨key _ rfl (wh _ rfl (by rfl)), rfl, rfl⟩

abbrev ap5 : Ap := apM ms_law []
theorem cb {ρ : Env'} {k : Nat} {us : List W} {j : Int} {S : Sto} (h : cvt ms_law ρ (.clo k []) = some (.clo k us)) (hm : M__law_refused ap5 [.clo k us] [] = .ok (.lst [.int j]) []) : gCallC 1 (M__law_refused ap5) ms_law ρ [.clo k []] S = .ok (.lst [.int j]) S := by
  unfold gCallC
  simp [mapO, h, hm, fz, W.nr, nrs, W.nc, ncs]
theorem clo0 {bad no : W} (hb : bad ∈ badsW) (hn : no.nr = true) : M__law_refused ap5 [.clo 0 [bad, no]] [] = .ok (.lst [.int 5]) [] := by
  obtain ⟨h1, h2, h3⟩ := bads_err bad hb
  refine refused5 _ _ rfl ?_
  show gPure 4 M_words_weight [bad, bad, no, no] [] = _
  exact gPure_err (ww1 _ _ _ h1) rfl (by simp [nrs, h2, hn])
theorem clo1 {bad no : W} (s : Int) (hb : bad ∈ badsW) (hn : no.nr = true) : M__law_refused ap5 [.clo 1 [bad, .int s, no]] [] = .ok (.lst [.int 5]) [] := by
  obtain ⟨h1, h2, h3⟩ := bads_err bad hb
  refine refused5 _ _ rfl ?_
  show gPure 4 M_words_weight [bad, .int s, no, .int 0] [] = _
  exact gPure_err (ww1 _ _ _ h1) rfl (by simp [nrs, h2, hn, W.nr])
theorem nf1 {many : Nat} (h1 : 1 ≤ many) (h2 : many ≤ 12) : gPure 3 M_need_from [.int many, .int 1, .int 12] [] = .ok .non [] := gPure_nr (needf (by omega) (by omega)) rfl rfl rfl
theorem nf2 {signs : Nat} (h1 : 2 ≤ signs) (h2 : signs ≤ 9) : gPure 3 M_need_from [.int signs, .int 2, .int 9] [] = .ok .non [] := gPure_nr (needf (by omega) (by omega)) rfl rfl rfl
theorem clo2 {odd no : W} {many : Nat} (h1 : 1 ≤ many) (h2 : many ≤ 12) (ho : odd ∈ (.int 1 :: .int 10 :: badsW : List W)) (ho2 : odd ≠ .int 13) (hn : no.nr = true) : M__law_refused ap5 [.clo 2 [.int many, odd, no]] [] = .ok (.lst [.int 5]) [] := by
  obtain ⟨k1, k2, k3⟩ := odds_err odd ho ho2
  refine refused5 _ _ rfl ?_
  show gPure 4 M_words_weight [.int many, odd, .int 0, no] [] = _
  exact gPure_err (ww2 _ _ (nf1 h1 h2) k1) rfl (by simp [nrs, k2, hn, W.nr])
theorem clo3 {no : W} {many signs : Nat} (h1 : 1 ≤ many) (h2 : many ≤ 12) (h3 : 2 ≤ signs) (h4 : signs ≤ 9) (ho : no ∈ nonesW many) : M__law_refused ap5 [.clo 3 [.int many, .int signs, no]] [] = .ok (.lst [.int 3]) [] := by
  obtain ⟨k1, k2, k3⟩ := nones_err many h1 h2 no ho
  refine refused3 _ _ rfl ?_
  show gPure 4 M_words_weight [.int many, .int signs, no, .int 0] [] = _
  exact gPure_err (ww3 _ (nf1 h1 h2) (nf2 h3 h4) k1) rfl (by simp [nrs, k2, W.nr])
theorem clo4 {no : W} {many signs : Nat} (h1 : 1 ≤ many) (h2 : many ≤ 12) (h3 : 2 ≤ signs) (h4 : signs ≤ 9) (ho : no ∈ nonesW many) : M__law_refused ap5 [.clo 4 [.int many, .int signs, no]] [] = .ok (.lst [.int 3]) [] := by
  obtain ⟨k1, k2, k3⟩ := nones_err many h1 h2 no ho
  refine refused3 _ _ rfl ?_
  show gPure 4 M_words_weight [.int many, .int signs, .int 0, no] [] = _
  exact gPure_err (ww4 (nf1 h1 h2) (nf2 h3 h4) (gPure_nr (needk (by omega) (by omega)) rfl rfl rfl) k1) rfl (by simp [nrs, k2, W.nr])

abbrev St (v : Int) (b : Bool) : O := .lst [.int v, .bl b]
abbrev mInner : MS := mFor (mRng1 (mCons (mC (.int 6)) (mNil))) (tgN 5) (mSeq (mPar 6 7 (mCons (mAp (gCall 2 M__law_take) (mCons (mVar 2) (mCons (mBin addW (mVar 3) (mC (.int 1))) (mNil)))) (mCons (mAp (gCall 2 M__law_take) (mCons (mVar 2) (mCons (mBin addW (mVar 3) (mC (.int 1))) (mNil)))) (mNil)))) (mCond (mNotT (mIsT (mAp (gPure 2 M__law_same) (mCons (mAp (gPure 4 M_words_weight) (mCons (mVar 3) (mCons (mVar 4) (mCons (mVar 6) (mCons (mVar 7) (mNil)))))) (mCons (mAp (gPure 4 M__law_due) (mCons (mVar 3) (mCons (mVar 4) (mCons (mVar 6) (mCons (mVar 7) (mNil)))))) (mNil)))))) (mRet (mC (.bl false))) (mSkip)))
theorem num {d1 d2 d3 d4 : Nat} (h1 : d1 < 12) (h2 : d2 < 8) (h3 : d3 < d1 + 2) (h4 : d4 < d1 + 2) : wI (d1 + 1) (d2 + 2) d3 d4 (d3 + 1) = (rowI (d1 + 1) (d2 + 2) d4 (d1 + 1)).getD d3 0 := by
  have a := List.all_eq_true.mp (List.all_eq_true.mp (List.all_eq_true.mp (List.all_eq_true.mp law_num d1 (List.mem_range.mpr h1)) d2 (List.mem_range.mpr h2)) d4 (List.mem_range.mpr h4)) d3 (List.mem_range.mpr h3)
  exact beq_iff_eq.mp a
theorem inner (S : Sto) (v : Int) (b : Bool) (d1 d2 : Nat) (h1 : d1 < 12) (h2 : d2 < 8) (w0 w1 : Option W) (x5 x6 x7 x8 x9 x10 x11 x12 : Option W) :
    ∃ v' y5 y6 y7, mInner [w0, w1, some (.ref S.length), some (.int ((d1 + 1 : Nat) : Int)), some (.int ((d2 + 2 : Nat) : Int)), x5, x6, x7, x8, x9, x10, x11, x12] (S ++ [St v b]) =
      .ok (.nx [w0, w1, some (.ref S.length), some (.int ((d1 + 1 : Nat) : Int)), some (.int ((d2 + 2 : Nat) : Int)), y5, y6, y7, x8, x9, x10, x11, x12]) (S ++ [St v' b]) := by
  obtain ⟨ρ', S', e, v', y5, y6, y7, rfl, rfl⟩ := rng_inv (g := tgN 5) (body := mSeq (mPar 6 7 (mCons (mAp (gCall 2 M__law_take) (mCons (mVar 2) (mCons (mBin addW (mVar 3) (mC (.int 1))) (mNil)))) (mCons (mAp (gCall 2 M__law_take) (mCons (mVar 2) (mCons (mBin addW (mVar 3) (mC (.int 1))) (mNil)))) (mNil)))) (mCond (mNotT (mIsT (mAp (gPure 2 M__law_same) (mCons (mAp (gPure 4 M_words_weight) (mCons (mVar 3) (mCons (mVar 4) (mCons (mVar 6) (mCons (mVar 7) (mNil)))))) (mCons (mAp (gPure 4 M__law_due) (mCons (mVar 3) (mCons (mVar 4) (mCons (mVar 6) (mCons (mVar 7) (mNil)))))) (mNil)))))) (mRet (mC (.bl false))) (mSkip)))
    (r := mCons (mC (.int 6)) (mNil)) (ρ := [w0, w1, some (.ref S.length), some (.int ((d1 + 1 : Nat) : Int)), some (.int ((d2 + 2 : Nat) : Int)), x5, x6, x7, x8, x9, x10, x11, x12]) (S := S ++ [St v b]) (n := 6)
    (fun j ρ S' => ∃ v' y5 y6 y7, ρ = [w0, w1, some (.ref S.length), some (.int ((d1 + 1 : Nat) : Int)), some (.int ((d2 + 2 : Nat) : Int)), y5, y6, y7, x8, x9, x10, x11, x12] ∧ S' = S ++ [St v' b]) rfl (by omega) ⟨v, _, _, _, rfl, rfl⟩ (by
      rintro j _ _ hj ⟨v, y5, y6, y7, rfl, rfl⟩
      obtain ⟨d3, v1, hd3, t3⟩ := take S [] v (((d1 + 1 : Nat) : Int) + 1) b (by omega) (by omega)
      obtain ⟨d4, v2, hd4, t4⟩ := take S [] v1 (((d1 + 1 : Nat) : Int) + 1) b (by omega) (by omega)
      have k3 : d3 < d1 + 2 := by omega
      have k4 : d4 < d1 + 2 := by omega
      have a1 : ∀ T, gPure 4 M_words_weight [.int ((d1 + 1 : Nat) : Int), .int ((d2 + 2 : Nat) : Int), .int d3, .int d4] T = .ok (.int ((rowI (d1 + 1) (d2 + 2) d4 (d1 + 1)).getD d3 0)) T := fun T => by
        rw [← num h1 h2 k3 k4]
        exact gPure_nr (weight _ _ _ _ (by omega) (by omega) (by omega) (by omega) (by omega) (by omega)) rfl rfl rfl
      have a2 : ∀ T, gPure 4 M__law_due [.int ((d1 + 1 : Nat) : Int), .int ((d2 + 2 : Nat) : Int), .int d3, .int d4] T = .ok (.int ((rowI (d1 + 1) (d2 + 2) d4 (d1 + 1)).getD d3 0)) T := fun T => gPure_nr (due _ _ _ _ (by omega) (by omega) (by omega) (by omega) (by omega) (by omega)) rfl rfl rfl
      have a3 : ∀ x T, gPure 2 M__law_same [.int x, .int x] T = .ok (.bl true) T := fun x T => gPure_nr (same_ x) rfl rfl rfl
      generalize (rowI (d1 + 1) (d2 + 2) d4 (d1 + 1)).getD d3 0 = q at a1 a2
      generalize ((d1 + 1 : Nat) : Int) = many at *
      generalize ((d2 + 2 : Nat) : Int) = signs at *
      refine ⟨_, _, _, rfl, ?_, v2, some (.int j), some (.int d3), some (.int d4), rfl, rfl⟩
      simp [mSeq, mPar, mAp, mCons, mNil, mVar, mBin, mC, addW, R.bind, t3, t4, mCond, mNotT, mIsT, a1, a2, a3, mSkip])
  exact ⟨v', y5, y6, y7, e⟩

abbrev mCl : ME := mCallCB 1 (M__law_refused (apM ms_law [])) ms_law [12] (mCons (mVar 12) (mNil))
theorem lcA {ρ : Env'} {S : Sto} {n : Nat} {j : Int} (g0 g1 g2 : W) (h10 : ρ[10]? = some (some (.ref n))) (hS : S[n]? = some (.lst [g0, g1, g2])) (hb : beqs [g0, g1, g2] [g0, g1, g2] = true)
    (h : ∀ g ∈ [g0, g1, g2], mCl ((wipeW ρ [12]).set 12 (some g)) S = .ok (.lst [.int j]) S) : mLc (mItV (mVar 10)) [12] (tgN 12) (tYesM) mCl ρ S = .ok (.lst [.lst [.int j], .lst [.int j], .lst [.int j]]) S := by
  have st : (Its'.mk [g0, g1, g2] (some n)).stays S = true := by unfold Its'.stays; simp only [hS, hb]
  have e0 := h g0 (by simp)
  have e1 := h g1 (by simp)
  have e2 := h g2 (by simp)
  simp [mLc, mLcI, mItV, mVar, h10, R.bind, hS, lcGo, st, tgN, tYesM, e0, e1, e2, noErr]
theorem lcB {ρ : Env'} {S : Sto} {n : Nat} {j : Int} (g0 g1 : W) (h10 : ρ[10]? = some (some (.ref n))) (hS : S[n]? = some (.lst [g0, g1])) (hb : beqs [g0, g1] [g0, g1] = true)
    (h : ∀ g ∈ [g0, g1], mCl ((wipeW ρ [12]).set 12 (some g)) S = .ok (.lst [.int j]) S) : mLc (mItV (mVar 10)) [12] (tgN 12) (tYesM) mCl ρ S = .ok (.lst [.lst [.int j], .lst [.int j]]) S := by
  have st : (Its'.mk [g0, g1] (some n)).stays S = true := by unfold Its'.stays; simp only [hS, hb]
  have e0 := h g0 (by simp)
  have e1 := h g1 (by simp)
  simp [mLc, mLcI, mItV, mVar, h10, R.bind, hS, lcGo, st, tgN, tYesM, e0, e1, noErr]
theorem pick (ws : List W) (d : Nat) (h : d < ws.length) : ∃ w ∈ ws, ∀ S, idxW (.lst ws) (.int d) S = .ok w S := by
  refine ⟨ws[d], List.getElem_mem h, fun S => ?_⟩
  have e : L2.atI ws (d : Int) = some ws[d] := by rw [atI_nat h, List.getElem?_eq_getElem h]
  simp [idxW, itemsL, e]
theorem oddW {bad : W} (hb : bad ∈ badsW) : ∃ o, o ∈ (.int 10 :: badsW : List W) ∧ o ≠ .int 13 ∧ ∀ (ρ : Env') (S : Sto), ρ[8]? = some (some bad) → mIf (mIsT (mBin eqW (mVar 8) (mC (.int 13)))) (mC (.int 10)) (mVar 8) ρ S = .ok o S := by
  unfold badsW at hb
  simp only [List.mem_cons, List.not_mem_nil, or_false] at hb
  have key : ∀ (b : W) (k : Bool), (∀ S, eqW b (.int 13) S = .ok (.bl k) S) → ∀ (ρ : Env') (S : Sto), ρ[8]? = some (some b) → mIf (mIsT (mBin eqW (mVar 8) (mC (.int 13)))) (mC (.int 10)) (mVar 8) ρ S = .ok (if k then .int 10 else b) S := fun b k e ρ S h => by
    cases k <;> simp [mIf, mIsT, mBin, mVar, mC, R.bind, h, e]
  rcases hb with rfl | rfl | rfl | rfl | rfl | rfl | rfl | rfl
  · exact ⟨_, by simp [badsW], by simp, key _ false fun S => by first | rfl | kernel_rfl⟩
  · exact ⟨.int 10, by simp, by simp, key _ true fun S => by first | rfl | kernel_rfl⟩
  · exact ⟨_, by simp [badsW], by simp, key _ false fun S => by first | rfl | kernel_rfl⟩
  · exact ⟨_, by simp [badsW], by simp, key _ false fun S => by first | rfl | kernel_rfl⟩
  · exact ⟨_, by simp [badsW], by simp, key _ false fun S => by first | rfl | kernel_rfl⟩
  · exact ⟨_, by simp [badsW], by simp, key _ false fun S => by first | rfl | kernel_rfl⟩
  · exact ⟨_, by simp [badsW], by simp, key _ false fun S => by first | rfl | kernel_rfl⟩
  · exact ⟨_, by simp [badsW], by simp, key _ false fun S => by first | rfl | kernel_rfl⟩
abbrev mTurn : MS := mSeq (mSet 2 (mAp (gCall 2 M__law_state) (mCons (mVar 0) (mCons (mVar 1) (mNil))))) (mSeq (mAsg (tgT [3, 4]) (mTup (mCons (mBin addW (mC (.int 1)) (mAp (gCall 2 M__law_take) (mCons (mVar 2) (mCons (mC (.int 12)) (mNil))))) (mCons (mBin addW (mC (.int 2)) (mAp (gCall 2 M__law_take) (mCons (mVar 2) (mCons (mC (.int 8)) (mNil))))) (mNil))))) (mSeq mInner (mSeq (mSet 8 (mBin idxW (mLst (mCons (mC (.int 0)) (mCons (mC (.int 13)) (mCons (mUn negW (mC (.int 1))) (mCons (mC (.bl true)) (mCons (mC .non) (mCons (mC (.str "2")) (mCons (mTup (mCons (mC (.int 2)) (mNil))) (mCons (mBin powW (mC (.int 10)) (mC (.int 29))) (mNil)))))))))) (mAp (gCall 2 M__law_take) (mCons (mVar 2) (mCons (mC (.int 8)) (mNil)))))) (mSeq (mSet 9 (mBin idxW (mLst (mCons (mBin addW (mVar 3) (mC (.int 1))) (mCons (mUn negW (mC (.int 1))) (mCons (mC (.bl true)) (mCons (mC .non) (mCons (mC (.str "0")) (mCons (mTup (mCons (mC (.int 0)) (mNil))) (mNil)))))))) (mAp (gCall 2 M__law_take) (mCons (mVar 2) (mCons (mC (.int 6)) (mNil)))))) (mSeq (mSet 10 (mNew (mCons (mC (.clo 0 [])) (mNil)))) (mSeq (mDo (mMt appW (mVar 10) (mCons (mC (.clo 1 [])) (mNil)))) (mSeq (mSet 11 (mBin idxW (mLst (mCons (mC (.int 1)) (mCons (mIf (mIsT (mBin eqW (mVar 8) (mC (.int 13)))) (mC (.int 10)) (mVar 8)) (mNil)))) (mAp (gCall 2 M__law_take) (mCons (mVar 2) (mCons (mC (.int 2)) (mNil)))))) (mSeq (mDo (mMt appW (mVar 10) (mCons (mC (.clo 2 [])) (mNil)))) (mSeq (mCond (mIsT (mBin neW (mLc (mItV (mVar 10)) [12] (tgN 12) (tYesM) mCl) (mBin mulW (mLst (mCons (mLst (mCons (mC (.int 5)) (mNil))) (mNil))) (mC (.int 3))))) (mRet (mC (.bl false))) (mSkip)) (mSeq (mSet 10 (mNew (mCons (mC (.clo 3 [])) (mNil)))) (mSeq (mDo (mMt appW (mVar 10) (mCons (mC (.clo 4 [])) (mNil)))) (mCond (mIsT (mBin neW (mLc (mItV (mVar 10)) [12] (tgN 12) (tYesM) mCl) (mBin mulW (mLst (mCons (mLst (mCons (mC (.int 3)) (mNil))) (mNil))) (mC (.int 2))))) (mRet (mC (.bl false))) (mSkip)))))))))))))
theorem law_is : m_law = mSeq (mFor (mRng1 (mCons (mAp max2W (mCons (mC (.int 1)) (mCons (mAp min2W (mCons (mAp lenW (mCons (mVar 0) (mNil))) (mCons (mC (.int 6)) (mNil)))) (mNil)))) (mNil))) (tgN 1) mTurn) (mRet (mC (.bl true))) := rfl
theorem turn1 (ns : List Int) (k : Nat) (hn : ns.length < 100000) (S : Sto) (x2 x3 x4 x5 x6 x7 x8 x9 x10 x11 x12 : Option W) (rest : MS) (Q : R Fl → Prop)
    (h : ∀ (v : Int) (b : Bool) (d1 d2 : Nat) (y5 y6 y7 : Option W), d1 < 12 → d2 < 8 → Q (rest [some (.scr ns), some (.int k), some (.ref S.length), some (.int ((d1 + 1 : Nat) : Int)), some (.int ((d2 + 2 : Nat) : Int)), y5, y6, y7, x8, x9, x10, x11, x12] (S ++ [St v b]))) :
    Q (mSeq (mSet 2 (mAp (gCall 2 M__law_state) (mCons (mVar 0) (mCons (mVar 1) (mNil))))) (mSeq (mAsg (tgT [3, 4]) (mTup (mCons (mBin addW (mC (.int 1)) (mAp (gCall 2 M__law_take) (mCons (mVar 2) (mCons (mC (.int 12)) (mNil))))) (mCons (mBin addW (mC (.int 2)) (mAp (gCall 2 M__law_take) (mCons (mVar 2) (mCons (mC (.int 8)) (mNil))))) (mNil))))) (mSeq mInner rest)) [some (.scr ns), some (.int k), x2, x3, x4, x5, x6, x7, x8, x9, x10, x11, x12] S) := by
  obtain ⟨v, b, e0⟩ := state_ ns k hn S
  obtain ⟨d1, v1, hd1, t1⟩ := take S [] v 12 b (by decide) (by decide)
  obtain ⟨d2, v2, hd2, t2⟩ := take S [] v1 8 b (by decide) (by decide)
  have k1 : d1 < 12 := by omega
  have k2 : d2 < 8 := by omega
  obtain ⟨v', y5, y6, y7, e⟩ := inner S v2 b d1 d2 k1 k2 (some (.scr ns)) (some (.int k)) x5 x6 x7 x8 x9 x10 x11 x12
  have c1 : (1 : Int) + d1 = ((d1 + 1 : Nat) : Int) := by omega
  have c2 : (2 : Int) + d2 = ((d2 + 2 : Nat) : Int) := by omega
  have goal := h v' b d1 d2 y5 y6 y7 k1 k2
  have s1 : (mSeq (mSet 2 (mAp (gCall 2 M__law_state) (mCons (mVar 0) (mCons (mVar 1) (mNil))))) (mSeq (mAsg (tgT [3, 4]) (mTup (mCons (mBin addW (mC (.int 1)) (mAp (gCall 2 M__law_take) (mCons (mVar 2) (mCons (mC (.int 12)) (mNil))))) (mCons (mBin addW (mC (.int 2)) (mAp (gCall 2 M__law_take) (mCons (mVar 2) (mCons (mC (.int 8)) (mNil))))) (mNil))))) (mSeq mInner rest)) [some (.scr ns), some (.int k), x2, x3, x4, x5, x6, x7, x8, x9, x10, x11, x12] S) = mSeq mInner rest [some (.scr ns), some (.int k), some (.ref S.length), some (.int ((d1 + 1 : Nat) : Int)), some (.int ((d2 + 2 : Nat) : Int)), x5, x6, x7, x8, x9, x10, x11, x12] (S ++ [St v2 b]) := by
    generalize ((d1 + 1 : Nat) : Int) = many at *
    generalize ((d2 + 2 : Nat) : Int) = signs at *
    generalize mSeq mInner rest = R0
    simp [mSeq, mSet, mAp, mCons, mNil, mVar, mC, R.bind, e0, mAsg, mTup, gTup', mBin, addW, t1, t2, c1, c2, tgT, setAll]
  rw [s1]
  have s2 : mSeq mInner rest [some (.scr ns), some (.int k), some (.ref S.length), some (.int ((d1 + 1 : Nat) : Int)), some (.int ((d2 + 2 : Nat) : Int)), x5, x6, x7, x8, x9, x10, x11, x12] (S ++ [St v2 b]) = rest [some (.scr ns), some (.int k), some (.ref S.length), some (.int ((d1 + 1 : Nat) : Int)), some (.int ((d2 + 2 : Nat) : Int)), y5, y6, y7, x8, x9, x10, x11, x12] (S ++ [St v' b]) := by
    unfold mSeq
    rw [e]
    rfl
  rw [s2]
  exact goal

abbrev B8 : ME := mLst (mCons (mC (.int 0)) (mCons (mC (.int 13)) (mCons (mUn negW (mC (.int 1))) (mCons (mC (.bl true)) (mCons (mC .non) (mCons (mC (.str "2")) (mCons (mTup (mCons (mC (.int 2)) (mNil))) (mCons (mBin powW (mC (.int 10)) (mC (.int 29))) (mNil)))))))))
theorem mBin_ok {f : W → W → Sto → R W} {a c : ME} {ρ : Env'} {S S1 : Sto} {x : W} (h : a ρ S = .ok x S1) : mBin f a c ρ S = (c ρ S1).bind fun y S2 => f x y S2 := by
  unfold mBin
  rw [h]
  rfl
theorem b8 (ρ : Env') (S : Sto) : B8 ρ S = .ok (.lst badsW) S := by first | rfl | kernel_rfl
theorem turn2 (S : Sto) (v : Int) (b : Bool) (w0 w1 : Option W) (d1 d2 : Nat) (h1 : d1 < 12) (h2 : d2 < 8) (y5 y6 y7 x8 x9 x10 x11 x12 : Option W) (rest : MS) (Q : R Fl → Prop)
    (h : ∀ (v : Int) (bad no odd : W), bad ∈ badsW → no ∈ nonesW ((d1 + 1 : Nat) : Int) → odd ∈ (.int 1 :: .int 10 :: badsW : List W) → odd ≠ .int 13 →
      Q (rest [w0, w1, some (.ref S.length), some (.int ((d1 + 1 : Nat) : Int)), some (.int ((d2 + 2 : Nat) : Int)), y5, y6, y7, some bad, some no, some (.ref (S.length + 1)), some odd, x12] (S ++ [St v b, .lst [.clo 0 [], .clo 1 [], .clo 2 []]]))) :
    Q (mSeq (mSet 8 (mBin idxW B8 (mAp (gCall 2 M__law_take) (mCons (mVar 2) (mCons (mC (.int 8)) (mNil)))))) (mSeq (mSet 9 (mBin idxW (mLst (mCons (mBin addW (mVar 3) (mC (.int 1))) (mCons (mUn negW (mC (.int 1))) (mCons (mC (.bl true)) (mCons (mC .non) (mCons (mC (.str "0")) (mCons (mTup (mCons (mC (.int 0)) (mNil))) (mNil)))))))) (mAp (gCall 2 M__law_take) (mCons (mVar 2) (mCons (mC (.int 6)) (mNil)))))) (mSeq (mSet 10 (mNew (mCons (mC (.clo 0 [])) (mNil)))) (mSeq (mDo (mMt appW (mVar 10) (mCons (mC (.clo 1 [])) (mNil)))) (mSeq (mSet 11 (mBin idxW (mLst (mCons (mC (.int 1)) (mCons (mIf (mIsT (mBin eqW (mVar 8) (mC (.int 13)))) (mC (.int 10)) (mVar 8)) (mNil)))) (mAp (gCall 2 M__law_take) (mCons (mVar 2) (mCons (mC (.int 2)) (mNil)))))) (mSeq (mDo (mMt appW (mVar 10) (mCons (mC (.clo 2 [])) (mNil)))) rest)))))
      [w0, w1, some (.ref S.length), some (.int ((d1 + 1 : Nat) : Int)), some (.int ((d2 + 2 : Nat) : Int)), y5, y6, y7, x8, x9, x10, x11, x12] (S ++ [St v b])) := by
  obtain ⟨d5, v5, hd5, t5⟩ := take S [] v 8 b (by decide) (by decide)
  obtain ⟨bad, hb, eb⟩ := pick badsW d5 (by unfold badsW; simp; omega)
  obtain ⟨d6, v6, hd6, t6⟩ := take S [] v5 6 b (by decide) (by decide)
  obtain ⟨no, hno, en⟩ := pick (nonesW ((d1 + 1 : Nat) : Int)) d6 (by unfold nonesW; simp; omega)
  obtain ⟨d7, v7, hd7, t7⟩ := take S [.lst [.clo 0 [], .clo 1 []]] v6 2 b (by decide) (by decide)
  obtain ⟨o, ho1, ho2, ho3⟩ := oddW hb
  obtain ⟨od, hod, eo⟩ := pick [.int 1, o] d7 (by simp; omega)
  have hod' : od ∈ (.int 1 :: .int 10 :: badsW : List W) ∧ od ≠ .int 13 := by
    simp only [List.mem_cons, List.not_mem_nil, or_false] at hod
    rcases hod with rfl | rfl
    · exact ⟨by simp, by simp⟩
    · exact ⟨List.mem_cons_of_mem _ ho1, ho2⟩
  have goal := h v7 bad no od hb hno hod'.1 hod'.2
  have l9 : ∀ (ρ : Env') (T : Sto), ρ[3]? = some (some (.int ((d1 + 1 : Nat) : Int))) → mLst (mCons (mBin addW (mVar 3) (mC (.int 1))) (mCons (mUn negW (mC (.int 1))) (mCons (mC (.bl true)) (mCons (mC .non) (mCons (mC (.str "0")) (mCons (mTup (mCons (mC (.int 0)) (mNil))) (mNil))))))) ρ T = .ok (.lst (nonesW ((d1 + 1 : Nat) : Int))) T := fun ρ T h3 => by
    simp [mAp, mCons, mBin, mVar, h3, mC, R.bind, addW, mUn, negW, mNil, gTup', Mo.gLst, nonesW]
  generalize ((d1 + 1 : Nat) : Int) = many at *
  generalize ((d2 + 2 : Nat) : Int) = signs at *
  have hl : (S ++ [St v6 b]).length = S.length + 1 := by simp
  have g1 : ∀ (a c : O), (S ++ [a, c])[S.length + 1]? = some c := fun a c => by
    rw [List.getElem?_append_right (by omega)]; simp
  have p1 : ∀ (a c e : O), (S ++ [a, c]).set (S.length + 1) e = S ++ [a, e] := fun a c e => by
    rw [List.set_append_right _ _ (by omega)]; simp
  have s8 : ∀ R0 : MS, mSeq (mSet 8 (mBin idxW B8 (mAp (gCall 2 M__law_take) (mCons (mVar 2) (mCons (mC (.int 8)) (mNil)))))) R0 [w0, w1, some (.ref S.length), some (.int many), some (.int signs), y5, y6, y7, x8, x9, x10, x11, x12] (S ++ [St v b]) = R0 [w0, w1, some (.ref S.length), some (.int many), some (.int signs), y5, y6, y7, some bad, x9, x10, x11, x12] (S ++ [St v5 b]) := fun R0 => by
    simp [mSeq, mSet, mBin, b8, R.bind, mAp, mCons, mNil, mVar, mC, t5, eb]
  have s9 : ∀ R0 : MS, mSeq (mSet 9 (mBin idxW (mLst (mCons (mBin addW (mVar 3) (mC (.int 1))) (mCons (mUn negW (mC (.int 1))) (mCons (mC (.bl true)) (mCons (mC .non) (mCons (mC (.str "0")) (mCons (mTup (mCons (mC (.int 0)) (mNil))) (mNil)))))))) (mAp (gCall 2 M__law_take) (mCons (mVar 2) (mCons (mC (.int 6)) (mNil)))))) R0 [w0, w1, some (.ref S.length), some (.int many), some (.int signs), y5, y6, y7, some bad, x9, x10, x11, x12] (S ++ [St v5 b]) = R0 [w0, w1, some (.ref S.length), some (.int many), some (.int signs), y5, y6, y7, some bad, some no, x10, x11, x12] (S ++ [St v6 b]) := fun R0 => by
    have e := l9 [w0, w1, some (.ref S.length), some (.int many), some (.int signs), y5, y6, y7, some bad, x9, x10, x11, x12] (S ++ [St v5 b]) rfl
    have e2 := mBin_ok (f := idxW) (c := mAp (gCall 2 M__law_take) (mCons (mVar 2) (mCons (mC (.int 6)) (mNil)))) e
    unfold mSeq mSet
    rw [e2]
    simp [R.bind, mAp, mCons, mNil, mVar, mC, t6, en]
  have s10 : ∀ R0 : MS, mSeq (mSet 10 (mNew (mCons (mC (.clo 0 [])) (mNil)))) (mSeq (mDo (mMt appW (mVar 10) (mCons (mC (.clo 1 [])) (mNil)))) R0) [w0, w1, some (.ref S.length), some (.int many), some (.int signs), y5, y6, y7, some bad, some no, x10, x11, x12] (S ++ [St v6 b]) = R0 [w0, w1, some (.ref S.length), some (.int many), some (.int signs), y5, y6, y7, some bad, some no, some (.ref (S.length + 1)), x11, x12] (S ++ [St v6 b, .lst [.clo 0 [], .clo 1 []]]) := fun R0 => by
    simp [mSeq, mSet, mAp, mCons, mNil, mC, gNew, R.bind, mDo, mMt, mVar, itemsL, appW, g1, p1]
  have s11 : ∀ R0 : MS, mSeq (mSet 11 (mBin idxW (mLst (mCons (mC (.int 1)) (mCons (mIf (mIsT (mBin eqW (mVar 8) (mC (.int 13)))) (mC (.int 10)) (mVar 8)) (mNil)))) (mAp (gCall 2 M__law_take) (mCons (mVar 2) (mCons (mC (.int 2)) (mNil)))))) (mSeq (mDo (mMt appW (mVar 10) (mCons (mC (.clo 2 [])) (mNil)))) R0) [w0, w1, some (.ref S.length), some (.int many), some (.int signs), y5, y6, y7, some bad, some no, some (.ref (S.length + 1)), x11, x12] (S ++ [St v6 b, .lst [.clo 0 [], .clo 1 []]]) = R0 [w0, w1, some (.ref S.length), some (.int many), some (.int signs), y5, y6, y7, some bad, some no, some (.ref (S.length + 1)), some od, x12] (S ++ [St v7 b, .lst [.clo 0 [], .clo 1 [], .clo 2 []]]) := fun R0 => by
    have e := ho3 [w0, w1, some (.ref S.length), some (.int many), some (.int signs), y5, y6, y7, some bad, some no, some (.ref (S.length + 1)), x11, x12] (S ++ [St v6 b, .lst [.clo 0 [], .clo 1 []]]) rfl
    have e2 : mLst (mCons (mC (.int 1)) (mCons (mIf (mIsT (mBin eqW (mVar 8) (mC (.int 13)))) (mC (.int 10)) (mVar 8)) (mNil))) [w0, w1, some (.ref S.length), some (.int many), some (.int signs), y5, y6, y7, some bad, some no, some (.ref (S.length + 1)), x11, x12] (S ++ [St v6 b, .lst [.clo 0 [], .clo 1 []]]) = .ok (.lst [.int 1, o]) (S ++ [St v6 b, .lst [.clo 0 [], .clo 1 []]]) := by
      unfold mLst mAp mCons
      show R.bind (R.bind (R.ok _ _) _) _ = _
      rw [R.bind_ok]
      show R.bind (R.bind (R.bind _ _) _) _ = _
      rw [e]
      rfl
    have e3 : mBin idxW (mLst (mCons (mC (.int 1)) (mCons (mIf (mIsT (mBin eqW (mVar 8) (mC (.int 13)))) (mC (.int 10)) (mVar 8)) (mNil)))) (mAp (gCall 2 M__law_take) (mCons (mVar 2) (mCons (mC (.int 2)) (mNil)))) [w0, w1, some (.ref S.length), some (.int many), some (.int signs), y5, y6, y7, some bad, some no, some (.ref (S.length + 1)), x11, x12] (S ++ [St v6 b, .lst [.clo 0 [], .clo 1 []]]) = .ok od (S ++ [St v7 b, .lst [.clo 0 [], .clo 1 []]]) := by
      rw [mBin_ok e2]
      simp [R.bind, mAp, mCons, mNil, mVar, mC, t7, eo]
    simp [mSeq, mSet, e3, R.bind, mDo, mMt, mVar, itemsL, appW, g1, p1, mCons, mNil, mC]
  rw [s8, s9, s10, s11]
  exact goal

theorem mCl_at {ρ : Env'} {g : W} {S : Sto} {k : Nat} {us : List W} {j : Int} (hg : g = .clo k []) (h12 : ρ[12]? = some (some g)) (h : cvt ms_law (wipeW ρ [12]) (.clo k []) = some (.clo k us)) (hm : M__law_refused ap5 [.clo k us] [] = .ok (.lst [.int j]) []) : mCl ρ S = .ok (.lst [.int j]) S := by
  subst hg
  have e := cb (S := S) h hm
  show mCallCB 1 (M__law_refused (apM ms_law [])) ms_law [12] (mCons (mVar 12) (mNil)) ρ S = _
  unfold mCallCB
  simp only [mCons, mVar, h12, mNil, R.bind]
  exact e
theorem turn3 (S : Sto) (v : Int) (b : Bool) (w0 w1 : Option W) (d1 d2 : Nat) (h1 : d1 < 12) (h2 : d2 < 8) (y5 y6 y7 x12 : Option W) (bad no odd : W) (hb : bad ∈ badsW) (hn : no ∈ nonesW ((d1 + 1 : Nat) : Int)) (ho : odd ∈ (.int 1 :: .int 10 :: badsW : List W)) (ho2 : odd ≠ .int 13) :
    ∃ ρ S', (mSeq (mCond (mIsT (mBin neW (mLc (mItV (mVar 10)) [12] (tgN 12) (tYesM) mCl) (mBin mulW (mLst (mCons (mLst (mCons (mC (.int 5)) (mNil))) (mNil))) (mC (.int 3))))) (mRet (mC (.bl false))) (mSkip)) (mSeq (mSet 10 (mNew (mCons (mC (.clo 3 [])) (mNil)))) (mSeq (mDo (mMt appW (mVar 10) (mCons (mC (.clo 4 [])) (mNil)))) (mCond (mIsT (mBin neW (mLc (mItV (mVar 10)) [12] (tgN 12) (tYesM) mCl) (mBin mulW (mLst (mCons (mLst (mCons (mC (.int 3)) (mNil))) (mNil))) (mC (.int 2))))) (mRet (mC (.bl false))) (mSkip)))))
      [w0, w1, some (.ref S.length), some (.int ((d1 + 1 : Nat) : Int)), some (.int ((d2 + 2 : Nat) : Int)), y5, y6, y7, some bad, some no, some (.ref (S.length + 1)), some odd, x12] (S ++ [St v b, .lst [.clo 0 [], .clo 1 [], .clo 2 []]]) = .ok (.nx ρ) S' ∧ ρ.length = 13 ∧ ρ[0]? = some w0 := by
  obtain ⟨_, nb1, nb2⟩ := bads_err bad hb
  obtain ⟨_, nn1, nn2⟩ := nones_err (d1 + 1) (by omega) (by omega) no hn
  obtain ⟨_, no1, no2⟩ := odds_err odd ho ho2
  have g1 : ∀ (a c : O), (S ++ [a, c])[S.length + 1]? = some c := fun a c => by
    rw [List.getElem?_append_right (by omega)]; simp
  have g2 : ∀ (a c e : O), (S ++ [a, c, e])[S.length + 2]? = some e := fun a c e => by
    rw [List.getElem?_append_right (by omega)]; simp
  have p2 : ∀ (a c e f : O), (S ++ [a, c, e]).set (S.length + 2) f = S ++ [a, c, f] := fun a c e f => by
    rw [List.set_append_right _ _ (by omega)]; simp
  have k1 : 1 ≤ d1 + 1 := by omega
  have k2 : d1 + 1 ≤ 12 := by omega
  have k3 : 2 ≤ d2 + 2 := by omega
  have k4 : d2 + 2 ≤ 9 := by omega
  have c0 := clo0 hb nn1
  have c1 := clo1 ((d2 + 2 : Nat) : Int) hb nn1
  have c2 := clo2 k1 k2 ho ho2 nn1
  have c3 := clo3 k1 k2 k3 k4 hn
  have c4 := clo4 k1 k2 k3 k4 hn
  generalize ((d1 + 1 : Nat) : Int) = many at *
  generalize ((d2 + 2 : Nat) : Int) = signs at *
  have A := lcA (ρ := [w0, w1, some (.ref S.length), some (.int many), some (.int signs), y5, y6, y7, some bad, some no, some (.ref (S.length + 1)), some odd, x12]) (S := S ++ [St v b, .lst [.clo 0 [], .clo 1 [], .clo 2 []]]) (n := S.length + 1) (j := 5) (.clo 0 []) (.clo 1 []) (.clo 2 []) rfl (g1 _ _) (by rfl) (by
    intro g hg
    simp only [List.mem_cons, List.not_mem_nil, or_false] at hg
    rcases hg with rfl | rfl | rfl
    · exact mCl_at rfl rfl (by simp [cvt, ms_law, lm_law_0, capOf, wipeW, nb1, nb2, nn1, nn2]) c0
    · exact mCl_at rfl rfl (by simp [cvt, ms_law, lm_law_1, capOf, wipeW, nb1, nb2, nn1, nn2, W.nr, W.nc]) c1
    · exact mCl_at rfl rfl (by simp [cvt, ms_law, lm_law_2, capOf, wipeW, no1, no2, nn1, nn2, W.nr, W.nc]) c2)
  have B := lcB (ρ := [w0, w1, some (.ref S.length), some (.int many), some (.int signs), y5, y6, y7, some bad, some no, some (.ref (S.length + 2)), some odd, x12]) (S := S ++ [St v b, .lst [.clo 0 [], .clo 1 [], .clo 2 []], .lst [.clo 3 [], .clo 4 []]]) (n := S.length + 2) (j := 3) (.clo 3 []) (.clo 4 []) rfl (g2 _ _ _) (by rfl) (by
    intro g hg
    simp only [List.mem_cons, List.not_mem_nil, or_false] at hg
    rcases hg with rfl | rfl
    · exact mCl_at rfl rfl (by simp [cvt, ms_law, lm_law_3, capOf, wipeW, nn1, nn2, W.nr, W.nc]) c3
    · exact mCl_at rfl rfl (by simp [cvt, ms_law, lm_law_4, capOf, wipeW, nn1, nn2, W.nr, W.nc]) c4)
  have q1 : ∀ (ρ : Env') (T : Sto), (mBin mulW (mLst (mCons (mLst (mCons (mC (.int 5)) (mNil))) (mNil))) (mC (.int 3))) ρ T = .ok (.lst [.lst [.int 5], .lst [.int 5], .lst [.int 5]]) T := fun ρ T => by rfl
  have q2 : ∀ (ρ : Env') (T : Sto), (mBin mulW (mLst (mCons (mLst (mCons (mC (.int 3)) (mNil))) (mNil))) (mC (.int 2))) ρ T = .ok (.lst [.lst [.int 3], .lst [.int 3]]) T := fun ρ T => by rfl
  have n1 : ∀ T : Sto, neW (.lst [.lst [.int 5], .lst [.int 5], .lst [.int 5]]) (.lst [.lst [.int 5], .lst [.int 5], .lst [.int 5]]) T = .ok (.bl false) T := fun T => by first | rfl | kernel_rfl
  have n2 : ∀ T : Sto, neW (.lst [.lst [.int 3], .lst [.int 3]]) (.lst [.lst [.int 3], .lst [.int 3]]) T = .ok (.bl false) T := fun T => by first | rfl | kernel_rfl
  generalize hA : mLc (mItV (mVar 10)) [12] (tgN 12) (tYesM) mCl = LC at A B
  refine ⟨[w0, w1, some (.ref S.length), some (.int many), some (.int signs), y5, y6, y7, some bad, some no, some (.ref (S.length + 2)), some odd, x12], S ++ [St v b, .lst [.clo 0 [], .clo 1 [], .clo 2 []], .lst [.clo 3 [], .clo 4 []]], ?_, rfl, rfl⟩
  have z1 : mBin neW LC (mBin mulW (mLst (mCons (mLst (mCons (mC (.int 5)) (mNil))) (mNil))) (mC (.int 3))) [w0, w1, some (.ref S.length), some (.int many), some (.int signs), y5, y6, y7, some bad, some no, some (.ref (S.length + 1)), some odd, x12] (S ++ [St v b, .lst [.clo 0 [], .clo 1 [], .clo 2 []]]) = .ok (.bl false) (S ++ [St v b, .lst [.clo 0 [], .clo 1 [], .clo 2 []]]) := by
    rw [mBin_ok A, q1, R.bind_ok]
    exact n1 _
  have z2 : mBin neW LC (mBin mulW (mLst (mCons (mLst (mCons (mC (.int 3)) (mNil))) (mNil))) (mC (.int 2))) [w0, w1, some (.ref S.length), some (.int many), some (.int signs), y5, y6, y7, some bad, some no, some (.ref (S.length + 2)), some odd, x12] (S ++ [St v b, .lst [.clo 0 [], .clo 1 [], .clo 2 []], .lst [.clo 3 [], .clo 4 []]]) = .ok (.bl false) (S ++ [St v b, .lst [.clo 0 [], .clo 1 [], .clo 2 []], .lst [.clo 3 [], .clo 4 []]]) := by
    rw [mBin_ok B, q2, R.bind_ok]
    exact n2 _
  simp [mSeq, mCond, mIsT, z1, z2, R.bind, mSkip, mSet, mAp, mCons, mNil, mC, gNew, mDo, mMt, mVar, itemsL, appW, g2, p2]

theorem turn (ns : List Int) (j : Nat) (hn : ns.length < 100000) (S : Sto) (x2 x3 x4 x5 x6 x7 x8 x9 x10 x11 x12 : Option W) :
    ∃ ρ S', mTurn [some (.scr ns), some (.int j), x2, x3, x4, x5, x6, x7, x8, x9, x10, x11, x12] S = .ok (.nx ρ) S' ∧ ρ.length = 13 ∧ ρ[0]? = some (some (.scr ns)) :=
  turn1 ns j hn S x2 x3 x4 x5 x6 x7 x8 x9 x10 x11 x12 _ (fun r => ∃ ρ S', r = .ok (.nx ρ) S' ∧ ρ.length = 13 ∧ ρ[0]? = some (some (.scr ns))) fun v b d1 d2 y5 y6 y7 k1 k2 =>
    turn2 S v b _ _ d1 d2 k1 k2 y5 y6 y7 x8 x9 x10 x11 x12 _ (fun r => ∃ ρ S', r = .ok (.nx ρ) S' ∧ ρ.length = 13 ∧ ρ[0]? = some (some (.scr ns))) fun v bad no odd hb hno ho ho2 =>
      turn3 S v b _ _ d1 d2 k1 k2 y5 y6 y7 x12 bad no odd hb hno ho ho2
theorem plain (ns : List Int) (h : ns.length ≤ 63) : M_law [.scr ns] [] = .ok (.bl true) [] := by
  have hn : ns.length < 100000 := by omega
  have hr : ∃ n : Nat, n < 100000 ∧ (mCons (mAp max2W (mCons (mC (.int 1)) (mCons (mAp min2W (mCons (mAp lenW (mCons (mVar 0) (mNil))) (mCons (mC (.int 6)) (mNil)))) (mNil)))) (mNil)) [some (.scr ns), none, none, none, none, none, none, none, none, none, none, none, none] [] = .ok [.int n] [] := by
    have e : ∀ i j : Int, ∃ k : Int, (k = i ∨ k = j) ∧ min2W [.int i, .int j] [] = .ok (.int k) [] := fun i j => by
      unfold min2W
      dsimp only
      split <;> first | exact ⟨_, .inl rfl, rfl⟩ | exact ⟨_, .inr rfl, rfl⟩
    have e' : ∀ i j : Int, ∃ k : Int, (k = i ∨ k = j) ∧ max2W [.int i, .int j] [] = .ok (.int k) [] := fun i j => by
      unfold max2W
      dsimp only
      split <;> first | exact ⟨_, .inl rfl, rfl⟩ | exact ⟨_, .inr rfl, rfl⟩
    obtain ⟨k1, a1, b1⟩ := e (ns.length : Int) 6
    obtain ⟨k2, a2, b2⟩ := e' 1 k1
    refine ⟨k2.toNat, by omega, ?_⟩
    have c : ((k2.toNat : Nat) : Int) = k2 := by omega
    rw [c]
    simp [mCons, mAp, mC, mVar, mNil, R.bind, lenW, itemsL, b1, b2]
  obtain ⟨n, hn2, hr⟩ := hr
  obtain ⟨ρ', S', e, _⟩ := rng_inv (g := tgN 1) (body := mTurn) (fun _ ρ _ => ρ.length = 13 ∧ ρ[0]? = some (some (.scr ns))) hr hn2 ⟨rfl, rfl⟩ fun j ρ S hj hi => by
    obtain ⟨hl, h0⟩ := hi
    match ρ, hl, h0 with
    | [a0, a1, a2, a3, a4, a5, a6, a7, a8, a9, a10, a11, a12], _, h0 =>
      have e0 : a0 = some (.scr ns) := by simpa using h0
      subst e0
      obtain ⟨ρ2, S2, e2, l2, z2⟩ := turn ns j hn S a2 a3 a4 a5 a6 a7 a8 a9 a10 a11 a12
      exact ⟨_, ρ2, S2, rfl, e2, l2, z2⟩
  have d : mDef 13 m_law [.scr ns] [] = .ok (.bl true) S' := by
    unfold mDef
    rw [law_is]
    show R.bind (mSeq (mFor _ (tgN 1) mTurn) (mRet (mC (.bl true))) [some (.scr ns), none, none, none, none, none, none, none, none, none, none, none, none] []) _ = _
    unfold mSeq
    rw [e]
    rfl
  unfold M_law mkM
  dsimp only
  rw [if_pos (by rfl), d]
  dsimp only
  have f : fz S' 6 (.bl true) = some (.bl true) := rfl
  rw [f]
  rfl

end Law62
namespace Law62
open Mo PySem PySem.Spec L2
open PyProof.Rows hiding St
open LamX (CodeO TabS Tabs ExtN TabB)

theorem law_at {P : Program} {w : World} {K : PySem.W.Frag} {mg : Str → Option Value} {f : Addr} {h : Heap} (KX : K.In h) (G : h.Ns mainGlobals mg) (c : He.SaysX fa fn [] tf ex w h K) (hmg : mg "law" = some (.ref f)) (plain : ∀ ns : List Int, ns.length ≤ 63 → M_law [.scr ns] [] = .ok (.bl true) []) :
    ∃ (fd : FuncData) (cs : List (Addr × Addr)) (sp : Sp), (∀ p ∈ cs, h.get? p.2 = some { cls := .none, data := .fields #[] }) ∧ (∀ p ∈ cs, K.lookup p.2 = none) ∧ (∀ p ∈ cs, PySem.W.CodeHd h p.1 p.2) ∧ (∀ (s : Shared) (u : Value), BindsTo s fd ⟨[u], []⟩ [("_law_script", u)]) ∧
      (∀ (H : Hp) (a : Addr) (ns : List Int), ns.length ≤ 63 → (∀ z ∈ ns, Builtin.Int.intBits z ≤ 1048576) → (∀ p ∈ cs, H p.2 = some (.tbl #[])) → SqL K H a (ns.map V.int) → sp [.ref a] H (fun v _ => v = .bl true) fun _ _ _ => False) ∧
      ∀ base : Heap, K.In base → base.Ns mainGlobals mg → (∀ p ∈ cs, TabB base mg p.1 p.2) → FnOk P w K mg base (L2.CX P w) 20 f fd ["_law_script"] sp := by
  have fx := fx_of KX G c
  obtain ⟨fd, F⟩ := (fx.df 13 d_law rfl).ex
  have ef := (fx.df 13 d_law rfl).at_.symm.trans hmg
  cases ef
  refine ⟨fd, tf.map (He.cT K), spM (glo K mg (tabs K) "" [] [] fun _ _ => False) 1 M_law, fun p hp => ?_, fun p hp => ?_, fun p hp => ?_, fun s u => ?_, fun H a ns hl _ hH hS => law_sp (fun p hp => ?_) hS (plain ns hl), fun base hb1 hb2 TB => ?_⟩
  · obtain ⟨p', h1, rfl⟩ := List.mem_map.mp hp
    exact c.empty p' h1
  · obtain ⟨p', h1, rfl⟩ := List.mem_map.mp hp
    exact c.out p' h1
  · obtain ⟨p', h1, rfl⟩ := List.mem_map.mp hp
    exact PySem.W.codeHd_of_K KX (c.hd p' h1)
  · exact FunD.bindsA (ps := ["_law_script"]) F (fun _ _ _ _ _ _ us hl => match us, hl with | [_], _ => rfl) s [u] rfl
  · unfold tabs at hp
    refine LamX.TabS.nil ?_
    simp at hp; subst hp; exact hH _ (List.mem_map.mpr ⟨("law", none), by decide, rfl⟩)
  · have O := okl_law (P := P) (w := w) (base := base) (q := "") (lams := []) (cells := []) (cv := fun _ _ => False) fx (TB _ (List.mem_map.mpr ⟨("law", none), by decide, rfl⟩)) F
    exact ⟨O.len, fun A outer s H args us vs Q E hr => O.run A outer s H args us vs Q E (hr.mono (by decide))⟩
end Law62
open PySem PySem.W PySem.Calls PyProof.Rows
theorem PySem.Challenge.cw_nearkinds_k62_weights_of_words_by_rule_holds : PySem.Challenge.rw_nearkinds_k62_weights_of_words_by_rule.Holds := by
  w_on; o_law
  refine HandSHeadRun.head_any (r := OpenLaw.row PySem.Challenge.rw_nearkinds_k62_weights_of_words_by_rule) (q := view (OpenLaw.row PySem.Challenge.rw_nearkinds_k62_weights_of_words_by_rule).prog [38]) (H := Law62.hk) (ob := Law62.ob) (M := 15000) (loose := Law62.nms) (d := HandSHeadRun.topDef (OpenLaw.row PySem.Challenge.rw_nearkinds_k62_weights_of_words_by_rule).prog 38) (kwd := []) Law62.ob_eq
    (by kernel_rfl) (fun s => by kernel_rfl) Law62.run (by kernel_rfl) (by kernel_rfl) (by kernel_rfl) (by rfl) (by first | assumption | decide +kernel) (by decide +kernel) ⟨rfl, rfl, rfl, rfl, rfl, by decide +kernel⟩ ?hw ?hc
  case hw => w_witness2
  case hc =>
    refine LamX.walk_ofTsE (l := PySem.Challenge.rw_nearkinds_k62_weights_of_words_by_rule) (n := 63) (k := 20) (x := "_law_script") (CX := L2.CX (PySem.Challenge.rw_nearkinds_k62_weights_of_words_by_rule).prog) rfl (by decide) (by kernel_rfl) ⟨rfl, by decide, by decide⟩ ?F (fun _ _ _ _ _ z => Mo.hCX0 z)
    intro w mg fa h Y G hmg0
    obtain ⟨K, KX, c⟩ := Y
    have hmg : mg ("law" : PySem.Str) = some (.ref fa) := by
      have e : (HandSHeadRun.topDef (OpenLaw.row PySem.Challenge.rw_nearkinds_k62_weights_of_words_by_rule).prog 38).name = ("law" : PySem.Str) := by kernel_rfl
      rw [← e]
      exact hmg0
    exact ⟨K, KX, Law62.law_at KX G c hmg Law62.plain⟩
