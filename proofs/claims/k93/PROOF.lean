import PyProof.Rows.All
import Wide.All
import OpenK.AllK
import Wide.FinOn
import HandS.ForMost
import HandS.ForExc
import HandS.IsInst
import HandS.Defaults
import HandS.Zip
import HandS.TupMul
import HandS.TupLe
import HandS.TupAny
import HandS.Wide
import HandS.WordsDict
import HandS.Lambda
import HandS.Nested
import HandS.HeadHook4
import HandS.WordsExc
import HandS.Dict
import HandS.Small
import HandS.SetKeys
import HandS.Deep
import HandS.Conv
import HandS.Iter
import KE.GoesEnum
import KE.DataFind
import HandS.SortInts
import HandS.More
import HandS.ExcValue
import HandS.ExcOwn
import HandS.ExcIs
import HandS.EndTab
import KE.DataMinMax
import HandS.SetFor
import HandS.Strs
import HandS.Style
import KE.KIndexOf
import HandS.NamedTupSort
import HandS.TryOnly
import HandS.StrMore
import KE.SortData
import KE.DatumIndex
import KE.GoesRaise
import KE.KStateDown
import KE.KNestM
import HandS.Head0
import HandS.Head1
import HandS.Head2
import HandS.HeadEnd
import HandS.HeadHook1
import HandS.HeadHook2
import HandS.HeadHook3
import HandS.HeadWalk
import HandS.Words
import PySem.Challenge.RW_nearkinds_k93_lines_that_are_none
set_option Elab.async false
set_option linter.all false
set_option maxRecDepth 100000
set_option autoImplicit false
/-! Mon1: own values, own store, the relation to the abstract heap, the monadic readings. -/
namespace Mo
open PySem PySem.Spec L2
open PyProof.Rows hiding St

inductive W where
  | non | bl (b : Bool) | int (i : Int) | str (x : Str) | ty (n : String) | tup (ws : List W) | lst (ws : List W) | ref (n : Nat) | glob (x : Str) | exc (c : Str) | clo (k : Nat) (cap : List W) | scr (ns : List Int) | ed | itm (ws : List W)
inductive O where
  | lst (ws : List W) | dict (kvs : List (Key × W)) | ins (c : Str) (fs : List (Str × W)) | gone
abbrev Sto := List O
inductive R (α : Type) where
  | ok (a : α) (S : Sto) | err (c : Str) (S : Sto) | stuck
def R.bind {α β : Type} (r : R α) (k : α → Sto → R β) : R β := match r with
  | .ok a S => k a S
  | .err c S => .err c S
  | .stuck => .stuck

theorem R.bind_ok {α β : Type} (a : α) (S : Sto) (k : α → Sto → R β) : (R.ok a S).bind k = k a S := rfl
theorem R.bind_err {α β : Type} (c : Str) (S : Sto) (k : α → Sto → R β) : (R.err c S).bind k = .err c S := rfl
theorem R.bind_stuck {α β : Type} (k : α → Sto → R β) : (R.stuck).bind k = .stuck := rfl
theorem R.bind_bind {α β γ : Type} (r : R α) (k : α → Sto → R β) (q : β → Sto → R γ) : (r.bind k).bind q = r.bind fun a S => (k a S).bind q := by
  cases r <;> rfl
def isMut : HO → Bool
  | .lst _ => true
  | .dK _ => true
  | .dT _ => true
  | .set _ _ => true
  | .ins _ _ _ => true
  | .tbl _ => true
  | _ => false
def isTbl : HO → Bool
  | .tbl _ => true
  | _ => false

/-- what stands still of the whole: the written part, the module's names, the closures -/
structure Glo where
  K : PySem.W.Frag
  mg : Str → Option Value
  ct : Nat → Addr → Hp → Prop
  ctk : ∀ k a H H', (∀ b o, H b = some o → isMut o = false → H' b = some o) → ct k a H → ct k a H'
  cv : Nat → List V → Prop
  inv : Hp → Prop
  invk : ∀ H H', (∀ b o, H b = some o → (isMut o = false ∨ isTbl o = true) → H' b = some o) → inv H → inv H'
  ex : Str → Addr → Hp → Prop
  exk : ∀ k a H H', (∀ b o, H b = some o → isMut o = false → H' b = some o) → ex k a H → ex k a H'

/-- a tuple that is known whole: without names of its own -/
structure XT (H : Hp) (a : Addr) (vs : List V) : Prop where
  ex : ∃ o : Obj, o.dict = none ∧ H a = some (.frz o (.tup vs))
theorem XT.rd {H : Hp} {a : Addr} {vs : List V} (h : XT H a vs) : Rd H a (.tup vs) := let ⟨o, _, e⟩ := h.ex; .inr ⟨o, e⟩
theorem XT.sq {H : Hp} {a : Addr} {vs : List V} {K : PySem.W.Frag} (h : XT H a vs) : SqT K H a vs := .inl h.rd
theorem XT.ho {H : Hp} {a : Addr} {vs : List V} (h : XT H a vs) : ∃ ho, H a = some ho ∧ isMut ho = false := let ⟨_, _, e⟩ := h.ex; ⟨_, e, rfl⟩
theorem XT.keep {H H' : Hp} {a : Addr} {vs : List V} (h : XT H a vs) (k : ∀ ho, H a = some ho → isMut ho = false → H' a = some ho) : XT H' a vs := let ⟨o, d, e⟩ := h.ex; ⟨o, d, k _ e rfl⟩
theorem XT.inj {H : Hp} {a : Addr} {vs us : List V} (h : XT H a vs) (k : XT H a us) : vs = us := by
  obtain ⟨_, _, e⟩ := h.ex
  obtain ⟨_, _, f⟩ := k.ex
  rw [e] at f
  cases f
  rfl
theorem XT.new {H : Hp} {a : Addr} {vs : List V} {o : Obj} (d : o.dict = none) : XT (upd H a (.frz o (.tup vs))) a vs := ⟨o, d, upd_same⟩
mutual
def VR (G : Glo) (Z : Addr → Prop) (μ : List Addr) (H : Hp) : W → V → Prop
  | .non, v => v = .non
  | .bl b, v => v = .bl b
  | .int i, v => v = .int i
  | .str x, v => v = .str x
  | .ty n, v => v = .ty n
  | .tup ws, v => ∃ a vs, v = .ref a ∧ XT H a vs ∧ VRs G Z μ H ws vs
  | .itm ws, v => ∃ a vs, v = .ref a ∧ H a = some (.tup vs) ∧ VRs G Z μ H ws vs
  | .lst ws, v => ∃ a vs, v = .ref a ∧ H a = some (.lst vs) ∧ ¬ Z a ∧ VRs G Z μ H ws vs
  | .scr ns, v => ∃ a, v = .ref a ∧ ((Rd H a (.lst (ns.map V.int)) ∧ ¬ Z a) ∨ ∀ H' : Hp, SqL G.K H' a (ns.map V.int))
  | .ref n, v => ∃ a, μ[n]? = some a ∧ v = .ref a
  | .ed, v => ∃ a, v = .ref a ∧ H a = some (.dK []) ∧ ¬ Z a
  | .glob x, v => ∃ a, G.mg x = some (.ref a) ∧ v = .ref a
  | .exc c, v => ∃ a, v = .ref a ∧ G.ex c a H
  | .clo k cap, v => ∃ a vs, v = .ref a ∧ G.ct k a H ∧ G.cv k vs ∧ VRs G Z μ H cap vs
def VRs (G : Glo) (Z : Addr → Prop) (μ : List Addr) (H : Hp) : List W → List V → Prop
  | [], vs => vs = []
  | w :: ws, vs => ∃ v r, vs = v :: r ∧ VR G Z μ H w v ∧ VRs G Z μ H ws r
end
def KVR (G : Glo) (Z : Addr → Prop) (μ : List Addr) (H : Hp) : List (Key × W) → List (Key × V) → Prop
  | [], es => es = []
  | (k, w) :: kvs, es => ∃ v r, es = (k, v) :: r ∧ VR G Z μ H w v ∧ KVR G Z μ H kvs r
def OR (G : Glo) (Z : Addr → Prop) (μ : List Addr) (H : Hp) (a : Addr) : O → Prop
  | .lst ws => ∃ vs, H a = some (.lst vs) ∧ VRs G Z μ H ws vs
  | .dict kvs => ∃ es, H a = some (.dK es) ∧ KVR G Z μ H kvs es
  | .ins c fs => ∃ C dx es, G.mg c = some (.ref C) ∧ es.map Prod.fst = fs.map Prod.fst ∧ H a = some (.ins C dx es) ∧ VRs G Z μ H (fs.map Prod.snd) (es.map Prod.snd)
  | .gone => True

structure Rel (G : Glo) (Z : Addr → Prop) (μ : List Addr) (H : Hp) (S : Sto) : Prop where
  len : μ.length = S.length
  nd : μ.Nodup
  mz : ∀ a ∈ μ, Z a
  zm : ∀ a, Z a → ∃ o, H a = some o ∧ isMut o = true ∧ isTbl o = false
  inv : G.inv H
  ob : ∀ (n : Nat) (a : Addr) (o : O), μ[n]? = some a → S[n]? = some o → OR G Z μ H a o
structure Grow (Z : Addr → Prop) (μ : List Addr) (H : Hp) (Z' : Addr → Prop) (μ' : List Addr) (H' : Hp) : Prop where
  mu : ∃ e, μ' = μ ++ e ∧ ∀ a ∈ e, H a = none
  zz : ∀ a, Z' a → Z a ∨ H a = none
  zk : ∀ a, Z a → Z' a
  keep : ∀ a o, H a = some o → a ∉ μ → isTbl o = false → H' a = some o
  th : ∀ a o, H a = some o → ∃ u, H' a = some u

section
variable {G : Glo} {Z Z' Z1 Z2 : Addr → Prop} {μ μ' μ1 μ2 : List Addr} {H H' H1 H2 : Hp} {S S' S1 : Sto}
theorem Grow.refl : Grow Z μ H Z μ H := ⟨⟨[], by simp, fun a h => by simp at h⟩, fun _ h => .inl h, fun _ h => h, fun _ _ h _ _ => h, fun _ o h => ⟨o, h⟩⟩
theorem Rel.nomem (r : Rel G Z μ H S) {a : Addr} {o : HO} (h : H a = some o) (hm : isMut o = false) : a ∉ μ := fun hmem => by
  obtain ⟨u, h1, h2, _⟩ := r.zm a (r.mz a hmem)
  rw [h] at h1; cases h1; rw [hm] at h2; cases h2
theorem Grow.still (g : Grow Z μ H Z' μ' H') (r : Rel G Z μ H S) : ∀ b o, H b = some o → isMut o = false → H' b = some o := fun b o h hm => g.keep b o h (r.nomem h hm) (by cases o <;> first | rfl | cases hm)
theorem Grow.trans (r1 : Rel G Z1 μ1 H1 S1) (g1 : Grow Z μ H Z1 μ1 H1) (g2 : Grow Z1 μ1 H1 Z2 μ2 H2) : Grow Z μ H Z2 μ2 H2 := by
  obtain ⟨e1, rfl, f1⟩ := g1.mu
  obtain ⟨e2, rfl, f2⟩ := g2.mu
  have back : ∀ a, H1 a = none → H a = none := fun a h => by
    cases q : H a with
    | none => rfl
    | some o =>
      obtain ⟨u, hu⟩ := g1.th a o q
      rw [h] at hu; cases hu
  refine ⟨⟨e1 ++ e2, by simp, fun a h => ?_⟩, fun a h => ?_, fun a h => g2.zk a (g1.zk a h), fun a o h hm ht => ?_, fun a o h => let ⟨u, hu⟩ := g1.th a o h; g2.th a u hu⟩
  · rcases List.mem_append.mp h with h | h
    · exact f1 a h
    · exact back a (f2 a h)
  · rcases g2.zz a h with h | h
    · exact g1.zz a h
    · exact .inr (back a h)
  · refine g2.keep a o (g1.keep a o h hm ht) (fun z => ?_) ht
    rcases List.mem_append.mp z with z | z
    · exact hm z
    · rw [f1 a z] at h; cases h
theorem Grow.get (g : Grow Z μ H Z' μ' H') {n : Nat} {a : Addr} (h : μ[n]? = some a) : μ'[n]? = some a := by
  obtain ⟨e, rfl, _⟩ := g.mu
  rw [List.getElem?_append_left (List.getElem?_eq_some_iff.mp h).1]; exact h
theorem Grow.notZ (g : Grow Z μ H Z' μ' H') {a : Addr} {o : HO} (h : H a = some o) (hz : ¬ Z a) : ¬ Z' a := fun z => by
  rcases g.zz a z with z | z
  · exact hz z
  · rw [h] at z; cases z
theorem Grow.rd (g : Grow Z μ H Z' μ' H') (r : Rel G Z μ H S) {a : Addr} {u : HO} (hz : ¬ Z a) (h : Rd H a u) (ht : isTbl u = false := by rfl) : Rd H' a u := by
  rcases h with h | ⟨o, h⟩
  · exact .inl (g.keep a _ h (fun z => hz (r.mz a z)) ht)
  · exact .inr ⟨o, g.keep a _ h (fun z => hz (r.mz a z)) rfl⟩
mutual
theorem VR.mono (r : Rel G Z μ H S) (g : Grow Z μ H Z' μ' H') : ∀ {w : W} {v : V}, VR G Z μ H w v → VR G Z' μ' H' w v
  | .non, _, h => h
  | .bl _, _, h => h
  | .int _, _, h => h
  | .str _, _, h => h
  | .ty _, _, h => h
  | .tup ws, v, h => by
    unfold VR at h ⊢
    obtain ⟨a, vs, e, ha, hs⟩ := h
    exact ⟨a, vs, e, ha.keep fun ho h1 h2 => g.still r a ho h1 h2, VRs.mono r g hs⟩
  | .itm ws, v, h => by
    unfold VR at h ⊢
    obtain ⟨a, vs, e, ha, hs⟩ := h
    exact ⟨a, vs, e, g.still r a _ ha rfl, VRs.mono r g hs⟩
  | .lst ws, v, h => by
    unfold VR at h ⊢
    obtain ⟨a, vs, e, ha, hz, hs⟩ := h
    exact ⟨a, vs, e, g.keep a _ ha (fun z => hz (r.mz a z)) rfl, g.notZ ha hz, VRs.mono r g hs⟩
  | .ed, v, h => by
    unfold VR at h ⊢
    obtain ⟨a, e, ha, hz⟩ := h
    exact ⟨a, e, g.keep a _ ha (fun z => hz (r.mz a z)) rfl, g.notZ ha hz⟩
  | .scr ns, v, h => by
    unfold VR at h ⊢
    obtain ⟨a, e, h⟩ := h
    refine ⟨a, e, ?_⟩
    rcases h with ⟨h, hz⟩ | h
    · exact .inl ⟨g.rd r hz h, by
        rcases h with h | ⟨o, h⟩
        · exact g.notZ h hz
        · exact g.notZ h hz⟩
    · exact .inr h
  | .ref n, v, h => by
    unfold VR at h ⊢
    obtain ⟨a, h1, h2⟩ := h
    exact ⟨a, g.get h1, h2⟩
  | .glob _, _, h => by unfold VR at h ⊢; exact h
  | .exc c, v, h => by
    unfold VR at h ⊢
    obtain ⟨a, h1, h2⟩ := h
    exact ⟨a, h1, G.exk _ _ _ _ (g.still r) h2⟩
  | .clo k cap, v, h => by
    unfold VR at h ⊢
    obtain ⟨a, vs, h1, h2, h3, h4⟩ := h
    exact ⟨a, vs, h1, G.ctk _ _ _ _ (g.still r) h2, h3, VRs.mono r g h4⟩
theorem VRs.mono (r : Rel G Z μ H S) (g : Grow Z μ H Z' μ' H') : ∀ {ws : List W} {vs : List V}, VRs G Z μ H ws vs → VRs G Z' μ' H' ws vs
  | [], _, h => by unfold VRs at h ⊢; exact h
  | w :: ws, vs, h => by
    unfold VRs at h ⊢
    obtain ⟨v, q, e, h1, h2⟩ := h
    exact ⟨v, q, e, VR.mono r g h1, VRs.mono r g h2⟩
end
theorem KVR.mono (r : Rel G Z μ H S) (g : Grow Z μ H Z' μ' H') : ∀ {kvs : List (Key × W)} {es : List (Key × V)}, KVR G Z μ H kvs es → KVR G Z' μ' H' kvs es
  | [], _, h => by unfold KVR at h ⊢; exact h
  | (k, w) :: kvs, es, h => by
    unfold KVR at h ⊢
    obtain ⟨v, q, e, h1, h2⟩ := h
    exact ⟨v, q, e, VR.mono r g h1, KVR.mono r g h2⟩
theorem VRs.length : ∀ {ws : List W} {vs : List V}, VRs G Z μ H ws vs → vs.length = ws.length
  | [], vs, h => by unfold VRs at h; subst h; rfl
  | w :: ws, vs, h => by
    unfold VRs at h
    obtain ⟨v, q, rfl, _, h2⟩ := h
    simp [VRs.length h2]
theorem VRs.get : ∀ {ws : List W} {vs : List V} {i : Nat} {w : W}, VRs G Z μ H ws vs → ws[i]? = some w → ∃ v, vs[i]? = some v ∧ VR G Z μ H w v
  | [], _, _, _, _, e => by simp at e
  | w :: ws, vs, i, u, h, e => by
    unfold VRs at h
    obtain ⟨v, q, rfl, h1, h2⟩ := h
    cases i with
    | zero => simp at e; subst e; exact ⟨v, rfl, h1⟩
    | succ i => simpa using VRs.get h2 (by simpa using e)
theorem VRs.append : ∀ {ws us : List W} {vs xs : List V}, VRs G Z μ H ws vs → VRs G Z μ H us xs → VRs G Z μ H (ws ++ us) (vs ++ xs)
  | [], _, _, _, h, k => by unfold VRs at h; subst h; exact k
  | w :: ws, us, vs, xs, h, k => by
    unfold VRs at h
    obtain ⟨v, q, rfl, h1, h2⟩ := h
    show VRs G Z μ H (w :: (ws ++ us)) (v :: (q ++ xs))
    unfold VRs
    exact ⟨v, _, rfl, h1, VRs.append h2 k⟩
theorem VRs.nil : VRs G Z μ H [] [] := by unfold VRs; rfl
theorem VRs.cons {w : W} {v : V} {ws : List W} {vs : List V} (h : VR G Z μ H w v) (k : VRs G Z μ H ws vs) : VRs G Z μ H (w :: ws) (v :: vs) := by
  unfold VRs; exact ⟨v, vs, rfl, h, k⟩
theorem VRs.drop : ∀ {ws : List W} {vs : List V} (n : Nat), VRs G Z μ H ws vs → VRs G Z μ H (ws.drop n) (vs.drop n)
  | _, _, 0, h => h
  | [], vs, n + 1, h => by unfold VRs at h; subst h; exact VRs.nil
  | w :: ws, vs, n + 1, h => by
    unfold VRs at h
    obtain ⟨v, q, rfl, _, h2⟩ := h
    exact VRs.drop n h2
theorem VRs.take : ∀ {ws : List W} {vs : List V} (n : Nat), VRs G Z μ H ws vs → VRs G Z μ H (ws.take n) (vs.take n)
  | _, _, 0, _ => by simpa using VRs.nil
  | [], vs, n + 1, h => by unfold VRs at h; subst h; exact VRs.nil
  | w :: ws, vs, n + 1, h => by
    unfold VRs at h
    obtain ⟨v, q, rfl, h1, h2⟩ := h
    exact VRs.cons h1 (VRs.take n h2)
theorem VRs.set {w : W} {v : V} (hw : VR G Z μ H w v) : ∀ {ws : List W} {vs : List V} (n : Nat), VRs G Z μ H ws vs → VRs G Z μ H (ws.set n w) (vs.set n v)
  | [], vs, n, h => by unfold VRs at h; subst h; exact VRs.nil
  | u :: ws, vs, 0, h => by
    unfold VRs at h
    obtain ⟨x, q, rfl, h1, h2⟩ := h
    exact VRs.cons hw h2
  | u :: ws, vs, n + 1, h => by
    unfold VRs at h
    obtain ⟨x, q, rfl, h1, h2⟩ := h
    exact VRs.cons h1 (VRs.set hw n h2)

/-- the wish behind a run -/
def Aft {α : Type} (G : Glo) (E : XK) (Z : Addr → Prop) (μ : List Addr) (H : Hp) (r : R α) (P : α → (Addr → Prop) → List Addr → Hp → Sto → Prop) : Prop := match r with
  | .ok x S' => ∀ Z' μ' H', Grow Z μ H Z' μ' H' → Rel G Z' μ' H' S' → P x Z' μ' H' S'
  | .err c S' => ∀ Z' μ' H', Grow Z μ H Z' μ' H' → Rel G Z' μ' H' S' → ∃ a, G.mg c = some (.ref a) ∧ E (.ref a) none H'
  | .stuck => False
variable {α β : Type} {E : XK} {r : R α} {P P' : α → (Addr → Prop) → List Addr → Hp → Sto → Prop} {k : α → Sto → R β} {Pb : β → (Addr → Prop) → List Addr → Hp → Sto → Prop}
theorem Aft.mono (r1 : Rel G Z1 μ1 H1 S1) (g : Grow Z μ H Z1 μ1 H1) (h : Aft G E Z μ H r P) : Aft G E Z1 μ1 H1 r P := by
  cases r with
  | ok x S' => exact fun Z' μ' H' g' r' => h Z' μ' H' (Grow.trans r1 g g') r'
  | err c S' => exact fun Z' μ' H' g' r' => h Z' μ' H' (Grow.trans r1 g g') r'
  | stuck => exact h
theorem Aft.bind (h : Aft G E Z μ H (r.bind k) Pb) : Aft G E Z μ H r (fun x Z1 μ1 H1 S1 => Aft G E Z1 μ1 H1 (k x S1) Pb) := by
  cases r with
  | ok x S' =>
    have h' : Aft G E Z μ H (k x S') Pb := h
    exact fun Z' μ' H' g' r' => Aft.mono r' g' h'
  | err c S' => exact h
  | stuck => exact h
theorem Aft.imp (h : Aft G E Z μ H r P) (q : ∀ x Z' μ' H' S', r = .ok x S' → Grow Z μ H Z' μ' H' → Rel G Z' μ' H' S' → P x Z' μ' H' S' → P' x Z' μ' H' S') : Aft G E Z μ H r P' := by
  cases r with
  | ok x S' => exact fun Z' μ' H' g' r' => q _ _ _ _ _ rfl g' r' (h Z' μ' H' g' r')
  | err c S' => exact h
  | stuck => exact h
theorem Aft.here {x : α} (r1 : Rel G Z μ H S) (h : Aft G E Z μ H (.ok x S) P) : P x Z μ H S := h Z μ H Grow.refl r1
end

/-! ### readings -/
abbrev Env' := List (Option W)
abbrev ME := Env' → Sto → R W
abbrev MT := Env' → Sto → R Bool
abbrev MA := Env' → Sto → R (List W)
structure ER (G : Glo) (Z : Addr → Prop) (μ : List Addr) (H : Hp) (ρ : Env') (σ : St) : Prop where
  len : σ.length = ρ.length
  at_ : ∀ (i : Nat) (w : W), ρ[i]? = some (some w) → ∃ v : V, σ[i]? = some (some v) ∧ VR G Z μ H w v
def PQ (G : Glo) (Q : VK) : W → (Addr → Prop) → List Addr → Hp → Sto → Prop := fun w Z μ H _ => ∀ v, VR G Z μ H w v → Q v H
def PB (Q : Bool → Hp → Prop) : Bool → (Addr → Prop) → List Addr → Hp → Sto → Prop := fun b _ _ H _ => Q b H
def PL (G : Glo) (Q : List V → Hp → Prop) : List W → (Addr → Prop) → List Addr → Hp → Sto → Prop := fun ws Z μ H _ => ∀ vs, VRs G Z μ H ws vs → Q vs H
def tM (G : Glo) (E : XK) (m : ME) : TE := fun σ H Q => ∃ ρ S Z μ, Rel G Z μ H S ∧ ER G Z μ H ρ σ ∧ Aft G E Z μ H (m ρ S) (PQ G Q)
def tMT (G : Glo) (E : XK) (m : MT) : TT := fun σ H Q => ∃ ρ S Z μ, Rel G Z μ H S ∧ ER G Z μ H ρ σ ∧ Aft G E Z μ H (m ρ S) (PB Q)
def tMA (G : Glo) (E : XK) (m : MA) : TA := fun σ H Q => ∃ ρ S Z μ, Rel G Z μ H S ∧ ER G Z μ H ρ σ ∧ Aft G E Z μ H (m ρ S) (PL G Q)
theorem ER.mono {G : Glo} {Z Z' : Addr → Prop} {μ μ' : List Addr} {H H' : Hp} {S : Sto} {ρ : Env'} {σ : St} (e : ER G Z μ H ρ σ) (r : Rel G Z μ H S) (g : Grow Z μ H Z' μ' H') : ER G Z' μ' H' ρ σ :=
  ⟨e.len, fun i w h => let ⟨v, h1, h2⟩ := e.at_ i w h; ⟨v, h1, VR.mono r g h2⟩⟩
theorem ER.set {G : Glo} {Z : Addr → Prop} {μ : List Addr} {H : Hp} {ρ : Env'} {σ : St} {w : W} {v : V} (e : ER G Z μ H ρ σ) (h : VR G Z μ H w v) (i : Nat) : ER G Z μ H (ρ.set i (some w)) (σ.set i (some v)) := by
  refine ⟨by simp [e.len], fun j u hj => ?_⟩
  by_cases hij : i = j
  · subst hij
    by_cases hi : i < ρ.length
    · rw [List.getElem?_set_self hi] at hj; cases hj
      exact ⟨v, by rw [List.getElem?_set_self (by rw [e.len]; exact hi)], h⟩
    · rw [List.getElem?_eq_none (by simpa using hi)] at hj; cases hj
  · rw [List.getElem?_set_ne hij] at hj
    obtain ⟨x, h1, h2⟩ := e.at_ j u hj
    exact ⟨x, by rw [List.getElem?_set_ne hij]; exact h1, h2⟩
theorem _root_.L2.PE.weak {X : Cx} {e : Expr} {t t' : TE} (h : PE X e t) (w : ∀ σ H Q, t' σ H Q → t σ H Q) : PE X e t' := ⟨fun pins s σ H Q I q => h.run pins s σ H Q I (w _ _ _ q)⟩
theorem _root_.L2.PT.weak {X : Cx} {e : Expr} {t t' : TT} (h : PT X e t) (w : ∀ σ H Q, t' σ H Q → t σ H Q) : PT X e t' := ⟨fun pins s σ H Q I q => h.run pins s σ H Q I (w _ _ _ q)⟩
theorem _root_.L2.PA.weak {X : Cx} {e : List Expr} {t t' : TA} (h : PA X e t) (w : ∀ σ H Q, t' σ H Q → t σ H Q) : PA X e t' := ⟨fun pos pins s σ H Q I q => h.run pos pins s σ H Q I (w _ _ _ q)⟩
theorem _root_.L2.PS.weak {X : Cx} {e : Stmt} {t t' : TS} (h : PS X e t) (w : ∀ D σ H, t' D σ H → t D σ H) : PS X e t' := ⟨fun pins s σ H D I q => h.run pins s σ H D I (w _ _ _ q)⟩
theorem _root_.L2.PSs.weak {X : Cx} {e : List Stmt} {t t' : TS} (h : PSs X e t) (w : ∀ D σ H, t' D σ H → t D σ H) : PSs X e t' := ⟨fun pins s σ H D I q => h.run pins s σ H D I (w _ _ _ q)⟩
end Mo

set_option Elab.async false
set_option linter.all false
set_option maxRecDepth 100000
set_option autoImplicit false
/-! Mon2: the heap's moves, expressions. -/
namespace Mo
open PySem PySem.Spec L2
open PyProof.Rows hiding St

section
variable {G : Glo} {Z Z' Z1 Z2 : Addr → Prop} {μ μ' μ1 μ2 : List Addr} {H H' H1 H2 : Hp} {S S' S1 : Sto}
theorem Grow.add {p : Addr} {o : HO} (hp : H p = none) : Grow Z μ H Z μ (upd H p o) :=
  ⟨⟨[], by simp, fun a h => by simp at h⟩, fun _ h => .inl h, fun _ h => h, fun a u h _ _ => by rw [upd_ne (ne_of_none h hp)]; exact h, fun a u h => ⟨u, by rw [upd_ne (ne_of_none h hp)]; exact h⟩⟩
theorem OR.mono (r : Rel G Z μ H S) (g : Grow Z μ H Z' μ' H') {a : Addr} {o : O} (ha : H' a = H a) (h : OR G Z μ H a o) : OR G Z' μ' H' a o := by
  cases o with
  | lst ws =>
    obtain ⟨vs, e, k⟩ := h
    exact ⟨vs, ha.trans e, VRs.mono r g k⟩
  | dict kvs =>
    obtain ⟨vs, e, k⟩ := h
    exact ⟨vs, ha.trans e, KVR.mono r g k⟩
  | ins c fs =>
    obtain ⟨C, dx, es, h1, h2, e, k⟩ := h
    exact ⟨C, dx, es, h1, h2, ha.trans e, VRs.mono r g k⟩
  | gone => exact True.intro
theorem Rel.some (r : Rel G Z μ H S) {n : Nat} {a : Addr} (h : μ[n]? = Option.some a) : ∃ o, H a = Option.some o :=
  let ⟨o, h1, _⟩ := r.zm a (r.mz a (List.mem_of_getElem? h)); ⟨o, h1⟩
/-- an untracked new object -/
theorem Rel.add (r : Rel G Z μ H S) {p : Addr} {o : HO} (hp : H p = none) : Rel G Z μ (upd H p o) S :=
  ⟨r.len, r.nd, r.mz, fun a h => by
    obtain ⟨u, h1, h2⟩ := r.zm a h
    exact ⟨u, by rw [upd_ne (ne_of_none h1 hp)]; exact h1, h2⟩, G.invk _ _ (fun b u h _ => by rw [upd_ne (ne_of_none h hp)]; exact h) r.inv,
   fun n a u h1 h2 => by
    obtain ⟨u', hu⟩ := r.some h1
    exact OR.mono r (Grow.add hp) (upd_ne (ne_of_none hu hp)) (r.ob n a u h1 h2)⟩
/-- all that was tracked stays, tables may grow: the same relation -/
theorem Rel.extN (r : Rel G Z μ H S) (k : ∀ a o, H a = Option.some o → isTbl o = false → H' a = Option.some o) (t : ∀ a o, H a = Option.some o → ∃ u, H' a = Option.some u) (hi : G.inv H') : Rel G Z μ H' S ∧ Grow Z μ H Z μ H' := by
  have g : Grow Z μ H Z μ H' := ⟨⟨[], by simp, fun a h => by simp at h⟩, fun _ h => .inl h, fun _ h => h, fun a o h _ ht => k a o h ht, t⟩
  refine ⟨⟨r.len, r.nd, r.mz, fun a h => ?_, hi, fun n a u h1 h2 => ?_⟩, g⟩
  · obtain ⟨u, h1, h2, h3⟩ := r.zm a h
    exact ⟨u, k a u h1 h3, h2, h3⟩
  · obtain ⟨u', hu, _, h3⟩ := r.zm a (r.mz a (List.mem_of_getElem? h1))
    exact OR.mono r g ((k a u' hu h3).trans hu.symm) (r.ob n a u h1 h2)
/-- all that was tracked stays: the same relation -/
theorem Rel.ext (r : Rel G Z μ H S) (k : ∀ a o, H a = Option.some o → H' a = Option.some o) : Rel G Z μ H' S ∧ Grow Z μ H Z μ H' :=
  r.extN (fun a o h _ => k a o h) (fun a o h => ⟨o, k a o h⟩) (G.invk _ _ (fun b o h _ => k b o h) r.inv)
theorem Grow.new {p : Addr} {o : HO} (hp : H p = none) : Grow Z μ H (fun a => Z a ∨ a = p) (μ ++ [p]) (upd H p o) :=
  ⟨⟨[p], rfl, fun a h => by simp at h; subst h; exact hp⟩, fun a h => h.elim .inl fun e => .inr (e ▸ hp), fun _ h => .inl h, fun a u h _ _ => by rw [upd_ne (ne_of_none h hp)]; exact h, fun a u h => ⟨u, by rw [upd_ne (ne_of_none h hp)]; exact h⟩⟩
/-- a new object of the store -/
theorem Rel.new (r : Rel G Z μ H S) {p : Addr} {ho : HO} {o : O} (hp : H p = none) (hm : isMut ho = true ∧ isTbl ho = false) (h : OR G (fun a => Z a ∨ a = p) (μ ++ [p]) (upd H p ho) p o) : Rel G (fun a => Z a ∨ a = p) (μ ++ [p]) (upd H p ho) (S ++ [o]) := by
  have np : p ∉ μ := fun z => by
    obtain ⟨u, h1, _⟩ := r.zm p (r.mz p z)
    rw [hp] at h1; cases h1
  refine ⟨by simp [r.len], ?_, fun a h => ?_, fun a h => ?_, G.invk _ _ (fun b u h _ => by rw [upd_ne (ne_of_none h hp)]; exact h) r.inv, fun n a u h1 h2 => ?_⟩
  · rw [List.nodup_append]
    exact ⟨r.nd, by simp, fun a ha b hb e => by simp at hb; rw [hb] at e; rw [e] at ha; exact np ha⟩
  · rcases List.mem_append.mp h with h | h
    · exact .inl (r.mz a h)
    · simp at h; exact .inr h
  · rcases h with h | h
    · obtain ⟨u, h1, h2⟩ := r.zm a h
      exact ⟨u, by rw [upd_ne (ne_of_none h1 hp)]; exact h1, h2⟩
    · subst h; exact ⟨ho, upd_same, hm.1, hm.2⟩
  · by_cases hn : n < μ.length
    · rw [List.getElem?_append_left hn] at h1
      rw [List.getElem?_append_left (by rw [← r.len]; exact hn)] at h2
      obtain ⟨u', hu⟩ := r.some h1
      exact OR.mono r (Grow.new hp) (upd_ne (ne_of_none hu hp)) (r.ob n a u h1 h2)
    · rw [List.getElem?_append_right (by omega)] at h1
      rw [List.getElem?_append_right (by rw [← r.len]; omega)] at h2
      have e1 : n - μ.length = 0 := by
        have := (List.getElem?_eq_some_iff.mp h1).1
        simp at this; omega
      rw [e1] at h1
      rw [← r.len, e1] at h2
      simp at h1 h2
      subst h1 h2
      exact h
theorem Grow.put {a : Addr} {o : HO} (ha : a ∈ μ) : Grow Z μ H Z μ (upd H a o) :=
  ⟨⟨[], by simp, fun a h => by simp at h⟩, fun _ h => .inl h, fun _ h => h, fun b u h hb _ => by rw [upd_ne (fun e => hb (by rw [e]; exact ha))]; exact h, fun b u h => by
    by_cases e : b = a
    · exact ⟨o, by rw [e]; exact upd_same⟩
    · exact ⟨u, by rw [upd_ne e]; exact h⟩⟩
/-- an object of the store written -/
theorem Rel.put (r : Rel G Z μ H S) {n : Nat} {a : Addr} {ho : HO} {o : O} (hn : μ[n]? = Option.some a) (hm : isMut ho = true ∧ isTbl ho = false) (h : OR G Z μ (upd H a ho) a o) : Rel G Z μ (upd H a ho) (S.set n o) := by
  have ha : a ∈ μ := List.mem_of_getElem? hn
  refine ⟨by simp [r.len], r.nd, r.mz, fun b hb => ?_, G.invk _ _ (fun b u h hq => ?_) r.inv, fun m b u h1 h2 => ?_⟩
  rotate_left
  · have hb : b ≠ a := fun e => by
      obtain ⟨v, k1, k2, k3⟩ := r.zm a (r.mz a ha)
      rw [e, k1] at h; cases h
      rcases hq with hq | hq
      · rw [hq] at k2; cases k2
      · rw [hq] at k3; cases k3
    rw [upd_ne hb]; exact h
  rotate_left
  · by_cases e : b = a
    · subst e; exact ⟨ho, upd_same, hm.1, hm.2⟩
    · obtain ⟨u, h1, h2⟩ := r.zm b hb
      exact ⟨u, by rw [upd_ne e]; exact h1, h2⟩
  · by_cases e : m = n
    · subst e
      rw [hn] at h1; cases h1
      have hl : m < S.length := by rw [← r.len]; exact (List.getElem?_eq_some_iff.mp hn).1
      rw [List.getElem?_set_self hl] at h2; cases h2
      exact h
    · rw [List.getElem?_set_ne (Ne.symm e)] at h2
      have hb : b ≠ a := fun z => by
        subst z
        exact e ((List.getElem?_inj (List.getElem?_eq_some_iff.mp h1).1 r.nd).mp (h1.trans hn.symm))
      exact OR.mono r (Grow.put ha) (upd_ne hb) (r.ob m b u h1 h2)
theorem Rel.fresh (r : Rel G Z μ H S) {p : Addr} (hp : H p = none) : ¬ Z p := fun z => by
  obtain ⟨u, h1, _⟩ := r.zm p z
  rw [hp] at h1; cases h1
theorem Rel.lst (r : Rel G Z μ H S) {n : Nat} {v : V} {ws : List W} (h : VR G Z μ H (.ref n) v) (hs : S[n]? = Option.some (.lst ws)) : ∃ a vs, v = .ref a ∧ μ[n]? = Option.some a ∧ H a = Option.some (.lst vs) ∧ VRs G Z μ H ws vs := by
  unfold VR at h
  obtain ⟨a, h1, rfl⟩ := h
  obtain ⟨vs, h2, h3⟩ := r.ob n a _ h1 hs
  exact ⟨a, vs, rfl, h1, h2, h3⟩
end

/-! ### ends -/
section
variable {G : Glo} {E : XK} {Z : Addr → Prop} {μ : List Addr} {H : Hp} {S : Sto} {Q : VK} {ws : List W} {vs : List V}
/-- a new frozen tuple -/
theorem end_tup (r : Rel G Z μ H S) (k : VRs G Z μ H ws vs) (h : Aft G E Z μ H (.ok (.tup ws) S) (PQ G Q)) : ∀ (p : Addr) (o : Obj), o.dict = none → H p = none → Q (.ref p) (upd H p (.frz o (.tup vs))) := fun p o d hp => by
  refine h Z μ _ (Grow.add hp) (r.add hp) _ ?_
  unfold VR
  exact ⟨p, vs, rfl, XT.new d, VRs.mono r (Grow.add hp) k⟩
theorem end_lst (r : Rel G Z μ H S) (k : VRs G Z μ H ws vs) (h : Aft G E Z μ H (.ok (.lst ws) S) (PQ G Q)) : ∀ p, H p = none → Q (.ref p) (upd H p (.lst vs)) := fun p hp => by
  refine h Z μ _ (Grow.add hp) (r.add hp) _ ?_
  unfold VR
  exact ⟨p, vs, rfl, upd_same, r.fresh hp, VRs.mono r (Grow.add hp) k⟩
theorem end_new (r : Rel G Z μ H S) (k : VRs G Z μ H ws vs) (h : Aft G E Z μ H (.ok (.ref S.length) (S ++ [.lst ws])) (PQ G Q)) : ∀ p, H p = none → Q (.ref p) (upd H p (.lst vs)) := fun p hp => by
  have g : Grow Z μ H (fun a => Z a ∨ a = p) (μ ++ [p]) (upd H p (.lst vs)) := Grow.new hp
  refine h _ _ _ g (r.new hp ⟨rfl, rfl⟩ ⟨vs, upd_same, VRs.mono r g k⟩) _ ?_
  unfold VR
  exact ⟨p, by rw [← r.len]; simp, rfl⟩
theorem end_put {n : Nat} {a : Addr} {w : W} {v : V} (r : Rel G Z μ H S) (hn : μ[n]? = some a) (k : VRs G Z μ H ws vs) (kv : VR G Z μ H w v) (h : Aft G E Z μ H (.ok w (S.set n (.lst ws))) (PQ G Q)) : Q v (upd H a (.lst vs)) := by
  have g : Grow Z μ H Z μ (upd H a (.lst vs)) := Grow.put (List.mem_of_getElem? hn)
  exact h _ _ _ g (r.put hn ⟨rfl, rfl⟩ ⟨vs, upd_same, VRs.mono r g k⟩) _ (VR.mono r g kv)
theorem end_val {w : W} {v : V} (r : Rel G Z μ H S) (k : VR G Z μ H w v) (h : Aft G E Z μ H (.ok w S) (PQ G Q)) : Q v H := Aft.here r h v k
end

/-! ### expressions -/
def mVar (i : Nat) : ME := fun ρ S => match ρ[i]? with
  | some (some w) => .ok w S
  | _ => .stuck
def mC (w : W) : ME := fun _ S => .ok w S
def mBin (f : W → W → Sto → R W) (a b : ME) : ME := fun ρ S => (a ρ S).bind fun x S1 => (b ρ S1).bind fun y S2 => f x y S2
def mUn (f : W → Sto → R W) (a : ME) : ME := fun ρ S => (a ρ S).bind f
def mNil : MA := fun _ S => .ok [] S
def mCons (a : ME) (r : MA) : MA := fun ρ S => (a ρ S).bind fun x S1 => (r ρ S1).bind fun xs S2 => .ok (x :: xs) S2
def mAp (f : List W → Sto → R W) (r : MA) : ME := fun ρ S => (r ρ S).bind f
def gTup' (ws : List W) (S : Sto) : R W := if ws.length ≤ 100000 then .ok (.tup ws) S else .stuck
def gLst (ws : List W) (S : Sto) : R W := if ws.length ≤ 100000 then .ok (.lst ws) S else .stuck
def gNew (ws : List W) (S : Sto) : R W := if ws.length ≤ 100000 then .ok (.ref S.length) (S ++ [.lst ws]) else .stuck
abbrev mTup (r : MA) : ME := mAp gTup' r
abbrev mLst (r : MA) : ME := mAp gLst r
abbrev mNew (r : MA) : ME := mAp gNew r
/-- readings of functions on values -/
def rM (G : Glo) (E : XK) (f : W → W → Sto → R W) : R2 := fun x y H Q => ∃ w u S Z μ, Rel G Z μ H S ∧ VR G Z μ H w x ∧ VR G Z μ H u y ∧ Aft G E Z μ H (f w u S) (PQ G Q)
def uM (G : Glo) (E : XK) (f : W → Sto → R W) : V → Hp → VK → Prop := fun x H Q => ∃ w S Z μ, Rel G Z μ H S ∧ VR G Z μ H w x ∧ Aft G E Z μ H (f w S) (PQ G Q)
def cM (G : Glo) (E : XK) (f : List W → Sto → R W) : List V → Hp → VK → Prop := fun vs H Q => ∃ ws S Z μ, Rel G Z μ H S ∧ VRs G Z μ H ws vs ∧ Aft G E Z μ H (f ws S) (PQ G Q)
def mtM (G : Glo) (E : XK) (f : W → List W → Sto → R W) : V → List V → Hp → VK → Prop := fun x vs H Q => ∃ w ws S Z μ, Rel G Z μ H S ∧ VR G Z μ H w x ∧ VRs G Z μ H ws vs ∧ Aft G E Z μ H (f w ws S) (PQ G Q)
section
variable {X : Cx} {G : Glo} {E : XK} {a b e : Expr} {es : List Expr} {ma mb : ME} {mr : MA} {pos : Pos}
theorem em_var {i : Nat} {x : Expr} (h : PE X x (tVar i)) : PE X x (tM G E (mVar i)) := h.weak fun σ H Q ⟨ρ, S, Z, μ, r, er, af⟩ => by
  unfold mVar at af
  split at af
  · rename_i w e
    obtain ⟨v, h1, h2⟩ := er.at_ i w e
    exact ⟨v, h1, end_val r h2 af⟩
  · exact af.elim
theorem em_c {x : Expr} {w : W} {v : V} (h : PE X x (tC v)) (hw : ∀ Z μ H, VR G Z μ H w v) : PE X x (tM G E (mC w)) := h.weak fun σ H Q ⟨ρ, S, Z, μ, r, er, af⟩ => end_val r (hw _ _ _) af
theorem vr_int {i : Int} : ∀ (Z : Addr → Prop) (μ : List Addr) (H : Hp), VR G Z μ H (.int i) (.int i) := fun _ _ _ => by unfold VR; rfl
theorem vr_bl {i : Bool} : ∀ (Z : Addr → Prop) (μ : List Addr) (H : Hp), VR G Z μ H (.bl i) (.bl i) := fun _ _ _ => by unfold VR; rfl
theorem vr_str {i : Str} : ∀ (Z : Addr → Prop) (μ : List Addr) (H : Hp), VR G Z μ H (.str i) (.str i) := fun _ _ _ => by unfold VR; rfl
theorem vr_non : ∀ (Z : Addr → Prop) (μ : List Addr) (H : Hp), VR G Z μ H .non .non := fun _ _ _ => by unfold VR; rfl
theorem vr_ty {n : String} : ∀ (Z : Addr → Prop) (μ : List Addr) (H : Hp), VR G Z μ H (.ty n) (.ty n) := fun _ _ _ => by unfold VR; rfl
theorem vr_glob {x : Str} {a : Addr} (h : G.mg x = some (.ref a)) : ∀ (Z : Addr → Prop) (μ : List Addr) (H : Hp), VR G Z μ H (.glob x) (.ref a) := fun _ _ _ => by unfold VR; exact ⟨a, h, rfl⟩
theorem em_int {i : Int} {j : Nat} : PE X (.Constant (.int i) j pos) (tM G E (mC (.int i))) := em_c pe_int vr_int
theorem em_bl {i : Bool} {j : Nat} : PE X (.Constant (.bool i) j pos) (tM G E (mC (.bl i))) := em_c pe_bl vr_bl
theorem em_non {j : Nat} : PE X (.Constant .none j pos) (tM G E (mC .non)) := em_c pe_non vr_non
theorem em_str {i : Str} {j : Nat} : PE X (.Constant (.str i) j pos) (tM G E (mC (.str i))) := em_c pe_str vr_str
/-- two parts in a row, handed on to a reading -/
theorem two {σ : St} {H : Hp} {Q : VK} {f : W → W → Sto → R W} (h : tM G E (mBin f ma mb) σ H Q) : tOp (rM G E f) (tM G E ma) (tM G E mb) σ H Q := by
  obtain ⟨ρ, S, Z, μ, r, er, af⟩ := h
  refine ⟨ρ, S, Z, μ, r, er, Aft.imp (Aft.bind af) fun w Z1 μ1 H1 S1 _ g1 r1 a1 x hx => ?_⟩
  refine ⟨ρ, S1, Z1, μ1, r1, er.mono r g1, Aft.imp (Aft.bind a1) fun u Z2 μ2 H2 S2 _ g2 r2 a2 y hy => ?_⟩
  exact ⟨w, u, S2, Z2, μ2, r2, hx.mono r1 g2, hy, a2⟩
theorem em_bin {f : W → W → Sto → R W} (w : ∀ ta tb, PE X a ta → PE X b tb → PE X e (tOp (rM G E f) ta tb)) (ha : PE X a (tM G E ma)) (hb : PE X b (tM G E mb)) : PE X e (tM G E (mBin f ma mb)) :=
  (w _ _ ha hb).weak fun σ H Q h => two h
theorem em_op {op : Operator} {f : W → W → Sto → R W} (ho : OpR X (binaryOp op) (rM G E f)) (ha : PE X a (tM G E ma)) (hb : PE X b (tM G E mb)) : PE X (.BinOp a op b pos) (tM G E (mBin f ma mb)) := em_bin (fun _ _ => pe_op ho) ha hb
theorem em_cmp {op : CmpOp} {f : W → W → Sto → R W} (ho : OpR X (compareOp op) (rM G E f)) (ha : PE X a (tM G E ma)) (hb : PE X b (tM G E mb)) (hm : behindInMarks op b = false := by first | exact nomark _ | rfl) : PE X (.Compare a [op] [b] pos) (tM G E (mBin f ma mb)) :=
  em_bin (fun _ _ h k => pe_cmpR ho h k hm) ha hb
theorem em_ix {f : W → W → Sto → R W} (ho : IxR X (rM G E f)) (ha : PE X a (tM G E ma)) (hb : PE X b (tM G E mb)) (hs : PlainIx b := by exact fun _ _ => rfl) : PE X (.Subscript a b pos) (tM G E (mBin f ma mb)) := em_bin (fun _ _ h k => pe_ix ho h k hs) ha hb
theorem em_un {op : UnaryOp} {f : W → Sto → R W} (ho : UnR X (unaryOp op) (uM G E f)) (ha : PE X a (tM G E ma)) : PE X (.UnaryOp op a pos) (tM G E (mUn f ma)) :=
  (pe_un ho ha).weak fun σ H Q ⟨ρ, S, Z, μ, r, er, af⟩ => ⟨ρ, S, Z, μ, r, er, Aft.imp (Aft.bind af) fun w Z1 μ1 H1 S1 _ g1 r1 a1 x hx => ⟨w, S1, Z1, μ1, r1, hx, a1⟩⟩
theorem am_nil : PA X [] (tMA G E mNil) := pa_nil.weak fun σ H Q ⟨ρ, S, Z, μ, r, er, af⟩ => Aft.here r af [] VRs.nil
theorem am_cons (ha : PE X e (tM G E ma)) (hr : PA X es (tMA G E mr)) (hs : starEach (e :: es) X.env = (false, eval e X.env) :: starEach es X.env := by rfl) : PA X (e :: es) (tMA G E (mCons ma mr)) :=
  (pa_cons ha hr hs).weak fun σ H Q ⟨ρ, S, Z, μ, r, er, af⟩ => ⟨ρ, S, Z, μ, r, er, Aft.imp (Aft.bind af) fun w Z1 μ1 H1 S1 _ g1 r1 a1 x hx =>
    ⟨ρ, S1, Z1, μ1, r1, er.mono r g1, Aft.imp (Aft.bind a1) fun ws Z2 μ2 H2 S2 _ g2 r2 a2 vs hvs => Aft.here r2 a2 (x :: vs) (VRs.cons (hx.mono r1 g2) hvs)⟩⟩
/-- arguments, handed on to a reading -/
theorem args {σ : St} {H : Hp} {Q : VK} {f : List W → Sto → R W} (h : tM G E (mAp f mr) σ H Q) : tMA G E mr σ H fun vs H1 => cM G E f vs H1 Q := by
  obtain ⟨ρ, S, Z, μ, r, er, af⟩ := h
  exact ⟨ρ, S, Z, μ, r, er, Aft.imp (Aft.bind af) fun ws Z1 μ1 H1 S1 _ g1 r1 a1 vs hvs => ⟨ws, S1, Z1, μ1, r1, hvs, a1⟩⟩
/-- a tuple display: the tuple is known whole -/
def tTupX (t : TA) : TE := fun σ H Q => t σ H fun xs H1 => xs.length ≤ sizeLine ∧ ∀ (p : Addr) (o : Obj), o.dict = none → H1 p = none → Q (.ref p) (upd H1 p (.frz o (.tup xs)))
theorem pe_tupX {t : TA} {k : Nat} (ha : PA X es t) : PE X (.Tuple es k pos) (tTupX t) := ⟨fun pins s σ H Q I hq => wpAny_Tuple_spliced (thn (ha.run pos pins s σ H _ I hq) fun us s1 ⟨xs, H1, I1, rr, hz, q⟩ => by
  have fr : H1 s1.heap.objs.size = none := I1.hok.fresh (Nat.le_refl _)
  refine ⟨by rw [← rr.length]; exact hz, .ref s1.heap.objs.size, _, I1.laid (t' := s1.toks) (o := .frz { cls := .type "tuple", data := .seq us.toArray } (.tup xs)) (fun b u e => Heap.get?_push_of_some _ e) (Nat.le_refl _) ?_, rfl, q _ _ rfl fr⟩
  exact ⟨Heap.get?_push_size _ rfl, hz, us, rr, ⟨_, Heap.get?_push_size _ rfl, rfl, _, rfl⟩⟩)⟩
theorem em_tup {k : Nat} (h : PA X es (tMA G E mr)) : PE X (.Tuple es k pos) (tM G E (mTup mr)) := (pe_tupX h).weak fun σ H Q hh => by
  obtain ⟨ρ, S, Z, μ, r, er, af⟩ := hh
  refine ⟨ρ, S, Z, μ, r, er, Aft.imp (Aft.bind af) fun ws Z1 μ1 H1 S1 _ g1 r1 a1 vs hvs => ?_⟩
  unfold gTup' at a1
  split at a1
  · rename_i hl
    exact ⟨by rw [hvs.length]; exact Nat.le_trans hl (by decide), end_tup r1 hvs a1⟩
  · exact a1.elim
theorem em_lst (h : PA X es (tMA G E mr)) : PE X (.List es pos) (tM G E (mLst mr)) := (pe_lst h).weak fun σ H Q hh => by
  obtain ⟨ρ, S, Z, μ, r, er, af⟩ := hh
  refine ⟨ρ, S, Z, μ, r, er, Aft.imp (Aft.bind af) fun ws Z1 μ1 H1 S1 _ g1 r1 a1 vs hvs => ?_⟩
  unfold gLst at a1
  split at a1
  · rename_i hl
    exact ⟨by rw [hvs.length]; exact Nat.le_trans hl (by decide), end_lst r1 hvs a1⟩
  · exact a1.elim
theorem em_new (h : PA X es (tMA G E mr)) : PE X (.List es pos) (tM G E (mNew mr)) := (pe_lst h).weak fun σ H Q hh => by
  obtain ⟨ρ, S, Z, μ, r, er, af⟩ := hh
  refine ⟨ρ, S, Z, μ, r, er, Aft.imp (Aft.bind af) fun ws Z1 μ1 H1 S1 _ g1 r1 a1 vs hvs => ?_⟩
  unfold gNew at a1
  split at a1
  · rename_i hl
    exact ⟨by rw [hvs.length]; exact Nat.le_trans hl (by decide), end_new r1 hvs a1⟩
  · exact a1.elim
/-- a built-in function, a built-in class -/
theorem em_callB {f : List W → Sto → R W} {x : Str} {p : Pos} {id : String} (hc : CallR X (.builtin id) (cM G E f)) (hg : Gl X x) (hm : X.mg x = none) (hv : bootBuiltins x = some (.builtin id)) (ha : PA X (e :: es) (tMA G E mr)) (hn : x ≠ "__name__" := by decide) (hdb : (x == ("__debug__" : Str)) = false := by decide)
    (he : starEach (e :: es) X.env = (false, eval e X.env) :: starEach es X.env := by rfl) (hpl : (backTo pos (starEach es X.env)).any (·.1) = false := by rfl) : PE X (.Call (.Name x p) (e :: es) [] pos) (tM G E (mAp f mr)) :=
  (pe_callB hc hg hm hv ha hn hdb he hpl).weak fun σ H Q h => args h
theorem em_callTy {f : List W → Sto → R W} {x : Str} {p : Pos} {id : String} (hc : CallR X (.type id) (cM G E f)) (hg : Gl X x) (hm : X.mg x = none) (hv : bootBuiltins x = some (.type id)) (ha : PA X (e :: es) (tMA G E mr)) (hn : x ≠ "__name__" := by decide) (hdb : (x == ("__debug__" : Str)) = false := by decide)
    (he : starEach (e :: es) X.env = (false, eval e X.env) :: starEach es X.env := by rfl) (hpl : (backTo pos (starEach es X.env)).any (·.1) = false := by rfl) : PE X (.Call (.Name x p) (e :: es) [] pos) (tM G E (mAp f mr)) :=
  (pe_callTy hc hg hm hv ha hn hdb he hpl).weak fun σ H Q h => args h
end

/-! ### tests, and, or, not, chains -/
def mIsT (a : ME) : MT := fun ρ S => (a ρ S).bind fun w S1 => match w with
  | .bl b => .ok b S1
  | _ => .stuck
def mNotT (t : MT) : MT := fun ρ S => (t ρ S).bind fun b S1 => .ok (!b) S1
def mAndT (t u : MT) : MT := fun ρ S => (t ρ S).bind fun b S1 => match b with
  | true => u ρ S1
  | false => .ok false S1
def mOrT (t u : MT) : MT := fun ρ S => (t ρ S).bind fun b S1 => match b with
  | true => .ok true S1
  | false => u ρ S1
def mAnd (a b : ME) : ME := fun ρ S => (a ρ S).bind fun w S1 => match w with
  | .bl true => b ρ S1
  | .bl false => .ok (.bl false) S1
  | _ => .stuck
def mOr (a b : ME) : ME := fun ρ S => (a ρ S).bind fun w S1 => match w with
  | .bl true => .ok (.bl true) S1
  | .bl false => b ρ S1
  | _ => .stuck
def mNot (a : ME) : ME := fun ρ S => (a ρ S).bind fun w S1 => match w with
  | .bl b => .ok (.bl (!b)) S1
  | _ => .stuck
def mIf (t : MT) (a b : ME) : ME := fun ρ S => (t ρ S).bind fun c S1 => match c with
  | true => a ρ S1
  | false => b ρ S1
def mChain (f g : W → W → Sto → R W) (a b c : ME) : ME := fun ρ S => (a ρ S).bind fun x S1 => (b ρ S1).bind fun y S2 => (f x y S2).bind fun z S3 => match z with
  | .bl true => (c ρ S3).bind fun u S4 => g y u S4
  | .bl false => .ok (.bl false) S3
  | _ => .stuck
section
variable {X : Cx} {G : Glo} {E : XK} {a b c e : Expr} {rest : List Expr} {ma mb mc : ME} {mt mu : MT} {pos : Pos}
theorem vr_bl_of {Z : Addr → Prop} {μ : List Addr} {H : Hp} {k : Bool} {v : V} (h : VR G Z μ H (.bl k) v) : v = .bl k := by unfold VR at h; exact h
theorem tm_e (w : ∀ t, PE X e t → PT X e (tB t)) (h : PE X e (tM G E ma)) : PT X e (tMT G E (mIsT ma)) := (w _ h).weak fun σ H Q ⟨ρ, S, Z, μ, r, er, af⟩ =>
  ⟨ρ, S, Z, μ, r, er, Aft.imp (Aft.bind af) fun w Z1 μ1 H1 S1 _ g1 r1 a1 x hx => by
    cases w with
    | bl k => exact ⟨k, vr_bl_of hx, Aft.here (E := E) (P := PB Q) r1 a1⟩
    | _ => exact a1.elim⟩
theorem tm_val (h : PE X e (tM G E ma)) (he : ∀ whole, isTrue e X.env whole = (do let v ← whole; standAt e.pos; holding [v] (truthy v)) := by intro _; rfl) : PT X e (tMT G E (mIsT ma)) := tm_e (fun _ h => pt_val h he) h
theorem tm_cmp {op : CmpOp} {f : W → W → Sto → R W} (ho : OpR X (compareOp op) (rM G E f)) (ha : PE X a (tM G E ma)) (hb : PE X b (tM G E mb)) (hm : behindInMarks op b = false := by first | exact nomark _ | rfl) : PT X (.Compare a [op] [b] pos) (tMT G E (mIsT (mBin f ma mb))) :=
  (pt_cmpR ho ha hb hm).weak fun σ H Q ⟨ρ, S, Z, μ, r, er, af⟩ => by
    have h : tM G E (mBin f ma mb) σ H fun x H' => ∃ k, x = .bl k ∧ Q k H' := ⟨ρ, S, Z, μ, r, er, Aft.imp (Aft.bind af) fun w Z1 μ1 H1 S1 _ g1 r1 a1 x hx => by
      cases w with
      | bl k => exact ⟨k, vr_bl_of hx, Aft.here (E := E) (P := PB Q) r1 a1⟩
      | _ => exact a1.elim⟩
    exact two h
theorem tm_not (h : PT X a (tMT G E mt)) : PT X (.UnaryOp .Not a pos) (tMT G E (mNotT mt)) := (pt_not h).weak fun σ H Q ⟨ρ, S, Z, μ, r, er, af⟩ =>
  ⟨ρ, S, Z, μ, r, er, Aft.imp (Aft.bind af) fun b Z1 μ1 H1 S1 _ g1 r1 a1 => Aft.here (E := E) (P := PB Q) r1 a1⟩
theorem wm_and1 (h : PT X a (tMT G E mt)) : PW X (.BoolOp .And [a] pos) (tMT G E mt) := pw_and1 h
theorem wm_or1 (h : PT X a (tMT G E mt)) : PW X (.BoolOp .Or [a] pos) (tMT G E mt) := pw_or1 h
theorem _root_.L2.PW.weak {t t' : TT} (h : PW X e t) (w : ∀ σ H Q, t' σ H Q → t σ H Q) : PW X e t' := ⟨fun wh pins s σ H Q I q => h.run wh pins s σ H Q I (w _ _ _ q)⟩
theorem wm_and (ha : PT X a (tMT G E mt)) (hb : PW X (.BoolOp .And (b :: rest) pos) (tMT G E mu)) : PW X (.BoolOp .And (a :: b :: rest) pos) (tMT G E (mAndT mt mu)) := (pw_and ha hb).weak fun σ H Q ⟨ρ, S, Z, μ, r, er, af⟩ =>
  ⟨ρ, S, Z, μ, r, er, Aft.imp (Aft.bind af) fun k Z1 μ1 H1 S1 _ g1 r1 a1 => by
    cases k with
    | true => exact ⟨ρ, S1, Z1, μ1, r1, er.mono r g1, a1⟩
    | false => exact Aft.here (E := E) (P := PB Q) r1 a1⟩
theorem wm_or (ha : PT X a (tMT G E mt)) (hb : PW X (.BoolOp .Or (b :: rest) pos) (tMT G E mu)) : PW X (.BoolOp .Or (a :: b :: rest) pos) (tMT G E (mOrT mt mu)) := (pw_or ha hb).weak fun σ H Q ⟨ρ, S, Z, μ, r, er, af⟩ =>
  ⟨ρ, S, Z, μ, r, er, Aft.imp (Aft.bind af) fun k Z1 μ1 H1 S1 _ g1 r1 a1 => by
    cases k with
    | true => exact Aft.here (E := E) (P := PB Q) r1 a1
    | false => exact ⟨ρ, S1, Z1, μ1, r1, er.mono r g1, a1⟩⟩
theorem em_one {op : BoolOp} (h : PE X a (tM G E ma)) : PE X (.BoolOp op [a] pos) (tM G E ma) := pe_one h
theorem em_and (ha : PE X a (tM G E ma)) (hb : PE X (.BoolOp .And (b :: rest) pos) (tM G E mb)) : PE X (.BoolOp .And (a :: b :: rest) pos) (tM G E (mAnd ma mb)) := (pe_and ha hb).weak fun σ H Q ⟨ρ, S, Z, μ, r, er, af⟩ =>
  ⟨ρ, S, Z, μ, r, er, Aft.imp (Aft.bind af) fun w Z1 μ1 H1 S1 _ g1 r1 a1 x hx => by
    cases w with
    | bl k =>
      cases k with
      | true => exact ⟨true, vr_bl_of hx, ρ, S1, Z1, μ1, r1, er.mono r g1, a1⟩
      | false => exact ⟨false, vr_bl_of hx, end_val r1 (vr_bl _ _ _) a1⟩
    | _ => exact a1.elim⟩
theorem em_or (ha : PE X a (tM G E ma)) (hb : PE X (.BoolOp .Or (b :: rest) pos) (tM G E mb)) : PE X (.BoolOp .Or (a :: b :: rest) pos) (tM G E (mOr ma mb)) := (pe_or ha hb).weak fun σ H Q ⟨ρ, S, Z, μ, r, er, af⟩ =>
  ⟨ρ, S, Z, μ, r, er, Aft.imp (Aft.bind af) fun w Z1 μ1 H1 S1 _ g1 r1 a1 x hx => by
    cases w with
    | bl k =>
      cases k with
      | false => exact ⟨false, vr_bl_of hx, ρ, S1, Z1, μ1, r1, er.mono r g1, a1⟩
      | true => exact ⟨true, vr_bl_of hx, end_val r1 (vr_bl _ _ _) a1⟩
    | _ => exact a1.elim⟩
theorem em_not (ha : PE X a (tM G E ma)) : PE X (.UnaryOp .Not a pos) (tM G E (mNot ma)) := (pe_not ha).weak fun σ H Q ⟨ρ, S, Z, μ, r, er, af⟩ =>
  ⟨ρ, S, Z, μ, r, er, Aft.imp (Aft.bind af) fun w Z1 μ1 H1 S1 _ g1 r1 a1 x hx => by
    cases w with
    | bl k => exact ⟨k, vr_bl_of hx, end_val r1 (vr_bl _ _ _) a1⟩
    | _ => exact a1.elim⟩
theorem em_if (hc : PT X c (tMT G E mt)) (ha : PE X a (tM G E ma)) (hb : PE X b (tM G E mb)) : PE X (.IfExp c a b pos) (tM G E (mIf mt ma mb)) := (pe_ifExp hc ha hb).weak fun σ H Q ⟨ρ, S, Z, μ, r, er, af⟩ =>
  ⟨ρ, S, Z, μ, r, er, Aft.imp (Aft.bind af) fun k Z1 μ1 H1 S1 _ g1 r1 a1 => by
    cases k with
    | true => exact ⟨ρ, S1, Z1, μ1, r1, er.mono r g1, a1⟩
    | false => exact ⟨ρ, S1, Z1, μ1, r1, er.mono r g1, a1⟩⟩
/-- a < b < c -/
theorem chain_reads {f g : W → W → Sto → R W} {σ : St} {H : Hp} {Q : VK} (h : tM G E (mChain f g ma mb mc) σ H Q) : tChain (rM G E f) (rM G E g) (tM G E ma) (tM G E mb) (tM G E mc) σ H Q := by
  obtain ⟨ρ, S, Z, μ, r, er, af⟩ := h
  refine ⟨ρ, S, Z, μ, r, er, Aft.imp (Aft.bind af) fun w Z1 μ1 H1 S1 _ g1 r1 a1 x hx => ?_⟩
  have er1 := er.mono r g1
  refine ⟨ρ, S1, Z1, μ1, r1, er1, Aft.imp (Aft.bind a1) fun u Z2 μ2 H2 S2 _ g2 r2 a2 y hy => ?_⟩
  have er2 := er1.mono r1 g2
  refine ⟨w, u, S2, Z2, μ2, r2, hx.mono r1 g2, hy, Aft.imp (Aft.bind a2) fun z Z3 μ3 H3 S3 _ g3 r3 a3 v hv => ?_⟩
  cases z with
  | bl k =>
    refine ⟨k, vr_bl_of hv, ?_⟩
    cases k with
    | true =>
      refine iteT ⟨ρ, S3, Z3, μ3, r3, er2.mono r2 g3, Aft.imp (Aft.bind a3) fun t Z4 μ4 H4 S4 _ g4 r4 a4 x4 hx4 => ?_⟩
      exact ⟨u, t, S4, Z4, μ4, r4, (hy.mono r2 g3).mono r3 g4, hx4, a4⟩
    | false => exact iteF (end_val r3 (vr_bl _ _ _) a3)
  | _ => exact a3.elim
theorem em_chain {op op' : CmpOp} {f g : W → W → Sto → R W} (ho : OpR X (compareOp op) (rM G E f)) (ho' : OpR X (compareOp op') (rM G E g)) (ha : PE X a (tM G E ma)) (hb : PE X b (tM G E mb)) (hc : PE X c (tM G E mc))
    (hm : lastMarks [op, op'] [b, c] = false := by with_unfolding_all rfl) : PE X (.Compare a [op, op'] [b, c] pos) (tM G E (mChain f g ma mb mc)) := (pe_chain ho ho' ha hb hc hm).weak fun σ H Q h => chain_reads h
theorem tm_chain {op op' : CmpOp} {f g : W → W → Sto → R W} (ho : OpR X (compareOp op) (rM G E f)) (ho' : OpR X (compareOp op') (rM G E g)) (ha : PE X a (tM G E ma)) (hb : PE X b (tM G E mb)) (hc : PE X c (tM G E mc))
    (hm : lastMarks [op, op'] [b, c] = false := by with_unfolding_all rfl) : PT X (.Compare a [op, op'] [b, c] pos) (tMT G E (mIsT (mChain f g ma mb mc))) := (pt_chain ho ho' ha hb hc hm).weak fun σ H Q ⟨ρ, S, Z, μ, r, er, af⟩ => by
  have h : tM G E (mChain f g ma mb mc) σ H fun x H' => ∃ k, x = .bl k ∧ Q k H' := ⟨ρ, S, Z, μ, r, er, Aft.imp (Aft.bind af) fun w Z1 μ1 H1 S1 _ g1 r1 a1 x hx => by
    cases w with
    | bl k => exact ⟨k, vr_bl_of hx, Aft.here (E := E) (P := PB Q) r1 a1⟩
    | _ => exact a1.elim⟩
  exact chain_reads h
end
end Mo

set_option Elab.async false
set_option linter.all false
set_option maxRecDepth 100000
set_option autoImplicit false
/-! Mon3: statements, targets, what is walked, for, while, comprehensions, calls of defs. -/
namespace Mo
open PySem PySem.Spec L2
open PyProof.Rows hiding St

inductive Fl where
  | nx (ρ : Env') | ret (w : W) | brk (ρ : Env') | cnt (ρ : Env')
abbrev MS := Env' → Sto → R Fl
def PF (G : Glo) (D : Ends) : Fl → (Addr → Prop) → List Addr → Hp → Sto → Prop := fun f Z μ H _ => match f with
  | .nx ρ => ∀ σ, ER G Z μ H ρ σ → D.nx σ H
  | .ret w => ∀ v, VR G Z μ H w v → D.rt v H
  | .brk ρ => ∀ σ, ER G Z μ H ρ σ → D.bk σ H
  | .cnt ρ => ∀ σ, ER G Z μ H ρ σ → D.ct σ H
def tS (G : Glo) (E : XK) (m : MS) : TS := fun D σ H => ∃ ρ S Z μ, Rel G Z μ H S ∧ ER G Z μ H ρ σ ∧ Aft G E Z μ H (m ρ S) (PF G D)

def mSkip : MS := fun ρ S => .ok (.nx ρ) S
def mSeq (a b : MS) : MS := fun ρ S => (a ρ S).bind fun f S1 => match f with
  | .nx ρ1 => b ρ1 S1
  | f => .ok f S1
def mDo (a : ME) : MS := fun ρ S => (a ρ S).bind fun _ S1 => .ok (.nx ρ) S1
def mRet (a : ME) : MS := fun ρ S => (a ρ S).bind fun w S1 => .ok (.ret w) S1
def mRetN : MS := fun _ S => .ok (.ret .non) S
def mCond (t : MT) (a b : MS) : MS := fun ρ S => (t ρ S).bind fun c S1 => match c with
  | true => a ρ S1
  | false => b ρ S1
def mSet (i : Nat) (a : ME) : MS := fun ρ S => (a ρ S).bind fun w S1 => .ok (.nx (ρ.set i (some w))) S1
def mBrk : MS := fun ρ S => .ok (.brk ρ) S
def mCnt : MS := fun ρ S => .ok (.cnt ρ) S
def mRaise (c : Str) : MS := fun _ S => .err c S
/-- targets -/
abbrev MG := W → Env' → Option Env'
def tgN (i : Nat) : MG := fun w ρ => some (ρ.set i (some w))
def setAll : List Nat → List W → Env' → Option Env'
  | [], [], ρ => some ρ
  | i :: is, w :: ws, ρ => setAll is ws (ρ.set i (some w))
  | _, _, _ => none
def tgT (is : List Nat) : MG := fun w ρ => match w with
  | .tup ws => setAll is ws ρ
  | .itm ws => setAll is ws ρ
  | _ => none
def mAsg (g : MG) (a : ME) : MS := fun ρ S => (a ρ S).bind fun w S1 => match g w ρ with
  | some ρ1 => .ok (.nx ρ1) S1
  | none => .stuck
theorem wipe_at : ∀ (vs : List Nat) (σ : St) (j : Nat), (wipe σ vs)[j]? = if j ∈ vs then (if j < σ.length then some none else none) else σ[j]?
  | [], σ, j => by simp [wipe]
  | v :: vs, σ, j => by
    unfold wipe
    by_cases e : v = j
    · subst e
      by_cases hl : v < σ.length
      · rw [List.getElem?_set_self (by rw [wipe_length]; exact hl), if_pos (by simp), if_pos hl]
      · rw [List.getElem?_eq_none (by rw [List.length_set, wipe_length]; omega), if_pos (by simp), if_neg hl]
    · rw [List.getElem?_set_ne e, wipe_at vs σ j]
      have : (j ∈ v :: vs) ↔ j ∈ vs := by simp [Ne.symm e]
      by_cases h : j ∈ vs
      · rw [if_pos h, if_pos (this.mpr h)]
      · rw [if_neg h, if_neg (fun z => h (this.mp z))]
theorem wipe_set {σ : St} {vs : List Nat} {i : Nat} {x : Option V} (h : i ∈ vs) : wipe (σ.set i x) vs = wipe σ vs := by
  apply List.ext_getElem?
  intro j
  rw [wipe_at, wipe_at, List.length_set]
  by_cases hj : j ∈ vs
  · rw [if_pos hj, if_pos hj]
  · rw [if_neg hj, if_neg hj, List.getElem?_set_ne (fun e => hj (by rw [← e]; exact h))]
theorem wipe_wipe {σ : St} {vs : List Nat} : wipe (wipe σ vs) vs = wipe σ vs := by
  apply List.ext_getElem?
  intro j
  rw [wipe_at, wipe_at, wipe_length]
  by_cases hj : j ∈ vs
  · rw [if_pos hj, if_pos hj]
  · rw [if_neg hj, if_neg hj]
def GM (G : Glo) (is : List Nat) (g : TG) (t : MG) : Prop := ∀ (w : W) (ρ ρ1 : Env') (x : V) (σ : St) (Z : Addr → Prop) (μ : List Addr) (H : Hp) (S : Sto) (Q : St → Hp → Prop), Rel G Z μ H S → VR G Z μ H w x → ER G Z μ H ρ σ → t w ρ = some ρ1 →
  (∀ σ2, ER G Z μ H ρ1 σ2 → (∀ vs : List Nat, (∀ i ∈ is, i ∈ vs) → wipe σ2 vs = wipe σ vs) → Q σ2 H) → g x σ H Q
section
variable {X : Cx} {G : Glo} {E : XK} {e : Expr} {st : Stmt} {rest body suite : List Stmt} {ma : ME} {mt : MT} {m1 m2 : MS} {pos : Pos}
theorem sm_nil : PSs X [] (tS G E mSkip) := pss_nil.weak fun D σ H ⟨ρ, S, Z, μ, r, er, af⟩ => Aft.here (E := E) (P := PF G D) r af σ er
theorem seq_reads {D : Ends} {σ : St} {H : Hp} (h : tS G E (mSeq m1 m2) D σ H) : tSeq (tS G E m1) (tS G E m2) D σ H := by
  obtain ⟨ρ, S, Z, μ, r, er, af⟩ := h
  refine ⟨ρ, S, Z, μ, r, er, Aft.imp (Aft.bind af) fun f Z1 μ1 H1 S1 _ g1 r1 a1 => ?_⟩
  cases f with
  | nx ρ1 => exact fun σ1 er1 => ⟨ρ1, S1, Z1, μ1, r1, er1, a1⟩
  | ret w => exact Aft.here (E := E) (P := PF G D) r1 a1
  | brk ρ1 => exact Aft.here (E := E) (P := PF G D) r1 a1
  | cnt ρ1 => exact Aft.here (E := E) (P := PF G D) r1 a1
theorem sm_cons (h1 : PS X st (tS G E m1)) (h2 : PSs X rest (tS G E m2)) : PSs X (st :: rest) (tS G E (mSeq m1 m2)) := (pss_cons h1 h2).weak fun D σ H h => seq_reads h
theorem sm_one (h1 : PS X st (tS G E m1)) : PSs X [st] (tS G E m1) := pss_one h1
theorem sm_pass : PS X (.Pass pos) (tS G E mSkip) := ps_pass.weak fun D σ H ⟨ρ, S, Z, μ, r, er, af⟩ => Aft.here (E := E) (P := PF G D) r af σ er
theorem sm_brk : PS X (.Break pos) (tS G E mBrk) := ps_break.weak fun D σ H ⟨ρ, S, Z, μ, r, er, af⟩ => Aft.here (E := E) (P := PF G D) r af σ er
theorem sm_cnt : PS X (.Continue pos) (tS G E mCnt) := ps_continue.weak fun D σ H ⟨ρ, S, Z, μ, r, er, af⟩ => Aft.here (E := E) (P := PF G D) r af σ er
theorem sm_do (h : PE X e (tM G E ma)) (hs : swapsWith e none pos.line X.env = pure false := by rfl) : PS X (.Expr e pos) (tS G E (mDo ma)) := (ps_expr h hs).weak fun D σ H ⟨ρ, S, Z, μ, r, er, af⟩ =>
  ⟨ρ, S, Z, μ, r, er, Aft.imp (Aft.bind af) fun w Z1 μ1 H1 S1 _ g1 r1 a1 x hx => Aft.here (E := E) (P := PF G D) r1 a1 σ (er.mono r g1)⟩
theorem sm_ret (h : PE X e (tM G E ma)) : PS X (.Return (some e) pos) (tS G E (mRet ma)) := (ps_ret h).weak fun D σ H ⟨ρ, S, Z, μ, r, er, af⟩ =>
  ⟨ρ, S, Z, μ, r, er, Aft.imp (Aft.bind af) fun w Z1 μ1 H1 S1 _ g1 r1 a1 x hx => Aft.here (E := E) (P := PF G D) r1 a1 x hx⟩
theorem sm_retN : PS X (.Return none pos) (tS G E mRetN) := ps_retN.weak fun D σ H ⟨ρ, S, Z, μ, r, er, af⟩ => Aft.here (E := E) (P := PF G D) r af .non (vr_non _ _ _)
theorem sm_if {c : Expr} {a b : List Stmt} (hc : PT X c (tMT G E mt)) (ha : PSs X a (tS G E m1)) (hb : PSs X b (tS G E m2)) : PS X (.If c a b pos) (tS G E (mCond mt m1 m2)) := (ps_if hc ha hb).weak fun D σ H ⟨ρ, S, Z, μ, r, er, af⟩ =>
  ⟨ρ, S, Z, μ, r, er, Aft.imp (Aft.bind af) fun k Z1 μ1 H1 S1 _ g1 r1 a1 => by
    cases k with
    | true => exact ⟨ρ, S1, Z1, μ1, r1, er.mono r g1, a1⟩
    | false => exact ⟨ρ, S1, Z1, μ1, r1, er.mono r g1, a1⟩⟩
theorem set_reads {i : Nat} {D : Ends} {σ : St} {H : Hp} (h : tS G E (mSet i ma) D σ H) : tAsg (tM G E ma) (gName i) D σ H := by
  obtain ⟨ρ, S, Z, μ, r, er, af⟩ := h
  exact ⟨ρ, S, Z, μ, r, er, Aft.imp (Aft.bind af) fun w Z1 μ1 H1 S1 _ g1 r1 a1 x hx => Aft.here (E := E) (P := PF G D) r1 a1 _ ((er.mono r g1).set hx i)⟩
theorem sm_set {i : Nat} {x : Str} {pos' : Pos} (h : PE X e (tM G E ma)) (hN : X.N.Nodup) (hi : X.N[i]? = some x := by rfl) (hx : Loc X.env.scope x := by first | exact Or.inl rfl | exact Or.inr rfl) (hs : swapsWith e (some (.Name x pos')) pos.line X.env = pure false := by rfl) (hf : X.fn x = true ∨ X.env.scope.names.lookup x = some .local := by first | exact .inl rfl | exact .inr rfl | assumption) :
    PS X (.Assign [.Name x pos'] e pos) (tS G E (mSet i ma)) := (ps_set hN hi hx h hs hf).weak fun D σ H h => set_reads h
theorem asg_reads {g : TG} {t : MG} {is : List Nat} (hg : GM G is g t) {D : Ends} {σ : St} {H : Hp} (h : tS G E (mAsg t ma) D σ H) : tAsg (tM G E ma) g D σ H := by
  obtain ⟨ρ, S, Z, μ, r, er, af⟩ := h
  refine ⟨ρ, S, Z, μ, r, er, Aft.imp (Aft.bind af) fun w Z1 μ1 H1 S1 _ g1 r1 a1 x hx => ?_⟩
  cases e1 : t w ρ with
  | none => rw [e1] at a1; exact a1.elim
  | some ρ1 =>
    rw [e1] at a1
    exact hg w ρ ρ1 x σ Z1 μ1 H1 S1 _ r1 hx (er.mono r g1) e1 fun σ2 er2 _ => Aft.here (E := E) (P := PF G D) r1 a1 σ2 er2
theorem sm_asg {tg : Expr} {g : TG} {t : MG} {is : List Nat} (hg : GM G is g t) (he : PE X e (tM G E ma)) (hp : PG X tg g) (hs : swapsWithSole [tg] e pos.line X.env = pure false := by rfl) (hw : swappedStores [tg] e X.env = pure none := by rfl)
    (h1 : (assignEach [tg] X.env).map (·.2) = [assign tg X.env] := by rfl) : PS X (.Assign [tg] e pos) (tS G E (mAsg t ma)) := (ps_asg he hp hs hw h1).weak fun D σ H h => asg_reads hg h
theorem gm_name {i : Nat} : GM G [i] (gName i) (tgN i) := fun w ρ ρ1 x σ Z μ H S Q r hx er e q => by
  cases e
  exact q _ (er.set hx i) fun vs h => wipe_set (h i (by simp))
/-- several names -/
def gAll : List Nat → TGs
  | [] => gNil
  | i :: is => gCons (gName i) (gAll is)
theorem gm_all {Z : Addr → Prop} {μ : List Addr} {H : Hp} {Q : St → Hp → Prop} : ∀ (is : List Nat) (ws : List W) (vs : List V) (ρ ρ1 : Env') (σ : St), VRs G Z μ H ws vs → ER G Z μ H ρ σ → setAll is ws ρ = some ρ1 → (∀ σ2, ER G Z μ H ρ1 σ2 → (∀ vs : List Nat, (∀ i ∈ is, i ∈ vs) → wipe σ2 vs = wipe σ vs) → Q σ2 H) → gAll is vs σ H Q
  | [], [], vs, ρ, ρ1, σ, hv, er, e, q => by
    unfold VRs at hv
    unfold setAll at e
    cases e
    exact ⟨hv, q _ er fun _ _ => rfl⟩
  | i :: is, w :: ws, vs, ρ, ρ1, σ, hv, er, e, q => by
    unfold VRs at hv
    obtain ⟨v, r, rfl, h1, h2⟩ := hv
    unfold setAll at e
    exact ⟨v, r, rfl, gm_all is ws r _ ρ1 _ h2 (er.set h1 i) e fun σ2 er2 hw => q σ2 er2 fun vs h => (hw vs fun j hj => h j (List.mem_cons_of_mem _ hj)).trans (wipe_set (h i (by simp)))⟩
  | [], _ :: _, _, _, _, _, _, _, e, _ => by unfold setAll at e; cases e
  | _ :: _, [], _, _, _, _, _, _, e, _ => by unfold setAll at e; cases e
theorem setAll_len : ∀ (is : List Nat) (ws : List W) (ρ ρ1 : Env'), setAll is ws ρ = some ρ1 → ws.length = is.length
  | [], [], _, _, _ => rfl
  | i :: is, w :: ws, ρ, ρ1, e => by unfold setAll at e; simp [setAll_len is ws _ ρ1 e]
  | [], _ :: _, _, _, e => by unfold setAll at e; cases e
  | _ :: _, [], _, _, e => by unfold setAll at e; cases e
theorem gm_tup {K : PySem.W.Frag} {is : List Nat} {n : Nat} (hn : n = is.length) : GM G is (gTup K n (gAll is)) (tgT is) := fun w ρ ρ1 x σ Z μ H S Q r hx er e q => by
  cases w with
  | tup ws =>
    unfold VR at hx
    obtain ⟨a, vs, rfl, h1, h2⟩ := hx
    have hl := setAll_len is ws ρ ρ1 e
    exact ⟨a, vs, rfl, h1.sq, by rw [h2.length, hl, hn], gm_all is ws vs ρ ρ1 σ h2 er e q⟩
  | itm ws =>
    unfold VR at hx
    obtain ⟨a, vs, rfl, h1, h2⟩ := hx
    have hl := setAll_len is ws ρ ρ1 e
    exact ⟨a, vs, rfl, .inl (.inl h1), by rw [h2.length, hl, hn], gm_all is ws vs ρ ρ1 σ h2 er e q⟩
  | _ => unfold tgT at e; cases e
/-- raise X('..') -/
theorem sm_raise {W' : WX} {C : Addr} {c : Str} (hc : X.calm = true) (tk : Takes X W') (hW : ∀ cls d σ H, E cls d H → W' cls d σ H) (he : PMk X e (fun _ H Q => Q (.ref C) none H)) (gC : G.mg c = some (.ref C)) : PS X (.Raise (some e) none pos) (tS G E (mRaise c)) :=
  (ps_raise hc tk he).weak fun D σ H ⟨ρ, S, Z, μ, r, er, af⟩ => by
    obtain ⟨a, h1, h2⟩ := af Z μ H Grow.refl r
    rw [gC] at h1; cases h1
    exact hW _ _ _ _ h2
end

/-! ### equal values -/
mutual
def W.beq : W → W → Bool
  | .non, .non => true
  | .bl a, .bl b => a == b
  | .int a, .int b => decide (a = b)
  | .str a, .str b => decide (a = b)
  | .ty a, .ty b => decide (a = b)
  | .tup a, .tup b => beqs a b
  | .lst a, .lst b => beqs a b
  | .ref a, .ref b => decide (a = b)
  | .glob a, .glob b => decide (a = b)
  | .exc a, .exc b => decide (a = b)
  | .clo a x, .clo b y => decide (a = b) && beqs x y
  | .scr a, .scr b => decide (a = b)
  | .ed, .ed => true
  | .itm a, .itm b => beqs a b
  | _, _ => false
def beqs : List W → List W → Bool
  | [], [] => true
  | a :: as, b :: bs => W.beq a b && beqs as bs
  | _, _ => false
end
mutual
theorem W.beq_eq : ∀ {a b : W}, W.beq a b = true → a = b
  | .non, b, h => by cases b <;> first | rfl | (unfold W.beq at h; cases h)
  | .bl a, b, h => by cases b <;> first | (unfold W.beq at h; rw [eq_of_beq h]) | (unfold W.beq at h; cases h)
  | .int a, b, h => by cases b <;> first | (unfold W.beq at h; rw [of_decide_eq_true h]) | (unfold W.beq at h; cases h)
  | .str a, b, h => by cases b <;> first | (unfold W.beq at h; rw [of_decide_eq_true h]) | (unfold W.beq at h; cases h)
  | .ty a, b, h => by cases b <;> first | (unfold W.beq at h; rw [of_decide_eq_true h]) | (unfold W.beq at h; cases h)
  | .tup a, b, h => by cases b <;> first | (unfold W.beq at h; rw [beqs_eq h]) | (unfold W.beq at h; cases h)
  | .lst a, b, h => by cases b <;> first | (unfold W.beq at h; rw [beqs_eq h]) | (unfold W.beq at h; cases h)
  | .ref a, b, h => by cases b <;> first | (unfold W.beq at h; rw [of_decide_eq_true h]) | (unfold W.beq at h; cases h)
  | .glob a, b, h => by cases b <;> first | (unfold W.beq at h; rw [of_decide_eq_true h]) | (unfold W.beq at h; cases h)
  | .exc a, b, h => by cases b <;> first | (unfold W.beq at h; rw [of_decide_eq_true h]) | (unfold W.beq at h; cases h)
  | .clo a x, b, h => by cases b <;> first | (unfold W.beq at h; have h' := Bool.and_eq_true_iff.mp h; rw [of_decide_eq_true h'.1, beqs_eq h'.2]) | (unfold W.beq at h; cases h)
  | .scr a, b, h => by cases b <;> first | (unfold W.beq at h; rw [of_decide_eq_true h]) | (unfold W.beq at h; cases h)
  | .ed, b, h => by cases b <;> first | rfl | (unfold W.beq at h; cases h)
  | .itm a, b, h => by cases b <;> first | (unfold W.beq at h; rw [beqs_eq h]) | (unfold W.beq at h; cases h)
theorem beqs_eq : ∀ {a b : List W}, beqs a b = true → a = b
  | [], b, h => by
    cases b with
    | nil => rfl
    | cons _ _ => unfold beqs at h; cases h
  | a :: as, b, h => by
    cases b with
    | nil => unfold beqs at h; cases h
    | cons b bs =>
      unfold beqs at h
      have h' := Bool.and_eq_true_iff.mp h
      rw [W.beq_eq h'.1, beqs_eq h'.2]
end
/-! ### what is walked: the items; a place of the store that is to stay as it is while they are -/
structure Its' where
  ws : List W
  at_ : Option Nat
abbrev MI := Env' → Sto → R Its'
def Its'.stays (J : Its') (S : Sto) : Bool := match J.at_ with
  | none => true
  | some n => match S[n]? with
    | some (.lst us) => beqs us J.ws
    | _ => false
structure ItM (G : Glo) (Z0 : Addr → Prop) (μ0 : List Addr) (H0 : Hp) (wi : Its') (J : It) : Prop where
  go : ∀ (Z : Addr → Prop) (μ : List Addr) (H : Hp) (S : Sto), Grow Z0 μ0 H0 Z μ H → Rel G Z μ H S → wi.stays S = true → ∀ (i : Nat) (w : W), wi.ws[i]? = some w → J.go i H ∧ ∀ x H', J.yld i H x H' → (∀ a o, H a = some o → H' a = some o) ∧ VR G Z μ H' w x
  stop : ∀ (Z : Addr → Prop) (μ : List Addr) (H : Hp) (S : Sto), Grow Z0 μ0 H0 Z μ H → Rel G Z μ H S → wi.stays S = true → J.stop wi.ws.length H
def PI' (G : Glo) (Rk : It → Hp → Prop) : Its' → (Addr → Prop) → List Addr → Hp → Sto → Prop := fun ws Z μ H _ => ∀ J, ItM G Z μ H ws J → Rk J H
def tI (G : Glo) (E : XK) (m : MI) : TI := fun σ H Rk => ∃ ρ S Z μ, Rel G Z μ H S ∧ ER G Z μ H ρ σ ∧ Aft G E Z μ H (m ρ S) (PI' G Rk)
theorem _root_.L2.PI.weak {X : Cx} {tg e : Expr} {t t' : TI} (h : PI X tg e t) (w : ∀ σ H Q, t' σ H Q → t σ H Q) : PI X tg e t' := ⟨fun pins s σ H Q I q => h.run pins s σ H Q I (w _ _ _ q)⟩
/-- the items of a tuple, of a frozen list -/
def mItV (a : ME) : MI := fun ρ S => (a ρ S).bind fun w S1 => match w with
  | .tup ws => .ok ⟨ws, none⟩ S1
  | .lst ws => .ok ⟨ws, none⟩ S1
  | .ref n => (match S1[n]? with
    | some (.lst ws) => .ok ⟨ws, some n⟩ S1
    | _ => .stuck)
  | _ => .stuck
/-- the script's items -/
def mItS (a : ME) : MI := fun ρ S => (a ρ S).bind fun w S1 => match w with
  | .scr ns => .ok ⟨ns.map .int, none⟩ S1
  | _ => .stuck
def rangeW (lo : Int) : Nat → List W
  | 0 => []
  | n + 1 => .int lo :: rangeW (lo + 1) n
def mRng1 (r : MA) : MI := fun ρ S => (r ρ S).bind fun ws S1 => match ws with
  | [.int j] => if j < 100000 ∧ -100000 < j then .ok ⟨rangeW 0 j.toNat, none⟩ S1 else .stuck
  | _ => .stuck
def mRng2 (r : MA) : MI := fun ρ S => (r ρ S).bind fun ws S1 => match ws with
  | [.int i, .int j] => if j < 100000 ∧ -100000 < j ∧ i < 100000 ∧ -100000 < i then .ok ⟨rangeW i (j - i).toNat, none⟩ S1 else .stuck
  | _ => .stuck
theorem rangeW_get : ∀ (n : Nat) (lo : Int) (i : Nat) (w : W), (rangeW lo n)[i]? = some w → w = .int (lo + i) ∧ i < n
  | 0, _, _, _, e => by simp [rangeW] at e
  | n + 1, lo, 0, w, e => by simp [rangeW] at e; subst e; simp
  | n + 1, lo, i + 1, w, e => by
    have e' : (rangeW (lo + 1) n)[i]? = some w := by simpa [rangeW] using e
    obtain ⟨h1, h2⟩ := rangeW_get n (lo + 1) i w e'
    refine ⟨by rw [h1]; congr 1; push_cast; omega, by omega⟩
theorem rangeW_len : ∀ (n : Nat) (lo : Int), (rangeW lo n).length = n
  | 0, _ => rfl
  | n + 1, lo => by simp [rangeW, rangeW_len n]
def iLT (K : PySem.W.Frag) (tl : TE) : TI := fun σ H R => tl σ H fun x H1 => (∃ a, x = .ref a ∧ (∃ xs, SqL K H1 a xs) ∧ R (Itl K a) H1) ∨ (∃ a, x = .ref a ∧ (∃ xs, SqT K H1 a xs) ∧ R (Itt K a) H1)
theorem pi_lt {X : Cx} {tg l : Expr} {tl : TE} (hl : PE X l tl) : PI X tg l (iLT X.K tl) := by
  refine ⟨fun pins s σ H R I h => ?_⟩
  refine thn (hl.run pins s σ H _ I h) fun v s1 ⟨x, H1, I1, r1, q1⟩ => ?_
  rcases q1 with ⟨a, e, hx, q⟩ | ⟨a, e, hx, q⟩
  · have pc : PE { X with } l (fun σ' H' Q' => σ' = σ ∧ H' = H1 ∧ True) → True := fun _ => trivial
    subst e
    cases r1
    obtain ⟨xs, hq⟩ := hx
    obtain ⟨its, rv, p, hz⟩ := I1.list hq
    refine wpAny_pyIter_list p.isList ?_
    refine ⟨s1.heap.objs.size, [s1.heap.objs.size], _, _, H1, rfl, I1.kept (t' := s1.toks) fun b o e => Heap.get?_push_of_some _ e, turn_list a _, ⟨_, Heap.get?_push_size _ rfl, rfl, rfl⟩, fun b hb => ?_, q⟩
    have e : b = s1.heap.objs.size := by simpa using hb
    subst e
    exact I1.fpOk (Nat.le_refl _) (I1.hok.fresh (Nat.le_refl _))
  · subst e
    cases r1
    obtain ⟨xs, hq⟩ := hx
    obtain ⟨its, rv, p, hz⟩ := I1.tuple hq
    refine wpAny_pyIter_tuple (show s1.heap.IsTuple a its.toArray from p) ?_
    refine ⟨s1.heap.objs.size, [s1.heap.objs.size], _, _, H1, rfl, I1.kept (t' := s1.toks) fun b o e => Heap.get?_push_of_some _ e, turn_tuple a _, ⟨_, Heap.get?_push_size _ rfl, rfl, rfl⟩, fun b hb => ?_, q⟩
    have e : b = s1.heap.objs.size := by simpa using hb
    subst e
    exact I1.fpOk (Nat.le_refl _) (I1.hok.fresh (Nat.le_refl _))
section
variable {X : Cx} {G : Glo} {E : XK} {e tg : Expr} {es : List Expr} {ma : ME} {mr : MA} {pos p : Pos} {Z : Addr → Prop} {μ : List Addr} {H : Hp} {S : Sto} {ws : List W} {vs : List V} {a : Addr} {K : PySem.W.Frag}
theorem rd_inj {u u' : List V} (h : Rd H a (.lst u)) (h' : Rd H a (.lst u')) : u = u' := by
  rcases h with h | ⟨o, h⟩ <;> rcases h' with h' | ⟨o', h'⟩ <;> rw [h] at h' <;> cases h' <;> rfl
theorem itm_tup (r : Rel G Z μ H S) (ha : XT H a vs) (k : VRs G Z μ H ws vs) : ItM G Z μ H ⟨ws, none⟩ (Itt K a) where
  go := fun Z' μ' H' S' g r' _ i w hw => by
    have h' := ha.keep (g.still r a)
    obtain ⟨v, h1, h2⟩ := (VRs.mono r g k).get hw
    refine ⟨⟨vs, v, h'.sq, h1⟩, fun x H2 y => ?_⟩
    obtain ⟨rfl, y⟩ := y
    refine ⟨fun _ _ q => q, ?_⟩
    have := y vs h'.sq
    rw [h1] at this; cases this
    exact h2
  stop := fun Z' μ' H' S' g r' _ => ⟨vs, (ha.keep (g.still r a)).sq, Nat.le_of_eq k.length⟩
theorem itm_range {lo : Int} {n : Nat} : ItM G Z μ H ⟨rangeW lo n, none⟩ (Itr lo n) where
  go := fun Z' μ' H' S' g r' _ i w hw => by
    obtain ⟨h1, h2⟩ := rangeW_get n lo i w hw
    refine ⟨h2, fun x H2 y => ?_⟩
    obtain ⟨rfl, rfl⟩ := y
    exact ⟨fun _ _ q => q, by rw [h1]; exact vr_int _ _ _⟩
  stop := fun Z' μ' H' S' g r' _ => by
    show n ≤ (rangeW lo n).length
    rw [rangeW_len]
    exact Nat.le_refl _
theorem im_val (h : PE X e (tM G E ma)) : PI X tg e (tI G E (mItV ma)) := (pi_lt h).weak fun σ H Q ⟨ρ, S, Z, μ, r, er, af⟩ =>
  ⟨ρ, S, Z, μ, r, er, Aft.imp (Aft.bind af) fun w Z1 μ1 H1 S1 _ g1 r1 a1 x hx => by
    cases w with
    | tup ws =>
      unfold VR at hx
      obtain ⟨a, vs, rfl, h1, h2⟩ := hx
      exact .inr ⟨a, rfl, ⟨vs, h1.sq⟩, Aft.here (E := E) (P := PI' G Q) r1 a1 _ (itm_tup r1 h1 h2)⟩
    | lst ws =>
      unfold VR at hx
      obtain ⟨a, vs, rfl, h1, hz, h2⟩ := hx
      have h1 : Rd H1 a (.lst vs) := .inl h1
      refine .inl ⟨a, rfl, ⟨vs, .inl h1⟩, Aft.here (E := E) (P := PI' G Q) r1 a1 _ ⟨?_, ?_⟩⟩
      · intro Z' μ' H' S' g r' _ i w hw
        have h' := g.rd r1 hz h1
        obtain ⟨v, q1, q2⟩ := (VRs.mono r1 g h2).get hw
        refine ⟨⟨vs, v, .inl h', q1⟩, fun x H2 y => ?_⟩
        obtain ⟨rfl, y⟩ := y
        refine ⟨fun _ _ q => q, ?_⟩
        have := y vs (.inl h')
        rw [q1] at this; cases this
        exact q2
      · exact fun Z' μ' H' S' g r' _ => ⟨vs, .inl (g.rd r1 hz h1), Nat.le_of_eq h2.length⟩
    | ref n =>
      dsimp only at a1
      cases e1 : S1[n]? with
      | none => rw [e1] at a1; exact a1.elim
      | some o =>
        rw [e1] at a1
        cases o with
        | dict _ => exact a1.elim
        | ins _ _ => exact a1.elim
        | gone => exact a1.elim
        | lst ws =>
          obtain ⟨a, vs, rfl, q1, q2, q3⟩ := r1.lst hx e1
          have look : ∀ {Z' : Addr → Prop} {μ' : List Addr} {H' : Hp} {S' : Sto}, Grow Z1 μ1 H1 Z' μ' H' → Rel G Z' μ' H' S' → (Its'.stays ⟨ws, some n⟩ S') = true → ∃ us, H' a = some (.lst us) ∧ VRs G Z' μ' H' ws us := fun {Z' μ' H' S'} g r' st => by
            unfold Its'.stays at st
            dsimp only at st
            split at st
            · rename_i us hs
              rw [beqs_eq st] at hs
              exact r'.ob n a _ (g.get q1) hs
            · cases st
          refine .inl ⟨a, rfl, ⟨vs, .inl (.inl q2)⟩, Aft.here (E := E) (P := PI' G Q) r1 a1 _ ⟨?_, ?_⟩⟩
          · intro Z' μ' H' S' g r' st i w hw
            obtain ⟨us, h1, h2⟩ := look g r' st
            obtain ⟨v, k1, k2⟩ := h2.get hw
            refine ⟨⟨us, v, .inl (.inl h1), k1⟩, fun x H2 y => ?_⟩
            obtain ⟨rfl, y⟩ := y
            refine ⟨fun _ _ q => q, ?_⟩
            have := y us (.inl (.inl h1))
            rw [k1] at this; cases this
            exact k2
          · intro Z' μ' H' S' g r' st
            obtain ⟨us, h1, h2⟩ := look g r' st
            exact ⟨us, .inl (.inl h1), Nat.le_of_eq h2.length⟩
    | _ => exact a1.elim⟩
theorem im_rng1 (hg : Gl X "range") (hm : X.mg "range" = none) (ha : PA X [e] (tMA G E mr)) (hs : starEach [e] X.env = [(false, eval e X.env)] := by rfl) : PI X tg (.Call (.Name "range" p) [e] [] pos) (tI G E (mRng1 mr)) :=
  (pi_range1 hg hm ha hs).weak fun σ H Q ⟨ρ, S, Z, μ, r, er, af⟩ => ⟨ρ, S, Z, μ, r, er, Aft.imp (Aft.bind af) fun ws Z1 μ1 H1 S1 _ g1 r1 a1 vs hvs => by
    split at a1
    · rename_i j
      split at a1
      · rename_i hj
        unfold VRs at hvs
        obtain ⟨v, q, rfl, h1, h2⟩ := hvs
        unfold VR at h1; unfold VRs at h2
        subst h1 h2
        exact ⟨_, rfl, by omega, by omega, Aft.here (E := E) (P := PI' G Q) r1 a1 _ itm_range⟩
      · exact a1.elim
    · exact a1.elim⟩
theorem im_rng2 {b : Expr} (hg : Gl X "range") (hm : X.mg "range" = none) (ha : PA X [e, b] (tMA G E mr)) (hs : starEach [e, b] X.env = [(false, eval e X.env), (false, eval b X.env)] := by rfl) (hs2 : starEach [b] X.env = [(false, eval b X.env)] := by rfl) : PI X tg (.Call (.Name "range" p) [e, b] [] pos) (tI G E (mRng2 mr)) :=
  (pi_range2 hg hm ha hs hs2).weak fun σ H Q ⟨ρ, S, Z, μ, r, er, af⟩ => ⟨ρ, S, Z, μ, r, er, Aft.imp (Aft.bind af) fun ws Z1 μ1 H1 S1 _ g1 r1 a1 vs hvs => by
    split at a1
    · rename_i i j
      split at a1
      · rename_i hj
        unfold VRs at hvs
        obtain ⟨v, q, rfl, h1, h2⟩ := hvs
        unfold VRs at h2
        obtain ⟨v2, q2, rfl, h3, h4⟩ := h2
        unfold VR at h1 h3; unfold VRs at h4
        subst h1 h3 h4
        exact ⟨_, _, rfl, ⟨by omega, by omega, by omega, by omega⟩, Aft.here (E := E) (P := PI' G Q) r1 a1 _ itm_range⟩
      · exact a1.elim
    · exact a1.elim⟩
end

/-! ### for -/
def forGo (g : MG) (body : MS) (wi : Its') : List W → Env' → Sto → R Fl
  | [], ρ, S => if wi.stays S then .ok (.nx ρ) S else .stuck
  | w :: ws, ρ, S => if wi.stays S then (match g w ρ with
    | none => .stuck
    | some ρ1 => (body ρ1 S).bind fun f S2 => match f with
      | .nx ρ2 => forGo g body wi ws ρ2 S2
      | .cnt ρ2 => forGo g body wi ws ρ2 S2
      | .brk ρ2 => .ok (.nx ρ2) S2
      | .ret w => .ok (.ret w) S2) else .stuck
def mFor (it : MI) (g : MG) (body : MS) : MS := fun ρ S => (it ρ S).bind fun wi S1 => forGo g body wi wi.ws ρ S1
section
variable {X : Cx} {G : Glo} {E : XK} {e tg iter : Expr} {body : List Stmt} {mi : MI} {mb : MS} {pos : Pos} {g : TG} {t : MG}
theorem for_reads {is : List Nat} (hg : GM G is g t) {D : Ends} {σ : St} {H : Hp} (h : tS G E (mFor mi t mb) D σ H) : tFor (tI G E mi) g (tS G E mb) D σ H := by
  obtain ⟨ρ, S, Z, μ, r, er, af⟩ := h
  refine ⟨ρ, S, Z, μ, r, er, Aft.imp (Aft.bind af) fun wi Z1 μ1 H1 S1 _ g1 r1 a1 J hJ => ?_⟩
  refine ⟨fun i m σ H => ∃ ρ S Z μ, Rel G Z μ H S ∧ ER G Z μ H ρ σ ∧ Grow Z1 μ1 H1 Z μ H ∧ i ≤ wi.ws.length ∧ m = wi.ws.length - i ∧ Aft G E Z μ H (forGo t mb wi (wi.ws.drop i) ρ S) (PF G D), ⟨wi.ws.length, ρ, S1, Z1, μ1, r1, er.mono r g1, Grow.refl, Nat.zero_le _, rfl, a1⟩, ?_⟩
  rintro i m σ H ⟨ρ2, S2, Z2, μ2, r2, er2, g2, hi, rfl, a2⟩
  by_cases hlt : i < wi.ws.length
  · rw [List.drop_eq_getElem_cons hlt] at a2
    have hw : wi.ws[i]? = some wi.ws[i] := List.getElem?_eq_getElem hlt
    unfold forGo at a2
    cases st : wi.stays S2 with
    | false => rw [st, if_neg Bool.false_ne_true] at a2; exact a2.elim
    | true =>
    rw [st, if_pos rfl] at a2
    obtain ⟨hgo, hy⟩ := hJ.go Z2 μ2 H S2 g2 r2 st i _ hw
    refine .inr ⟨hgo, fun σ' H' => ∃ ρ S Z μ, Rel G Z μ H' S ∧ ER G Z μ H' ρ σ' ∧ Grow Z1 μ1 H1 Z μ H' ∧ Aft G E Z μ H' (forGo t mb wi (wi.ws.drop (i + 1)) ρ S) (PF G D), ?_, ?_⟩
    · rintro σ' H' ⟨ρ3, S3, Z3, μ3, r3, er3, g3, a3⟩
      exact ⟨wi.ws.length - (i + 1), by omega, ρ3, S3, Z3, μ3, r3, er3, g3, hlt, rfl, a3⟩
    · intro x H' hyx
      obtain ⟨hk, hv⟩ := hy x H' hyx
      obtain ⟨r3, g3⟩ := r2.ext hk
      have a3 := Aft.mono r3 g3 a2
      have er3 := er2.mono r2 g3
      cases e1 : t wi.ws[i] ρ2 with
      | none => rw [e1] at a3; exact a3.elim
      | some ρ4 =>
        rw [e1] at a3
        refine hg _ ρ2 ρ4 x σ Z2 μ2 H' S2 _ r3 hv er3 e1 fun σ4 er4 _ => ?_
        refine ⟨ρ4, S2, Z2, μ2, r3, er4, Aft.imp (Aft.bind a3) fun f Z5 μ5 H5 S5 _ g5 r5 a5 => ?_⟩
        have g15 : Grow Z1 μ1 H1 Z5 μ5 H5 := Grow.trans r3 (Grow.trans r2 g2 g3) g5
        cases f with
        | nx ρ6 => exact fun σ6 er6 => ⟨ρ6, S5, Z5, μ5, r5, er6, g15, a5⟩
        | cnt ρ6 => exact fun σ6 er6 => ⟨ρ6, S5, Z5, μ5, r5, er6, g15, a5⟩
        | brk ρ6 => exact fun σ6 er6 => Aft.here (E := E) (P := PF G D) r5 a5 σ6 er6
        | ret w => exact fun v hv => Aft.here (E := E) (P := PF G D) r5 a5 v hv
  · have e : i = wi.ws.length := by omega
    subst e
    rw [List.drop_length] at a2
    unfold forGo at a2
    cases st : wi.stays S2 with
    | false => rw [st, if_neg Bool.false_ne_true] at a2; exact a2.elim
    | true =>
      rw [st, if_pos rfl] at a2
      exact .inl ⟨hJ.stop Z2 μ2 H S2 g2 r2 st, Aft.here (E := E) (P := PF G D) r2 a2 σ er2⟩
theorem sm_for {is : List Nat} (hg : GM G is g t) (hp : PassesOwn (model X.prog X.w) X.A X.env X.xe) (hc : X.calm = true) (hi : PI X tg iter (tI G E mi)) (hpg : PG X tg g) (hb : PSs X body (tS G E mb)) (hs : ∀ x, foldedSetIterable iter X.env x = pure x := by intro _; rfl) :
    PS X (.For tg iter body [] pos) (tS G E (mFor mi t mb)) := (ps_for hp hc hi hpg hb hs).weak fun D σ H h => for_reads hg h
end

/-! ### while -/
def whGo (c : MT) (body : MS) : Nat → Env' → Sto → R Fl
  | 0, _, _ => .stuck
  | n + 1, ρ, S => (c ρ S).bind fun b S1 => match b with
    | false => .ok (.nx ρ) S1
    | true => (body ρ S1).bind fun f S2 => match f with
      | .nx ρ2 => whGo c body n ρ2 S2
      | .cnt ρ2 => whGo c body n ρ2 S2
      | .brk ρ2 => .ok (.nx ρ2) S2
      | .ret w => .ok (.ret w) S2
def mWhile (n : Nat) (c : MT) (body : MS) : MS := whGo c body n
section
variable {X : Cx} {G : Glo} {E : XK} {e c : Expr} {body : List Stmt} {mt : MT} {mb : MS} {pos : Pos}
theorem while_reads {n : Nat} {D : Ends} {σ : St} {H : Hp} (h : tS G E (mWhile n mt mb) D σ H) : tWhile (tMT G E mt) (tS G E mb) D σ H := by
  refine ⟨fun m σ H => tS G E (whGo mt mb m) D σ H, ⟨n, h⟩, ?_⟩
  rintro m σ H ⟨ρ, S, Z, μ, r, er, af⟩
  cases m with
  | zero => exact af.elim
  | succ m =>
    refine ⟨ρ, S, Z, μ, r, er, Aft.imp (Aft.bind af) fun b Z1 μ1 H1 S1 _ g1 r1 a1 => ?_⟩
    have er1 := er.mono r g1
    cases b with
    | false =>
      unfold PB
      dsimp only
      rw [if_neg Bool.false_ne_true]
      exact Aft.here (E := E) (P := PF G D) r1 a1 σ er1
    | true =>
      unfold PB
      dsimp only
      rw [if_pos rfl]
      refine ⟨fun σ' H' => tS G E (whGo mt mb m) D σ' H', fun σ' H' q => ⟨m, Nat.lt_succ_self _, q⟩, ρ, S1, Z1, μ1, r1, er1, Aft.imp (Aft.bind a1) fun f Z2 μ2 H2 S2 _ g2 r2 a2 => ?_⟩
      cases f with
      | nx ρ6 => exact fun σ6 er6 => ⟨ρ6, S2, Z2, μ2, r2, er6, a2⟩
      | cnt ρ6 => exact fun σ6 er6 => ⟨ρ6, S2, Z2, μ2, r2, er6, a2⟩
      | brk ρ6 => exact fun σ6 er6 => Aft.here (E := E) (P := PF G D) r2 a2 σ6 er6
      | ret w => exact fun v hv => Aft.here (E := E) (P := PF G D) r2 a2 v hv
theorem sm_while {n : Nat} (hp : PassesOwn (model X.prog X.w) X.A X.env X.xe) (hc : PT X c (tMT G E mt)) (hb : PSs X body (tS G E mb)) : PS X (.While c body [] pos) (tS G E (mWhile n mt mb)) := (ps_while hp hc hb).weak fun D σ H h => while_reads h
end
end Mo

set_option Elab.async false
set_option linter.all false
set_option maxRecDepth 100000
set_option autoImplicit false
/-! Mon4: comprehensions, calls of defs, defs. -/
namespace Mo
open PySem PySem.Spec L2
open PyProof.Rows hiding St

section
variable {G : Glo} {Z Z' : Addr → Prop} {μ μ' : List Addr} {H H' : Hp} {S S' : Sto}
mutual
theorem VR.lessZ (hz : ∀ a, Z' a → Z a) : ∀ {w : W} {v : V}, VR G Z μ H w v → VR G Z' μ H w v
  | .non, _, h => h
  | .bl _, _, h => h
  | .int _, _, h => h
  | .str _, _, h => h
  | .ty _, _, h => h
  | .tup ws, v, h => by
    unfold VR at h ⊢
    obtain ⟨a, vs, e, ha, hs⟩ := h
    exact ⟨a, vs, e, ha, VRs.lessZ hz hs⟩
  | .itm ws, v, h => by
    unfold VR at h ⊢
    obtain ⟨a, vs, e, ha, hs⟩ := h
    exact ⟨a, vs, e, ha, VRs.lessZ hz hs⟩
  | .lst ws, v, h => by
    unfold VR at h ⊢
    obtain ⟨a, vs, e, ha, q, hs⟩ := h
    exact ⟨a, vs, e, ha, fun z => q (hz a z), VRs.lessZ hz hs⟩
  | .ed, v, h => by
    unfold VR at h ⊢
    obtain ⟨a, e, ha, q⟩ := h
    exact ⟨a, e, ha, fun z => q (hz a z)⟩
  | .scr ns, v, h => by
    unfold VR at h ⊢
    obtain ⟨a, e, h⟩ := h
    exact ⟨a, e, h.elim (fun h => .inl ⟨h.1, fun z => h.2 (hz a z)⟩) .inr⟩
  | .ref n, v, h => by unfold VR at h ⊢; exact h
  | .glob _, _, h => by unfold VR at h ⊢; exact h
  | .exc c, v, h => by unfold VR at h ⊢; exact h
  | .clo k cap, v, h => by
    unfold VR at h ⊢
    obtain ⟨a, vs, h1, h2, h3, h4⟩ := h
    exact ⟨a, vs, h1, h2, h3, VRs.lessZ hz h4⟩
theorem VRs.lessZ (hz : ∀ a, Z' a → Z a) : ∀ {ws : List W} {vs : List V}, VRs G Z μ H ws vs → VRs G Z' μ H ws vs
  | [], _, h => by unfold VRs at h ⊢; exact h
  | w :: ws, vs, h => by
    unfold VRs at h ⊢
    obtain ⟨v, q, e, h1, h2⟩ := h
    exact ⟨v, q, e, VR.lessZ hz h1, VRs.lessZ hz h2⟩
end
theorem KVR.lessZ (hz : ∀ a, Z' a → Z a) : ∀ {ws : List (Key × W)} {vs : List (Key × V)}, KVR G Z μ H ws vs → KVR G Z' μ H ws vs
  | [], _, h => by unfold KVR at h ⊢; exact h
  | (k, w) :: ws, vs, h => by
    unfold KVR at h ⊢
    obtain ⟨v, q, e, h1, h2⟩ := h
    exact ⟨v, q, e, VR.lessZ hz h1, KVR.lessZ hz h2⟩
theorem Rel.lessZ (r : Rel G Z μ H S) (hz : ∀ a, Z' a → Z a) (hm : ∀ a ∈ μ, Z' a) : Rel G Z' μ H S :=
  ⟨r.len, r.nd, hm, fun a h => r.zm a (hz a h), r.inv, fun n a o h1 h2 => by
    have := r.ob n a o h1 h2
    cases o with
    | lst ws => obtain ⟨vs, e, k⟩ := this; exact ⟨vs, e, VRs.lessZ hz k⟩
    | dict kvs => obtain ⟨vs, e, k⟩ := this; exact ⟨vs, e, KVR.lessZ hz k⟩
    | ins c fs => obtain ⟨C, dx, es, q1, q2, e, k⟩ := this; exact ⟨C, dx, es, q1, q2, e, VRs.lessZ hz k⟩
    | gone => exact True.intro⟩
/-- a foreign changing thing is written -/
structure Foreign (Z : Addr → Prop) (H : Hp) (D : Addr) : Prop where
  z : Z D
  m : ∃ o, H D = some o ∧ isMut o = true ∧ isTbl o = false
theorem Foreign.ne {D : Addr} (f : Foreign Z H D) {a : Addr} {o : HO} (h : H a = some o) (hm : isMut o = false) : a ≠ D := fun e => by
  obtain ⟨u, h1, h2, _⟩ := f.m
  rw [e, h1] at h; cases h; rw [hm] at h2; cases h2
mutual
theorem VR.foreign {D : Addr} {ho : HO} (f : Foreign Z H D) : ∀ {w : W} {v : V}, VR G Z μ H w v → VR G Z μ (upd H D ho) w v
  | .non, _, h => h
  | .bl _, _, h => h
  | .int _, _, h => h
  | .str _, _, h => h
  | .ty _, _, h => h
  | .tup ws, v, h => by
    unfold VR at h ⊢
    obtain ⟨a, vs, e, ha, hs⟩ := h
    exact ⟨a, vs, e, ha.keep fun ho h1 h2 => by rw [upd_ne (f.ne h1 h2)]; exact h1, VRs.foreign f hs⟩
  | .itm ws, v, h => by
    unfold VR at h ⊢
    obtain ⟨a, vs, e, ha, hs⟩ := h
    exact ⟨a, vs, e, by rw [upd_ne (f.ne ha rfl)]; exact ha, VRs.foreign f hs⟩
  | .lst ws, v, h => by
    unfold VR at h ⊢
    obtain ⟨a, vs, e, ha, q, hs⟩ := h
    have ne : a ≠ D := fun e => q (by rw [e]; exact f.z)
    exact ⟨a, vs, e, by rw [upd_ne ne]; exact ha, q, VRs.foreign f hs⟩
  | .ed, v, h => by
    unfold VR at h ⊢
    obtain ⟨a, e, ha, q⟩ := h
    have ne : a ≠ D := fun e => q (by rw [e]; exact f.z)
    exact ⟨a, e, by rw [upd_ne ne]; exact ha, q⟩
  | .scr ns, v, h => by
    unfold VR at h ⊢
    obtain ⟨a, e, h⟩ := h
    refine ⟨a, e, ?_⟩
    rcases h with ⟨h, q⟩ | h
    · have ne : a ≠ D := fun e => q (by rw [e]; exact f.z)
      refine .inl ⟨?_, q⟩
      rcases h with ha | ⟨o, ha⟩
      · exact .inl (by rw [upd_ne ne]; exact ha)
      · exact .inr ⟨o, by rw [upd_ne ne]; exact ha⟩
    · exact .inr h
  | .ref n, v, h => by unfold VR at h ⊢; exact h
  | .glob _, _, h => by unfold VR at h ⊢; exact h
  | .exc c, v, h => by
    unfold VR at h ⊢
    obtain ⟨a, h1, h2⟩ := h
    exact ⟨a, h1, G.exk _ _ _ _ (fun b o q hm => by rw [upd_ne (f.ne q hm)]; exact q) h2⟩
  | .clo k cap, v, h => by
    unfold VR at h ⊢
    obtain ⟨a, vs, h1, h2, h3, h4⟩ := h
    exact ⟨a, vs, h1, G.ctk _ _ _ _ (fun b o q hm => by rw [upd_ne (f.ne q hm)]; exact q) h2, h3, VRs.foreign f h4⟩
theorem VRs.foreign {D : Addr} {ho : HO} (f : Foreign Z H D) : ∀ {ws : List W} {vs : List V}, VRs G Z μ H ws vs → VRs G Z μ (upd H D ho) ws vs
  | [], _, h => by unfold VRs at h ⊢; exact h
  | w :: ws, vs, h => by
    unfold VRs at h ⊢
    obtain ⟨v, q, e, h1, h2⟩ := h
    exact ⟨v, q, e, VR.foreign f h1, VRs.foreign f h2⟩
end
theorem KVR.foreign {D : Addr} {ho : HO} (f : Foreign Z H D) : ∀ {ws : List (Key × W)} {vs : List (Key × V)}, KVR G Z μ H ws vs → KVR G Z μ (upd H D ho) ws vs
  | [], _, h => by unfold KVR at h ⊢; exact h
  | (k, w) :: ws, vs, h => by
    unfold KVR at h ⊢
    obtain ⟨v, q, e, h1, h2⟩ := h
    exact ⟨v, q, e, VR.foreign f h1, KVR.foreign f h2⟩
theorem Rel.foreign {D : Addr} {ho : HO} (r : Rel G Z μ H S) (f : Foreign Z H D) (hD : D ∉ μ) (hm : isMut ho = true ∧ isTbl ho = false) : Rel G Z μ (upd H D ho) S :=
  ⟨r.len, r.nd, r.mz, fun a h => by
    by_cases e : a = D
    · subst e; exact ⟨ho, upd_same, hm.1, hm.2⟩
    · rw [upd_ne e]; exact r.zm a h,
   G.invk _ _ (fun b u h hq => by
    have hb : b ≠ D := fun e => by
      obtain ⟨v, k1, k2, k3⟩ := f.m
      rw [e, k1] at h; cases h
      rcases hq with hq | hq
      · rw [hq] at k2; cases k2
      · rw [hq] at k3; cases k3
    rw [upd_ne hb]; exact h) r.inv,
   fun n a o h1 h2 => by
    have ne : a ≠ D := fun e => hD (by rw [← e]; exact List.mem_of_getElem? h1)
    have := r.ob n a o h1 h2
    cases o with
    | lst ws => obtain ⟨vs, e, k⟩ := this; exact ⟨vs, by rw [upd_ne ne]; exact e, VRs.foreign f k⟩
    | dict kvs => obtain ⟨vs, e, k⟩ := this; exact ⟨vs, by rw [upd_ne ne]; exact e, KVR.foreign f k⟩
    | ins c fs => obtain ⟨C, dx, es, q1, q2, e, k⟩ := this; exact ⟨C, dx, es, q1, q2, by rw [upd_ne ne]; exact e, VRs.foreign f k⟩
    | gone => exact True.intro⟩
theorem ER.foreign {D : Addr} {ho : HO} {ρ : Env'} {σ : St} (e : ER G Z μ H ρ σ) (f : Foreign Z H D) : ER G Z μ (upd H D ho) ρ σ :=
  ⟨e.len, fun i w h => let ⟨v, h1, h2⟩ := e.at_ i w h; ⟨v, h1, VR.foreign f h2⟩⟩
mutual
theorem VR.moreμ {e : List Addr} : ∀ {w : W} {v : V}, VR G Z μ H w v → VR G Z (μ ++ e) H w v
  | .non, _, h => h
  | .bl _, _, h => h
  | .int _, _, h => h
  | .str _, _, h => h
  | .ty _, _, h => h
  | .tup ws, v, h => by
    unfold VR at h ⊢
    obtain ⟨a, vs, e, ha, hs⟩ := h
    exact ⟨a, vs, e, ha, VRs.moreμ hs⟩
  | .itm ws, v, h => by
    unfold VR at h ⊢
    obtain ⟨a, vs, e, ha, hs⟩ := h
    exact ⟨a, vs, e, ha, VRs.moreμ hs⟩
  | .lst ws, v, h => by
    unfold VR at h ⊢
    obtain ⟨a, vs, e, ha, q, hs⟩ := h
    exact ⟨a, vs, e, ha, q, VRs.moreμ hs⟩
  | .ed, v, h => by unfold VR at h ⊢; exact h
  | .scr ns, v, h => by unfold VR at h ⊢; exact h
  | .ref n, v, h => by
    unfold VR at h ⊢
    obtain ⟨a, h1, h2⟩ := h
    exact ⟨a, by rw [List.getElem?_append_left (List.getElem?_eq_some_iff.mp h1).1]; exact h1, h2⟩
  | .glob _, _, h => by unfold VR at h ⊢; exact h
  | .exc c, v, h => by unfold VR at h ⊢; exact h
  | .clo k cap, v, h => by
    unfold VR at h ⊢
    obtain ⟨a, vs, h1, h2, h3, h4⟩ := h
    exact ⟨a, vs, h1, h2, h3, VRs.moreμ h4⟩
theorem VRs.moreμ {e : List Addr} : ∀ {ws : List W} {vs : List V}, VRs G Z μ H ws vs → VRs G Z (μ ++ e) H ws vs
  | [], _, h => by unfold VRs at h ⊢; exact h
  | w :: ws, vs, h => by
    unfold VRs at h ⊢
    obtain ⟨v, q, e, h1, h2⟩ := h
    exact ⟨v, q, e, VR.moreμ h1, VRs.moreμ h2⟩
end
theorem KVR.moreμ {e : List Addr} : ∀ {ws : List (Key × W)} {vs : List (Key × V)}, KVR G Z μ H ws vs → KVR G Z (μ ++ e) H ws vs
  | [], _, h => by unfold KVR at h ⊢; exact h
  | (k, w) :: ws, vs, h => by
    unfold KVR at h ⊢
    obtain ⟨v, q, e, h1, h2⟩ := h
    exact ⟨v, q, e, VR.moreμ h1, KVR.moreμ h2⟩
theorem Aft.of_ok {α : Type} {E : XK} {r : R α} {x : α} {P : α → (Addr → Prop) → List Addr → Hp → Sto → Prop} (e : r = .ok x S') (h : ∀ Z' μ' H', Grow Z μ H Z' μ' H' → Rel G Z' μ' H' S' → P x Z' μ' H' S') : Aft G E Z μ H r P := by
  rw [e]; exact h
end

/-! ### comprehensions -/
def wipeW (ρ : Env') : List Nat → Env'
  | [] => ρ
  | v :: vs => (wipeW ρ vs).set v none
def lcGo (g : MG) (t : MT) (m : ME) (ρ : Env') (wi : Its') : List W → Sto → R (List W)
  | [], S => if wi.stays S then .ok [] S else .stuck
  | w :: ws, S => if wi.stays S then (match g w ρ with
    | none => .stuck
    | some ρ1 => (t ρ1 S).bind fun b S1 => match b with
      | true => (m ρ1 S1).bind fun y S2 => (lcGo g t m ρ wi ws S2).bind fun ys S3 => .ok (y :: ys) S3
      | false => lcGo g t m ρ wi ws S1) else .stuck
def noErr {α : Type} (r : R α) : R α := match r with
  | .ok ys S2 => .ok ys S2
  | _ => .stuck
def mLcI (it : MI) (own : List Nat) (g : MG) (t : MT) (m : ME) : Env' → Sto → R (List W) := fun ρ S => (it ρ S).bind fun wi S1 => if wi.ws.length ≤ 100000 then noErr (lcGo g t m (wipeW ρ own) wi wi.ws S1) else .stuck
def mLc (it : MI) (own : List Nat) (g : MG) (t : MT) (m : ME) : ME := fun ρ S => (mLcI it own g t m ρ S).bind fun ys S2 => .ok (.lst ys) S2
def mLcN (it : MI) (own : List Nat) (g : MG) (t : MT) (m : ME) : ME := fun ρ S => (mLcI it own g t m ρ S).bind fun ys S2 => .ok (.ref S2.length) (S2 ++ [.lst ys])
def tYesM : MT := fun _ S => .ok true S
abbrev E0' : XK := fun _ _ _ => False
section
variable {X : Cx} {G : Glo} {E : XK} {e tg iter : Expr} {mi : MI} {mt : MT} {me : ME} {pos : Pos} {g : TG} {t : MG} {is own : List Nat} {Q : VK} {σ : St} {Z : Addr → Prop} {μ : List Addr} {H : Hp} {S : Sto}
theorem wipeW_len (ρ : Env') : ∀ vs : List Nat, (wipeW ρ vs).length = ρ.length
  | [] => rfl
  | v :: vs => by unfold wipeW; rw [List.length_set, wipeW_len ρ vs]
theorem ER.wipe {ρ : Env'} (e : ER G Z μ H ρ σ) : ∀ vs : List Nat, ER G Z μ H (wipeW ρ vs) (L2.wipe σ vs)
  | [] => e
  | v :: vs => by
    have ih := ER.wipe e vs
    unfold wipeW L2.wipe
    refine ⟨by simp [ih.len], fun i w h => ?_⟩
    by_cases hi : v = i
    · subst hi
      by_cases hl : v < (wipeW ρ vs).length
      · rw [List.getElem?_set_self hl] at h; cases h
      · rw [List.getElem?_eq_none (by simpa using hl)] at h; cases h
    · rw [List.getElem?_set_ne hi] at h
      obtain ⟨x, h1, h2⟩ := ih.at_ i w h
      exact ⟨x, by rw [List.getElem?_set_ne hi]; exact h1, h2⟩
/-- the loop of a comprehension: fin is what its end hands on -/
theorem lc_reads (hg : GM G is g t) (his : ∀ i ∈ is, i ∈ own) (fin : List W → Sto → R W) {m : ME} (hm : ∀ ρ S, m ρ S = (mLcI mi own t mt me ρ S).bind fin)
    (hfin : ∀ (Z1 : Addr → Prop) (μ1 : List Addr) (H1 : Hp) (ys : List W) (acc : List V) (D : Addr) (Z : Addr → Prop) (μ : List Addr) (H : Hp) (S : Sto), H1 D = none → (∀ a, Z1 a → ∃ o, H1 a = some o ∧ isMut o = true ∧ isTbl o = false) → Grow Z1 μ1 H1 Z μ H → Rel G Z μ H S → Z D → D ∉ μ → H D = some (.lst acc) → VRs G Z μ H ys acc →
      Aft G E Z1 μ1 H1 (fin ys S) (PQ G Q) → Q (.ref D) H)
    (h : tM G E m σ H Q) : tLc (tI G E mi) g (tMT G E0' mt) (tM G E0' me) own σ H Q := by
  obtain ⟨ρ, S, Z, μ, r, er, af⟩ := h
  rw [hm] at af
  unfold mLcI at af
  rw [R.bind_bind] at af
  refine ⟨ρ, S, Z, μ, r, er, Aft.imp (Aft.bind af) fun wi Z1 μ1 H1 S1 _ g1 r1 a1 J hJ D hD => ?_⟩
  by_cases hlen : wi.ws.length ≤ 100000
  case neg => rw [if_neg hlen] at a1; exact a1.elim
  rw [if_pos hlen] at a1
  cases e2 : lcGo t mt me (wipeW ρ own) wi wi.ws S1 with
  | err c S2 => rw [e2] at a1; exact a1.elim
  | stuck => rw [e2] at a1; exact a1.elim
  | ok yall Sf =>
    rw [e2] at a1
    have a1 : Aft G E Z1 μ1 H1 (fin yall Sf) (PQ G Q) := a1
    have er1 := er.mono r g1
    have nDm : D ∉ μ1 := fun z => r1.fresh hD (r1.mz D z)
    have g0 : Grow Z1 μ1 H1 (fun a => Z1 a ∨ a = D) μ1 (upd H1 D (.lst [])) := ⟨⟨[], by simp, fun a h => by simp at h⟩, fun a h => h.elim .inl fun e => .inr (by rw [e]; exact hD), fun _ h => .inl h, fun a u h _ _ => by rw [upd_ne (ne_of_none h hD)]; exact h, fun a u h => ⟨u, by rw [upd_ne (ne_of_none h hD)]; exact h⟩⟩
    have r0 : Rel G (fun a => Z1 a ∨ a = D) μ1 (upd H1 D (.lst [])) S1 := by
      refine ⟨r1.len, r1.nd, fun a h => .inl (r1.mz a h), fun a h => ?_, G.invk _ _ (fun b u h _ => by rw [upd_ne (ne_of_none h hD)]; exact h) r1.inv, fun n a u h1 h2 => ?_⟩
      · rcases h with h | h
        · obtain ⟨u, h1, h2⟩ := r1.zm a h
          exact ⟨u, by rw [upd_ne (ne_of_none h1 hD)]; exact h1, h2⟩
        · subst h; exact ⟨_, upd_same, rfl, rfl⟩
      · obtain ⟨u', hu⟩ := r1.some h1
        exact OR.mono r1 g0 (upd_ne (ne_of_none hu hD)) (r1.ob n a u h1 h2)
    refine ⟨fun i m H => ∃ S Z μ acc accW, Rel G Z μ H S ∧ Z D ∧ D ∉ μ ∧ H D = some (.lst acc) ∧ VRs G Z μ H accW acc ∧ ER G Z μ H (wipeW ρ own) (L2.wipe σ own) ∧ Grow Z1 μ1 H1 Z μ H ∧ i ≤ wi.ws.length ∧ m = wi.ws.length - i ∧ acc.length ≤ i ∧
        (lcGo t mt me (wipeW ρ own) wi (wi.ws.drop i) S).bind (fun ys S' => .ok (accW ++ ys) S') = .ok yall Sf, ⟨wi.ws.length, S1, _, μ1, [], [], r0, .inr rfl, nDm, upd_same, VRs.nil, (er1.wipe own).mono r1 g0, g0, Nat.zero_le _, rfl, Nat.le_refl _, ?_⟩, ?_⟩
    · rw [List.drop_zero, e2]; rfl
    rintro i m H2 ⟨S2, Z2, μ2, acc, accW, r2, zD, nD, hDa, hacc, er2, g2, hi, rfl, hal, eq⟩
    by_cases hlt : i < wi.ws.length
    · rw [List.drop_eq_getElem_cons hlt] at eq
      have hw : wi.ws[i]? = some wi.ws[i] := List.getElem?_eq_getElem hlt
      unfold lcGo at eq
      cases st : wi.stays S2 with
      | false => rw [st, if_neg Bool.false_ne_true] at eq; cases eq
      | true =>
      rw [st, if_pos rfl] at eq
      obtain ⟨hgo, hy⟩ := hJ.go Z2 μ2 H2 S2 g2 r2 st i _ hw
      refine .inr ⟨hgo, fun H' => ∃ S Z μ acc accW, Rel G Z μ H' S ∧ Z D ∧ D ∉ μ ∧ H' D = some (.lst acc) ∧ VRs G Z μ H' accW acc ∧ ER G Z μ H' (wipeW ρ own) (L2.wipe σ own) ∧ Grow Z1 μ1 H1 Z μ H' ∧ acc.length ≤ i + 1 ∧
        (lcGo t mt me (wipeW ρ own) wi (wi.ws.drop (i + 1)) S).bind (fun ys S' => .ok (accW ++ ys) S') = .ok yall Sf, ?_, ?_⟩
      · rintro H' ⟨S3, Z3, μ3, acc3, accW3, q1, q2, q3, q4, q5, q6, q7, q8, q9⟩
        exact ⟨wi.ws.length - (i + 1), by omega, S3, Z3, μ3, acc3, accW3, q1, q2, q3, q4, q5, q6, q7, hlt, rfl, q8, q9⟩
      · intro x H' hyx
        obtain ⟨hk, hv⟩ := hy x H' hyx
        obtain ⟨r3, g3⟩ := r2.ext hk
        have er3 := er2.mono r2 g3
        cases e3 : t wi.ws[i] (wipeW ρ own) with
        | none => rw [e3] at eq; cases eq
        | some ρ4 =>
          rw [e3] at eq
          simp only [R.bind_bind] at eq
          refine hg _ _ ρ4 x (L2.wipe σ own) Z2 μ2 H' S2 _ r3 hv er3 e3 fun σ4 er4 hwp => ⟨(hwp own his).trans wipe_wipe, ?_⟩
          refine ⟨ρ4, S2, Z2, μ2, r3, er4, ?_⟩
          cases e4 : mt ρ4 S2 with
          | err c S5 => rw [e4] at eq; cases eq
          | stuck => rw [e4] at eq; cases eq
          | ok b S5 =>
            rw [e4, R.bind_ok] at eq
            refine fun Z5 μ5 H5 g5 r5 => ?_
            have g25 := Grow.trans r3 (Grow.trans r2 g2 g3) g5
            have hD' : H' D = some (.lst acc) := hk _ _ hDa
            have hD5 : H5 D = some (.lst acc) := g5.keep _ _ hD' nD rfl
            have nD5 : D ∉ μ5 := by
              obtain ⟨e, rfl, fe⟩ := g5.mu
              intro z
              rcases List.mem_append.mp z with z | z
              · exact nD z
              · rw [fe D z] at hD'; cases hD'
            have zD5 : Z5 D := g5.zk D zD
            have hacc5 := (hacc.mono r2 g3).mono r3 g5
            have er5 := er3.mono r3 g5
            cases b with
            | false =>
              unfold PB
              dsimp only
              rw [if_neg Bool.false_ne_true]
              exact ⟨S5, Z5, μ5, acc, accW, r5, zD5, nD5, hD5, hacc5, er5, g25, by omega, eq⟩
            | true =>
              unfold PB
              dsimp only
              rw [if_pos rfl]
              refine ⟨ρ4, S5, Z5, μ5, r5, er4.mono r3 g5, ?_⟩
              cases e6 : me ρ4 S5 with
              | err c S6 => simp only [R.bind_bind, e6, R.bind_err] at eq; cases eq
              | stuck => simp only [R.bind_bind, e6, R.bind_stuck] at eq; cases eq
              | ok y S6 =>
                simp only [R.bind_bind, e6, R.bind_ok] at eq
                refine fun Z6 μ6 H6 g6 r6 v hvy => ?_
                have hD6 : H6 D = some (.lst acc) := g6.keep _ _ hD5 nD5 rfl
                have nD6 : D ∉ μ6 := by
                  obtain ⟨e, rfl, fe⟩ := g6.mu
                  intro z
                  rcases List.mem_append.mp z with z | z
                  · exact nD5 z
                  · rw [fe D z] at hD5; cases hD5
                have zD6 : Z6 D := g6.zk D zD5
                have fo : Foreign Z6 H6 D := ⟨zD6, _, hD6, rfl, rfl⟩
                have g26 := Grow.trans r5 g25 g6
                refine ⟨acc, hD6, Nat.lt_of_le_of_lt (Nat.le_trans hal (Nat.le_trans hi hlen)) (by decide), S6, Z6, μ6, acc ++ [v], accW ++ [y], r6.foreign fo nD6 ⟨rfl, rfl⟩, zD6, nD6, upd_same, VRs.foreign fo ((hacc5.mono r5 g6).append (VRs.cons hvy VRs.nil)), (er5.mono r5 g6).foreign fo, ?_, by simp; omega, ?_⟩
                · obtain ⟨k1, k2, k3, k4, k5⟩ := g26
                  exact ⟨k1, k2, k3, fun a o h hm ht => by rw [upd_ne (ne_of_none h hD)]; exact k4 a o h hm ht, fun a o h => let ⟨u, hu⟩ := k5 a o h; ⟨u, by rw [upd_ne (ne_of_none h hD)]; exact hu⟩⟩
                · rw [← eq]
                  congr 1
                  funext ys S3
                  rw [List.append_assoc]
                  rfl
    · have e : i = wi.ws.length := by omega
      subst e
      rw [List.drop_length] at eq
      unfold lcGo at eq
      cases st : wi.stays S2 with
      | false => rw [st, if_neg Bool.false_ne_true] at eq; cases eq
      | true =>
      rw [st, if_pos rfl] at eq
      have eq' : R.ok (accW ++ []) S2 = .ok yall Sf := eq
      rw [List.append_nil] at eq'
      injection eq' with q1 q2
      rw [← q1, ← q2] at a1
      exact .inl ⟨hJ.stop Z2 μ2 H2 S2 g2 r2 st, hfin Z1 μ1 H1 accW acc D Z2 μ2 H2 S2 hD r1.zm g2 r2 zD nD hDa hacc a1⟩
theorem lc_frozen (hg : GM G is g t) (his : ∀ i ∈ is, i ∈ own) (h : tM G E (mLc mi own t mt me) σ H Q) : tLc (tI G E mi) g (tMT G E0' mt) (tM G E0' me) own σ H Q := by
  refine lc_reads hg his (fun ys S2 => .ok (.lst ys) S2) (fun _ _ => rfl) (fun Z1 μ1 H1 ys acc D Z μ H S hD hz1 g r zD nD hDa hacc a1 => ?_) h
  have hz : ∀ a, (Z a ∧ a ≠ D) → Z a := fun a h => h.1
  have g' : Grow Z1 μ1 H1 (fun a => Z a ∧ a ≠ D) μ H := ⟨g.mu, fun a h => g.zz a h.1, fun a h => ⟨g.zk a h, fun e => by
    obtain ⟨o, h1, _⟩ := hz1 a h
    rw [e, hD] at h1; cases h1⟩, g.keep, g.th⟩
  refine a1 (fun a => Z a ∧ a ≠ D) μ H g' (r.lessZ hz fun a h => ⟨r.mz a h, fun e => nD (by rw [← e]; exact h)⟩) _ ?_
  unfold VR
  exact ⟨D, acc, rfl, hDa, fun h => h.2 rfl, VRs.lessZ hz hacc⟩
theorem lc_new (hg : GM G is g t) (his : ∀ i ∈ is, i ∈ own) (h : tM G E (mLcN mi own t mt me) σ H Q) : tLc (tI G E mi) g (tMT G E0' mt) (tM G E0' me) own σ H Q := by
  refine lc_reads hg his (fun ys S2 => .ok (.ref S2.length) (S2 ++ [O.lst ys])) (fun _ _ => rfl) (fun Z1 μ1 H1 ys acc D Z μ H S hD hz1 g r zD nD hDa hacc a1 => ?_) h
  have g0 : Grow Z μ H Z μ H := Grow.refl
  have vrm : ∀ {w : W} {v : V}, VR G Z μ H w v → VR G Z (μ ++ [D]) H w v := fun {w v} h => VR.moreμ h
  refine a1 Z (μ ++ [D]) H ⟨?_, g.zz, g.zk, g.keep, g.th⟩ ⟨by simp [r.len], ?_, fun a h => ?_, r.zm, r.inv, fun n a o h1 h2 => ?_⟩ _ ?_
  · obtain ⟨e, rfl, fe⟩ := g.mu
    exact ⟨e ++ [D], by simp, fun a h => by
      rcases List.mem_append.mp h with h | h
      · exact fe a h
      · simp at h; subst h; exact hD⟩
  · rw [List.nodup_append]
    exact ⟨r.nd, by simp, fun a ha b hb e => by simp at hb; rw [hb] at e; rw [e] at ha; exact nD ha⟩
  · rcases List.mem_append.mp h with h | h
    · exact r.mz a h
    · simp at h; subst h; exact zD
  · by_cases hn : n < μ.length
    · rw [List.getElem?_append_left hn] at h1
      rw [List.getElem?_append_left (by rw [← r.len]; exact hn)] at h2
      have := r.ob n a o h1 h2
      cases o with
      | lst ws => obtain ⟨vs, e, k⟩ := this; exact ⟨vs, e, VRs.moreμ k⟩
      | dict kvs => obtain ⟨vs, e, k⟩ := this; exact ⟨vs, e, KVR.moreμ k⟩
      | ins c fs => obtain ⟨C, dx, es, q1, q2, e, k⟩ := this; exact ⟨C, dx, es, q1, q2, e, VRs.moreμ k⟩
      | gone => exact True.intro
    · rw [List.getElem?_append_right (by omega)] at h1
      rw [List.getElem?_append_right (by rw [← r.len]; omega)] at h2
      have e1 : n - μ.length = 0 := by
        have := (List.getElem?_eq_some_iff.mp h1).1
        simp at this; omega
      rw [e1] at h1
      rw [← r.len, e1] at h2
      simp at h1 h2
      subst h1 h2
      exact ⟨acc, hDa, VRs.moreμ hacc⟩
  · unfold VR
    exact ⟨D, by rw [← r.len]; simp, rfl⟩
end
end Mo

set_option Elab.async false
set_option linter.all false
set_option maxRecDepth 100000
set_option autoImplicit false
/-! Mon5: comprehensions as expressions, calls of defs, defs. -/
namespace Mo
open PySem PySem.Spec L2
open PyProof.Rows hiding St

/-! ### comprehensions as expressions -/
section
variable {X : Cx} {G : Glo} {E : XK} {elt tg iter : Expr} {ifs : List Expr} {scope : Scope} {mi : MI} {mt : MT} {me : ME} {pos spos : Pos} {g : TG} {t : MG} {is : List Nat} {own : List (Str × Nat)}
theorem ptm_nil : PTs X [] (tMT G E tYesM) := by
  refine ⟨fun pins s σ H Q I h => pts_nil.run pins s σ H Q I ?_⟩
  obtain ⟨ρ, S, Z, μ, r, er, af⟩ := h
  exact Aft.here (E := E) (P := PB Q) r af
theorem em_lc (hg : GM G is g t) (his : ∀ i ∈ is, i ∈ own.map (·.2)) (hc : X.calm = true) (hN : X.N.Nodup) (hi : PI X tg iter (tI G E mi)) (ok : BlkOk X.N X.env.scope scope own)
    (hp : ∀ (s : Shared) (H : Hp) (C : Addr) (cl : List (Str × Addr)) (fp : List Addr), PG (X.blk s H scope (compEnvC scope cl C X.env) fp) tg g) (ht : ∀ (s : Shared) (H : Hp) (C : Addr) (cl : List (Str × Addr)) (fp : List Addr), PTs (X.blk s H scope (compEnvC scope cl C X.env) fp) ifs (tMT G E0' mt))
    (he : ∀ (s : Shared) (H : Hp) (C : Addr) (cl : List (Str × Addr)) (fp : List Addr), PE (X.blk s H scope (compEnvC scope cl C X.env) fp) elt (tM G E0' me)) (hs : ∀ x, foldedSetIterable iter X.env x = pure x := by intro _; rfl) :
    PE X (.ListComp elt [⟨tg, iter, ifs, 0⟩] scope pos) (tM G E (mLc mi (own.map (·.2)) t mt me)) := (pe_lc hc hN hi ok hp ht he hs).weak fun σ H Q h => lc_frozen hg his h
theorem em_lcN (hg : GM G is g t) (his : ∀ i ∈ is, i ∈ own.map (·.2)) (hc : X.calm = true) (hN : X.N.Nodup) (hi : PI X tg iter (tI G E mi)) (ok : BlkOk X.N X.env.scope scope own)
    (hp : ∀ (s : Shared) (H : Hp) (C : Addr) (cl : List (Str × Addr)) (fp : List Addr), PG (X.blk s H scope (compEnvC scope cl C X.env) fp) tg g) (ht : ∀ (s : Shared) (H : Hp) (C : Addr) (cl : List (Str × Addr)) (fp : List Addr), PTs (X.blk s H scope (compEnvC scope cl C X.env) fp) ifs (tMT G E0' mt))
    (he : ∀ (s : Shared) (H : Hp) (C : Addr) (cl : List (Str × Addr)) (fp : List Addr), PE (X.blk s H scope (compEnvC scope cl C X.env) fp) elt (tM G E0' me)) (hs : ∀ x, foldedSetIterable iter X.env x = pure x := by intro _; rfl) :
    PE X (.ListComp elt [⟨tg, iter, ifs, 0⟩] scope pos) (tM G E (mLcN mi (own.map (·.2)) t mt me)) := (pe_lc hc hN hi ok hp ht he hs).weak fun σ H Q h => lc_new hg his h
theorem setAny_reads {i : Nat} {ma : ME} {te : TE} {D : Ends} {σ : St} {H : Hp} (w : ∀ Q, tM G E ma σ H Q → te σ H Q) (h : tS G E (mSet i ma) D σ H) : tAsg te (gName i) D σ H := w _ (set_reads h)
theorem sm_setLc {i : Nat} {y : Str} {py : Pos} (hg : GM G is g t) (his : ∀ i ∈ is, i ∈ own.map (·.2)) (hc : X.calm = true) (hN : X.N.Nodup) (hy : X.N[i]? = some y) (hyl : X.env.scope.names.lookup y = some .local)
    (hsw : swapsWith (.ListComp elt [⟨tg, iter, ifs, 0⟩] scope pos) (some (.Name y py)) spos.line X.env = pure true) (hi : PI X tg iter (tI G E mi)) (ok : BlkOk X.N X.env.scope scope own)
    (hp : ∀ (s : Shared) (H : Hp) (C : Addr) (cl : List (Str × Addr)) (fp : List Addr), PG (X.blk s H scope (compEnvC scope cl C X.env) fp) tg g) (ht : ∀ (s : Shared) (H : Hp) (C : Addr) (cl : List (Str × Addr)) (fp : List Addr), PTs (X.blk s H scope (compEnvC scope cl C X.env) fp) ifs (tMT G E0' mt))
    (he : ∀ (s : Shared) (H : Hp) (C : Addr) (cl : List (Str × Addr)) (fp : List Addr), PE (X.blk s H scope (compEnvC scope cl C X.env) fp) elt (tM G E0' me)) (hs : ∀ x, foldedSetIterable iter X.env x = pure x := by intro _; rfl) :
    PS X (.Assign [.Name y py] (.ListComp elt [⟨tg, iter, ifs, 0⟩] scope pos) spos) (tS G E (mSet i (mLc mi (own.map (·.2)) t mt me))) := (ps_setLc hc hN hy hyl hsw hi ok hp ht he hs).weak fun D σ H h => setAny_reads (fun Q q => lc_frozen hg his q) h
theorem sm_setLcN {i : Nat} {y : Str} {py : Pos} (hg : GM G is g t) (his : ∀ i ∈ is, i ∈ own.map (·.2)) (hc : X.calm = true) (hN : X.N.Nodup) (hy : X.N[i]? = some y) (hyl : X.env.scope.names.lookup y = some .local)
    (hsw : swapsWith (.ListComp elt [⟨tg, iter, ifs, 0⟩] scope pos) (some (.Name y py)) spos.line X.env = pure true) (hi : PI X tg iter (tI G E mi)) (ok : BlkOk X.N X.env.scope scope own)
    (hp : ∀ (s : Shared) (H : Hp) (C : Addr) (cl : List (Str × Addr)) (fp : List Addr), PG (X.blk s H scope (compEnvC scope cl C X.env) fp) tg g) (ht : ∀ (s : Shared) (H : Hp) (C : Addr) (cl : List (Str × Addr)) (fp : List Addr), PTs (X.blk s H scope (compEnvC scope cl C X.env) fp) ifs (tMT G E0' mt))
    (he : ∀ (s : Shared) (H : Hp) (C : Addr) (cl : List (Str × Addr)) (fp : List Addr), PE (X.blk s H scope (compEnvC scope cl C X.env) fp) elt (tM G E0' me)) (hs : ∀ x, foldedSetIterable iter X.env x = pure x := by intro _; rfl) :
    PS X (.Assign [.Name y py] (.ListComp elt [⟨tg, iter, ifs, 0⟩] scope pos) spos) (tS G E (mSet i (mLcN mi (own.map (·.2)) t mt me))) := (ps_setLc hc hN hy hyl hsw hi ok hp ht he hs).weak fun D σ H h => setAny_reads (fun Q q => lc_new hg his q) h
end

/-! ### values without places in the store, without lists -/
mutual
def W.nr : W → Bool
  | .ref _ => false
  | .clo _ ws => nrs ws
  | .tup ws => nrs ws
  | .lst ws => nrs ws
  | .itm ws => nrs ws
  | _ => true
def nrs : List W → Bool
  | [] => true
  | w :: ws => w.nr && nrs ws
end
mutual
def W.nl : W → Bool
  | .ref _ => false
  | .clo _ ws => nls ws
  | .lst _ => false
  | .scr _ => false
  | .ed => false
  | .tup ws => nls ws
  | .itm ws => nls ws
  | _ => true
def nls : List W → Bool
  | [] => true
  | w :: ws => w.nl && nls ws
end
def mapO (f : W → Option W) : List W → Option (List W)
  | [] => some []
  | w :: ws => match f w with
    | none => none
    | some u => match mapO f ws with
      | none => none
      | some us => some (u :: us)
/-- the value with the lists of the store laid in -/
def fz (S : Sto) : Nat → W → Option W
  | 0, _ => none
  | k + 1, w => if w.nr then some w else match w with
    | .ref n => match S[n]? with
      | some (.lst ws) => (mapO (fz S k) ws).map .lst
      | _ => none
    | .tup ws => (mapO (fz S k) ws).map .tup
    | .lst ws => (mapO (fz S k) ws).map .lst
    | _ => none
section
variable {G : Glo} {Z Z' Zn : Addr → Prop} {μ μ' μn : List Addr} {H H' : Hp} {S S' : Sto}
mutual
theorem VR.nr (hz : ∀ a, Zn a → Z a) : ∀ {w : W} {v : V}, w.nr = true → VR G Z μ H w v → VR G Zn μn H w v
  | .non, _, _, h => h
  | .bl _, _, _, h => h
  | .int _, _, _, h => h
  | .str _, _, _, h => h
  | .ty _, _, _, h => h
  | .tup ws, v, n, h => by
    unfold VR at h ⊢
    obtain ⟨a, vs, e, ha, hs⟩ := h
    exact ⟨a, vs, e, ha, VRs.nr hz n hs⟩
  | .itm ws, v, n, h => by
    unfold VR at h ⊢
    obtain ⟨a, vs, e, ha, hs⟩ := h
    exact ⟨a, vs, e, ha, VRs.nr hz n hs⟩
  | .lst ws, v, n, h => by
    unfold VR at h ⊢
    obtain ⟨a, vs, e, ha, q, hs⟩ := h
    exact ⟨a, vs, e, ha, fun z => q (hz a z), VRs.nr hz n hs⟩
  | .ed, v, n, h => by
    unfold VR at h ⊢
    obtain ⟨a, e, ha, q⟩ := h
    exact ⟨a, e, ha, fun z => q (hz a z)⟩
  | .scr ns, v, n, h => by
    unfold VR at h ⊢
    obtain ⟨a, e, h⟩ := h
    exact ⟨a, e, h.elim (fun h => .inl ⟨h.1, fun z => h.2 (hz a z)⟩) .inr⟩
  | .ref n, v, k, h => by cases k
  | .glob _, _, _, h => by unfold VR at h ⊢; exact h
  | .exc c, v, _, h => by unfold VR at h ⊢; exact h
  | .clo k cap, v, n, h => by
    unfold VR at h ⊢
    obtain ⟨a, vs, h1, h2, h3, h4⟩ := h
    exact ⟨a, vs, h1, h2, h3, VRs.nr hz n h4⟩
theorem VRs.nr (hz : ∀ a, Zn a → Z a) : ∀ {ws : List W} {vs : List V}, nrs ws = true → VRs G Z μ H ws vs → VRs G Zn μn H ws vs
  | [], _, _, h => by unfold VRs at h ⊢; exact h
  | w :: ws, vs, n, h => by
    unfold VRs at h ⊢
    unfold nrs at n
    obtain ⟨v, q, e, h1, h2⟩ := h
    have n' := Bool.and_eq_true_iff.mp n
    exact ⟨v, q, e, VR.nr hz n'.1 h1, VRs.nr hz n'.2 h2⟩
end
mutual
theorem VR.nl : ∀ {w : W} {v : V}, w.nl = true → VR G Z μ H w v → VR G Zn μn H w v
  | .non, _, _, h => h
  | .bl _, _, _, h => h
  | .int _, _, _, h => h
  | .str _, _, _, h => h
  | .ty _, _, _, h => h
  | .tup ws, v, n, h => by
    unfold VR at h ⊢
    obtain ⟨a, vs, e, ha, hs⟩ := h
    exact ⟨a, vs, e, ha, VRs.nl n hs⟩
  | .itm ws, v, n, h => by
    unfold VR at h ⊢
    obtain ⟨a, vs, e, ha, hs⟩ := h
    exact ⟨a, vs, e, ha, VRs.nl n hs⟩
  | .lst ws, v, n, h => by cases n
  | .scr ws, v, n, h => by cases n
  | .ed, v, n, h => by cases n
  | .ref n, v, k, h => by cases k
  | .glob _, _, _, h => by unfold VR at h ⊢; exact h
  | .exc c, v, _, h => by unfold VR at h ⊢; exact h
  | .clo k cap, v, n, h => by
    unfold VR at h ⊢
    obtain ⟨a, vs, h1, h2, h3, h4⟩ := h
    exact ⟨a, vs, h1, h2, h3, VRs.nl n h4⟩
theorem VRs.nl : ∀ {ws : List W} {vs : List V}, nls ws = true → VRs G Z μ H ws vs → VRs G Zn μn H ws vs
  | [], _, _, h => by unfold VRs at h ⊢; exact h
  | w :: ws, vs, n, h => by
    unfold VRs at h ⊢
    unfold nls at n
    obtain ⟨v, q, e, h1, h2⟩ := h
    have n' := Bool.and_eq_true_iff.mp n
    exact ⟨v, q, e, VR.nl n'.1 h1, VRs.nl n'.2 h2⟩
end
theorem mapO_vr {f : W → Option W} (hf : ∀ w u v, f w = some u → VR G Z μ H w v → VR G Zn μn H u v) : ∀ {ws us : List W} {vs : List V}, mapO f ws = some us → VRs G Z μ H ws vs → VRs G Zn μn H us vs
  | [], us, vs, e, h => by unfold mapO at e; cases e; unfold VRs at h ⊢; exact h
  | w :: ws, us, vs, e, h => by
    unfold VRs at h
    obtain ⟨v, q, rfl, h1, h2⟩ := h
    unfold mapO at e
    cases e1 : f w with
    | none => rw [e1] at e; cases e
    | some u =>
      rw [e1] at e
      cases e2 : mapO f ws with
      | none => rw [e2] at e; cases e
      | some us' =>
        rw [e2] at e; cases e
        exact VRs.cons (hf _ _ _ e1 h1) (mapO_vr hf e2 h2)
theorem fz_vr (r : Rel G Z μ H S) (hz : ∀ a, Zn a → Z a) (hm : ∀ a ∈ μ, ¬ Zn a) : ∀ (k : Nat) (w u : W) (v : V), fz S k w = some u → VR G Z μ H w v → VR G Zn μn H u v
  | 0, _, _, _, e, _ => by unfold fz at e; cases e
  | k + 1, w, u, v, e, h => by
    unfold fz at e
    split at e
    · rename_i hn
      cases e
      exact VR.nr hz hn h
    · cases w with
      | ref n =>
        dsimp only at e
        split at e
        · rename_i ws hs
          obtain ⟨a, vs, rfl, h1, h2, h3⟩ := r.lst h hs
          cases e2 : mapO (fz S k) ws with
          | none => rw [e2] at e; cases e
          | some us =>
            rw [e2] at e; cases e
            unfold VR
            exact ⟨a, vs, rfl, h2, hm a (List.mem_of_getElem? h1), mapO_vr (fun w u v q1 q2 => fz_vr r hz hm k w u v q1 q2) e2 h3⟩
        · cases e
      | tup ws =>
        dsimp only at e
        cases e2 : mapO (fz S k) ws with
        | none => rw [e2] at e; cases e
        | some us =>
          rw [e2] at e; cases e
          unfold VR at h ⊢
          obtain ⟨a, vs, e, ha, hs⟩ := h
          exact ⟨a, vs, e, ha, mapO_vr (fun w u v q1 q2 => fz_vr r hz hm k w u v q1 q2) e2 hs⟩
      | lst ws =>
        dsimp only at e
        cases e2 : mapO (fz S k) ws with
        | none => rw [e2] at e; cases e
        | some us =>
          rw [e2] at e; cases e
          unfold VR at h ⊢
          obtain ⟨a, vs, e, ha, q, hs⟩ := h
          exact ⟨a, vs, e, ha, fun z => q (hz a z), mapO_vr (fun w u v q1 q2 => fz_vr r hz hm k w u v q1 q2) e2 hs⟩
      | _ => cases e
end

/-! ### calls -/
/-- a def on values: a run over a store -/
abbrev MD := List W → Sto → R W
def spM (G : Glo) (n : Nat) (m : MD) : Sp := fun vs H Q E => vs.length = n ∧ cM G E m vs H Q
/-- with the store handed on -/
def gCall (n : Nat) (m : MD) (ws : List W) (S : Sto) : R W := if ws.length = n then m ws S else .stuck
/-- apart: over an empty store -/
def gPure (n : Nat) (m : MD) (ws : List W) (S : Sto) : R W := if ws.length = n then (match mapO (fz S 4) ws with
  | none => .stuck
  | some us => match m us [] with
    | .ok w S' => match fz S' 6 w with
      | none => .stuck
      | some w' => if nrs ws || w'.nl then .ok w' S else .stuck
    | .err c _ => .err c S
    | .stuck => .stuck) else .stuck
section
variable {X : Cx} {G : Glo} {E : XK} {e : Expr} {es : List Expr} {mr : MA} {pos p : Pos} {n : Nat} {m : MD} {Q : VK} {vs : List V} {H : Hp}
theorem call_spS (h : cM G E (gCall n m) vs H Q) : spM G n m vs H Q E := by
  obtain ⟨ws, S, Z, μ, r, hv, af⟩ := h
  unfold gCall at af
  split at af
  · rename_i hl
    exact ⟨by rw [hv.length]; exact hl, ws, S, Z, μ, r, hv, af⟩
  · exact af.elim
theorem fz_nr {S : Sto} : ∀ {ws : List W}, nrs ws = true → mapO (fz S 4) ws = some ws
  | [], _ => rfl
  | w :: ws, h => by
    unfold nrs at h
    have h' := Bool.and_eq_true_iff.mp h
    unfold mapO
    have e : fz S 4 w = some w := by
      unfold fz
      rw [if_pos h'.1]
    rw [e, fz_nr h'.2]
theorem rel_nil {Z : Addr → Prop} (h : ∀ a, Z a → ∃ o, H a = some o ∧ isMut o = true ∧ isTbl o = false) (hi : G.inv H) : Rel G Z [] H [] := ⟨rfl, List.nodup_nil, fun a (h : a ∈ []) => (List.not_mem_nil h).elim, h, hi, fun n a o h => by simp at h⟩
theorem call_spP (h : cM G E (gPure n m) vs H Q) : spM G n m vs H Q E := by
  obtain ⟨ws, S, Z, μ, r, hv, af⟩ := h
  unfold gPure at af
  split at af
  case isFalse => exact af.elim
  rename_i hl
  refine ⟨by rw [hv.length]; exact hl, ?_⟩
  cases e1 : mapO (fz S 4) ws with
  | none => rw [e1] at af; exact af.elim
  | some us =>
    rw [e1] at af
    dsimp only at af
    -- behind the callee
    have fin : ∀ {Z0 Z' : Addr → Prop} {μ' : List Addr} {H' : Hp}, Grow Z0 [] H Z' μ' H' → G.inv H' → Rel G Z μ H' S ∧ Grow Z μ H Z μ H' := fun g hi => r.extN (fun a o q ht => g.keep a o q (by simp) ht) g.th hi
    cases hn : nrs ws with
    | true =>
      rw [fz_nr hn] at e1
      cases e1
      refine ⟨ws, [], Z, [], rel_nil r.zm r.inv, VRs.nr (fun _ h => h) hn hv, ?_⟩
      cases e2 : m ws [] with
      | stuck => rw [e2] at af; exact af.elim
      | err c S' =>
        rw [e2] at af
        exact fun Z' μ' H' g r' => af Z μ H' (fin g r'.inv).2 (fin g r'.inv).1
      | ok w S' =>
        rw [e2] at af
        dsimp only at af
        cases e3 : fz S' 6 w with
        | none => rw [e3] at af; exact af.elim
        | some w' =>
          rw [e3] at af
          dsimp only at af
          rw [hn, Bool.true_or, if_pos rfl] at af
          intro Z' μ' H' g r' v hw
          refine af Z μ H' (fin g r'.inv).2 (fin g r'.inv).1 v (fz_vr r' g.zk (fun a ha => ?_) 6 w w' v e3 hw)
          obtain ⟨e, rfl, fe⟩ := g.mu
          exact r.fresh (fe a (by simpa using ha))
    | false =>
      refine ⟨us, [], fun a => Z a ∧ a ∉ μ, [], rel_nil (fun a h => r.zm a h.1) r.inv, mapO_vr (fun w u v q1 q2 => fz_vr r (fun _ h => h.1) (fun a ha z => z.2 ha) 4 w u v q1 q2) e1 hv, ?_⟩
      cases e2 : m us [] with
      | stuck => rw [e2] at af; exact af.elim
      | err c S' =>
        rw [e2] at af
        exact fun Z' μ' H' g r' => af Z μ H' (fin g r'.inv).2 (fin g r'.inv).1
      | ok w S' =>
        rw [e2] at af
        dsimp only at af
        cases e3 : fz S' 6 w with
        | none => rw [e3] at af; exact af.elim
        | some w' =>
          rw [e3] at af
          dsimp only at af
          rw [hn, Bool.false_or] at af
          cases hnl : w'.nl with
          | false => rw [hnl, if_neg Bool.false_ne_true] at af; exact af.elim
          | true =>
            rw [hnl, if_pos rfl] at af
            intro Z' μ' H' g r' v hw
            exact af Z μ H' (fin g r'.inv).2 (fin g r'.inv).1 v (VR.nl hnl (fz_vr (Zn := fun _ => False) (μn := []) r' (fun _ h => h.elim) (fun _ _ h => h) 6 w w' v e3 hw))
/-- f(e, ..), a def of the module -/
theorem em_call {k : Nat} {f : Addr} {fd : FuncData} {ps : List Str} {x : Str} {sp : Sp} {q : List W → Sto → R W} (hq : ∀ vs H Q, cM G E q vs H Q → sp vs H Q E) (F : FnOk X.prog X.w X.K X.mg X.base (L2.CX X.prog X.w) k f fd ps sp) (hr : Room k X.A) (hg : Gl X x) (hm : X.mg x = some (.ref f)) (hk : PySem.W.keepIn X.K (.ref f) = true) (hb : Binds X.K fd ps [])
    (hx : Passes (L2.CX X.prog X.w) X E) (ha : PA X (e :: es) (tMA G E mr)) (hdb : (x == ("__debug__" : Str)) = false := by decide) (he : starEach (e :: es) X.env = (false, eval e X.env) :: starEach es X.env := by rfl) (hpl : (backTo pos (starEach es X.env)).any (·.1) = false := by rfl) :
    PE X (.Call (.Name x p) (e :: es) [] pos) (tM G E (mAp q mr)) := (pe_call F hr hg hm hk hb .nil hx ha hdb he hpl).weak fun σ H Q h => by
  obtain ⟨ρ, S, Z, μ, r, er, af⟩ := args h
  refine ⟨ρ, S, Z, μ, r, er, Aft.imp af fun ws Z1 μ1 H1 S1 _ g1 r1 a1 vs hvs => ?_⟩
  have e : (vs ++ [] : List V) = vs := List.append_nil vs
  show sp (vs ++ []) H1 Q E
  rw [e]
  exact hq _ _ _ (a1 vs hvs)
theorem em_callS {k : Nat} {f : Addr} {fd : FuncData} {ps : List Str} {x : Str} (F : FnOk X.prog X.w X.K X.mg X.base (L2.CX X.prog X.w) k f fd ps (spM G n m)) (hr : Room k X.A) (hg : Gl X x) (hm : X.mg x = some (.ref f)) (hk : PySem.W.keepIn X.K (.ref f) = true) (hb : Binds X.K fd ps [])
    (hx : Passes (L2.CX X.prog X.w) X E) (ha : PA X (e :: es) (tMA G E mr)) (hdb : (x == ("__debug__" : Str)) = false := by decide) (he : starEach (e :: es) X.env = (false, eval e X.env) :: starEach es X.env := by rfl) (hpl : (backTo pos (starEach es X.env)).any (·.1) = false := by rfl) :
    PE X (.Call (.Name x p) (e :: es) [] pos) (tM G E (mAp (gCall n m) mr)) := em_call (fun _ _ _ h => call_spS h) F hr hg hm hk hb hx ha hdb he hpl
theorem em_callP {k : Nat} {f : Addr} {fd : FuncData} {ps : List Str} {x : Str} (F : FnOk X.prog X.w X.K X.mg X.base (L2.CX X.prog X.w) k f fd ps (spM G n m)) (hr : Room k X.A) (hg : Gl X x) (hm : X.mg x = some (.ref f)) (hk : PySem.W.keepIn X.K (.ref f) = true) (hb : Binds X.K fd ps [])
    (hx : Passes (L2.CX X.prog X.w) X E) (ha : PA X (e :: es) (tMA G E mr)) (hdb : (x == ("__debug__" : Str)) = false := by decide) (he : starEach (e :: es) X.env = (false, eval e X.env) :: starEach es X.env := by rfl) (hpl : (backTo pos (starEach es X.env)).any (·.1) = false := by rfl) :
    PE X (.Call (.Name x p) (e :: es) [] pos) (tM G E (mAp (gPure n m) mr)) := em_call (fun _ _ _ h => call_spP h) F hr hg hm hk hb hx ha hdb he hpl
end

/-! ### defs -/
def mDef (L : Nat) (b : MS) : MD := fun ws S => (b (ws.map some ++ List.replicate (L - ws.length) none) S).bind fun f S' => match f with
  | .ret w => .ok w S'
  | .nx _ => .ok .non S'
  | _ => .stuck
section
variable {P : Program} {w : World} {K : PySem.W.Frag} {mg : Str → Option Value} {base : Heap} {G : Glo}
theorem VRs.start {Z : Addr → Prop} {μ : List Addr} {H : Hp} {ws : List W} {vs : List V} {N : List Str} (h : VRs G Z μ H ws vs) : ER G Z μ H (ws.map some ++ List.replicate (N.length - ws.length) none) (L2.start N vs) := by
  refine ⟨by unfold L2.start; simp [h.length], fun i w hi => ?_⟩
  have hl : i < ws.length := by
    by_cases hl : i < ws.length
    · exact hl
    · rw [List.getElem?_append_right (by simpa using hl), List.getElem?_replicate] at hi
      split at hi <;> cases hi
  rw [List.getElem?_append_left (by simpa using hl), List.getElem?_map] at hi
  have hi' : ws[i]? = some w := by
    cases e : ws[i]? with
    | none => rw [e] at hi; cases hi
    | some u => rw [e] at hi; cases hi; rfl
  obtain ⟨v, h1, h2⟩ := h.get hi'
  refine ⟨v, ?_, h2⟩
  unfold L2.start
  rw [List.getElem?_append_left (by rw [List.length_map, h.length]; exact hl), List.getElem?_map, h1]
  rfl
theorem def_reads {E : XK} {N : List Str} {n : Nat} {mb : MS} {vs : List V} {H : Hp} {Q : VK} (h : spM G n (mDef N.length mb) vs H Q E) : tS G E mb { nx := fun _ H' => Q .non H', rt := Q } (L2.start N vs) H := by
  obtain ⟨hl, ws, S, Z, μ, r, hv, af⟩ := h
  refine ⟨_, S, Z, μ, r, hv.start (N := N), Aft.imp (Aft.bind af) fun f Z1 μ1 H1 S1 _ g1 r1 a1 => ?_⟩
  cases f with
  | nx ρ1 => exact fun σ _ => end_val r1 (vr_non _ _ _) a1
  | ret w => exact fun v hv => Aft.here (E := E) (P := PQ G Q) r1 a1 v hv
  | brk ρ1 => exact a1.elim
  | cnt ρ1 => exact a1.elim
/-- THE RULE for a def -/
theorem fn_ok {x qual : Str} {params : Arguments} {body : List Stmt} {scope : Scope} {dvs : List V} {kws : List (Str × V)} {f : Addr} {fd : FuncData} {N ps : List Str} {k : Nat} {mb : MS} (F : FunD K x qual params body scope dvs kws f fd) (S : FnScope N ps scope)
    (hbody : ∀ (cdv : Value) (A : Around) (outer : List Env) (s : Shared) (H : Hp) (E : XK), Room k (A.deeper (envOfC qual scope s.heap.objs.size f cdv)) → PSs (cxOf (L2.CX P w) P w K mg base N qual scope f cdv A outer s H E) body (tS G E mb)) : FnOk P w K mg base (L2.CX P w) (k + 1) f fd ps (spM G ps.length (mDef N.length mb)) :=
  F.ok S (fun vs H Q E h => h.1) fun cdv A outer s H vs Q E hr h => ⟨_, hbody cdv A outer s H E hr, def_reads h⟩
theorem fn_stuck {k n : Nat} {f : Addr} {fd : FuncData} {ps : List Str} : FnOk P w K mg base (L2.CX P w) k f fd ps (spM G n (fun _ _ => .stuck)) :=
  ⟨fun vs H Q E ⟨_, ws, S, Z, μ, r, hv, af⟩ => af.elim, fun A outer s H args us vs Q E _ _ _ _ ⟨_, ws, S, Z, μ, r, hv, af⟩ => af.elim⟩
end
end Mo

set_option Elab.async false
set_option linter.all false
set_option maxRecDepth 100000
set_option autoImplicit false
/-! Mon6: operations on values. -/
namespace Mo
open PySem PySem.Spec L2
open PyProof.Rows hiding St

section
variable {G : Glo} {Z : Addr → Prop} {μ : List Addr} {H : Hp} {S : Sto} {v : V}
theorem i_non (h : VR G Z μ H .non v) : v = .non := by unfold VR at h; exact h
theorem i_bl {b : Bool} (h : VR G Z μ H (.bl b) v) : v = .bl b := by unfold VR at h; exact h
theorem i_int {i : Int} (h : VR G Z μ H (.int i) v) : v = .int i := by unfold VR at h; exact h
theorem i_str {i : Str} (h : VR G Z μ H (.str i) v) : v = .str i := by unfold VR at h; exact h
theorem i_ty {i : String} (h : VR G Z μ H (.ty i) v) : v = .ty i := by unfold VR at h; exact h
theorem i_tup {ws : List W} (h : VR G Z μ H (.tup ws) v) : ∃ a vs, v = .ref a ∧ XT H a vs ∧ VRs G Z μ H ws vs := by unfold VR at h; exact h
theorem i_itm {ws : List W} (h : VR G Z μ H (.itm ws) v) : ∃ a vs, v = .ref a ∧ H a = some (.tup vs) ∧ VRs G Z μ H ws vs := by unfold VR at h; exact h
theorem i_lst {ws : List W} (h : VR G Z μ H (.lst ws) v) : ∃ a vs, v = .ref a ∧ H a = some (.lst vs) ∧ ¬ Z a ∧ VRs G Z μ H ws vs := by unfold VR at h; exact h
theorem i_ref {n : Nat} (h : VR G Z μ H (.ref n) v) : ∃ a, μ[n]? = some a ∧ v = .ref a := by unfold VR at h; exact h
theorem i_scr {ns : List Int} (h : VR G Z μ H (.scr ns) v) : ∃ a, v = .ref a ∧ SqL G.K H a (ns.map V.int) := by
  unfold VR at h
  obtain ⟨a, e, h⟩ := h
  exact ⟨a, e, h.elim (fun h => .inl h.1) fun h => h H⟩
theorem vrs_ints : ∀ {ns : List Int} {vs : List V}, VRs G Z μ H (ns.map W.int) vs → vs = ns.map V.int
  | [], vs, h => by unfold VRs at h; exact h
  | n :: ns, vs, h => by
    unfold VRs at h
    obtain ⟨v, q, rfl, h1, h2⟩ := h
    rw [i_int h1, vrs_ints h2]; rfl
theorem ints_vrs : ∀ (ns : List Int), VRs G Z μ H (ns.map W.int) (ns.map V.int)
  | [] => VRs.nil
  | n :: ns => VRs.cons (vr_int _ _ _) (ints_vrs ns)
theorem one_of {w : W} {vs : List V} (h : VRs G Z μ H [w] vs) : ∃ v, vs = [v] ∧ VR G Z μ H w v := by
  unfold VRs at h
  obtain ⟨v, q, rfl, h1, h2⟩ := h
  unfold VRs at h2
  subst h2
  exact ⟨v, rfl, h1⟩
theorem two_of {w u : W} {vs : List V} (h : VRs G Z μ H [w, u] vs) : ∃ v x, vs = [v, x] ∧ VR G Z μ H w v ∧ VR G Z μ H u x := by
  unfold VRs at h
  obtain ⟨v, q, rfl, h1, h2⟩ := h
  obtain ⟨x, rfl, h3⟩ := one_of h2
  exact ⟨v, x, rfl, h1, h3⟩
/-- the items of a list that is read: frozen, of the store, the script's -/
def itemsL (S : Sto) : W → Option (List W)
  | .lst ws => some ws
  | .ref n => match S[n]? with
    | some (.lst ws) => some ws
    | _ => none
  | .scr ns => some (ns.map .int)
  | _ => none
theorem itemsL_ok (r : Rel G Z μ H S) {w : W} {ws : List W} (e : itemsL S w = some ws) (h : VR G Z μ H w v) : ∃ a vs, v = .ref a ∧ SqL G.K H a vs ∧ VRs G Z μ H ws vs := by
  unfold itemsL at e
  split at e
  · cases e
    obtain ⟨a, vs, rfl, h1, h2, h3⟩ := i_lst h
    exact ⟨a, vs, rfl, .inl (.inl h1), h3⟩
  · split at e
    · rename_i hs
      cases e
      obtain ⟨a, vs, rfl, h1, h2, h3⟩ := r.lst h hs
      exact ⟨a, vs, rfl, .inl (.inl h2), h3⟩
    · cases e
  · cases e
    obtain ⟨a, rfl, h1⟩ := i_scr h
    exact ⟨a, _, rfl, h1, ints_vrs _⟩
  · cases e
theorem VRs.atI {ws : List W} {vs : List V} {i : Int} {w : W} (h : VRs G Z μ H ws vs) (e : L2.atI ws i = some w) : ∃ v, L2.atI vs i = some v ∧ VR G Z μ H w v := by
  unfold L2.atI at e ⊢
  rw [h.length]
  cases e1 : ixN ws.length i with
  | none => rw [e1] at e; cases e
  | some j =>
    rw [e1] at e
    obtain ⟨v, h1, h2⟩ := h.get (i := j) e
    exact ⟨v, h1, h2⟩
end

/-! ### arithmetic -/
set_option maxHeartbeats 4000000 in
theorem tuple_mul1 (l : Addr) (items : Array Value) (n : Nat) (dd : Option Addr) (sl : Array (Option Value)) (x : Int) (u : Tok) (c0 : (decide (x < -(2 ^ 63)) || decide (x ≥ 2 ^ 63)) = false) (c1 : (items.isEmpty || x == 1) = true) :
    Meets (Builtin.«tuple.__mul__» ⟨[.ref l, .int x u], []⟩) (fun _ R s => s.heap.get? l = some { cls := .type "tuple", dict := dd, data := .seq items n, slots := sl } ∧
      R (.ok (.ret (Value.ref l))) s) :=
  .of_wp fun prog w A R s h => by
    obtain ⟨hp, g, d, tk, os⟩ := s
    obtain ⟨hl, h⟩ := h
    have f1 := AutoSeq1.idx_int
    wp_walk using wpAny_loadPart' hl
    repeat (first
      | (refine wpAny_ite_false (decide_eq_false (by rw [c0]; exact Bool.false_ne_true)) ?_; wp_walk using wpAny_loadPart' hl)
      | (refine wpAny_ite_true (decide_eq_true c1) ?_; wp_walk using wpAny_loadPart' hl))
    exact ⟨_, rfl, h⟩
set_option maxHeartbeats 4000000 in
theorem tuple_mul0 (l : Addr) (items : Array Value) (n : Nat) (dd : Option Addr) (sl : Array (Option Value)) (x : Int) (u : Tok) (c0 : (decide (x < -(2 ^ 63)) || decide (x ≥ 2 ^ 63)) = false) (c1 : (items.isEmpty || x == 1) = false) (c2 : (decide (x ≤ 0) || items.isEmpty) = true) :
    Meets (Builtin.«tuple.__mul__» ⟨[.ref l, .int x u], []⟩) (fun _ R s => s.heap.get? l = some { cls := .type "tuple", dict := dd, data := .seq items n, slots := sl } ∧
      R (.ok (.ret (Value.ref s.heap.objs.size))) { s with heap := s.heap.push { cls := Value.type "tuple", data := Data.seq #[] }, toks := s.toks }) :=
  .of_wp fun prog w A R s h => by
    obtain ⟨hp, g, d, tk, os⟩ := s
    obtain ⟨hl, h⟩ := h
    have f1 := AutoSeq1.idx_int
    wp_walk using wpAny_loadPart' hl
    repeat (first
      | (refine wpAny_ite_false (decide_eq_false (by rw [c0]; exact Bool.false_ne_true)) ?_; wp_walk using wpAny_loadPart' hl)
      | (refine wpAny_ite_false (decide_eq_false (by rw [c1]; exact Bool.false_ne_true)) ?_; wp_walk using wpAny_loadPart' hl)
      | (refine wpAny_ite_true (decide_eq_true c2) ?_; wp_walk using wpAny_loadPart' hl))
    exact ⟨_, rfl, h⟩
section
variable {X : Cx}
theorem laid_tup {pins : List (Addr × Obj)} {σ : St} {H : Hp} {s : Shared} {xs : List V} {its : List Value} (I : Inv X pins σ H s) (r : Vals xs its) (hz : xs.length ≤ sizeLine) :
    Inv X pins σ (upd H s.heap.objs.size (.frz { cls := .type "tuple", data := .seq its.toArray } (.tup xs))) { s with heap := s.heap.push { cls := .type "tuple", data := .seq its.toArray } } :=
  I.laid (t' := s.toks) (fun b ob q => Heap.get?_push_of_some _ q) (Nat.le_refl _) ⟨Heap.get?_push_size _ rfl, hz, its, r, ⟨_, Heap.get?_push_size _ rfl, rfl, _, rfl⟩⟩
theorem op_repT1 : OpR X (binaryOp .Mult) (fun x y H Q => ∃ l k xs, x = .ref l ∧ y = .int k ∧ SqT X.K H l xs ∧ (xs = [] ∨ k = 1) ∧ -1000 ≤ k ∧ k ≤ 1000 ∧ Q (.ref l) H) := by
  intro pins s σ H x y v u Q I rx ry h
  obtain ⟨l, k, xs, rfl, rfl, hT, hne, h1, h2, q⟩ := h
  cases rx
  obtain ⟨t, rfl⟩ := ry
  obtain ⟨its, r, ⟨⟨cls, dd, data, sl⟩, ho, hc, n, hd⟩, hs⟩ := I.tuple hT
  simp only at hc hd
  subst hc hd
  have hle : its.length = xs.length := r.length.symm
  have c0 : (decide (k < -(2 ^ 63)) || decide (k ≥ 2 ^ 63)) = false := by
    rw [decide_eq_false (by omega), decide_eq_false (by omega)] <;> rfl
  have c1 : (its.toArray.isEmpty || k == 1) = true := by
    rcases hne with e | e
    · rw [e] at hle
      rw [List.eq_nil_of_length_eq_zero hle]; rfl
    · subst e; simp
  refine wpAny_binaryOp_repeat_ref (T := "tuple") (U := "int") (by decide) ⟨_, ho, rfl⟩ (fun s' => typeIs_int s' k t) noFill_tuple_mul F.fills_int_mul F.slot_int_rmul repeat_tuple F.slot_int_index.lookup
    (call_meets F.slot_int_rmul (typeIs_int s k t) F.entry_int_rmul (F.args_int_rmul_2 _ _) (int_rmul_tuple k t l its.toArray n dd sl)
      ⟨ho, rfl, ⟨_, ho, rfl⟩, call_meets F.slot_tuple_mul ⟨_, ho, rfl⟩ F.entry_tuple_mul (F.args_tuple_mul_2 _ _) (tuple_mul1 l its.toArray n dd sl k t c0 c1) ⟨ho, ?_⟩⟩)
  exact ⟨.ref l, H, I, rfl, q⟩
theorem op_repT0 : OpR X (binaryOp .Mult) (fun x y H Q => ∃ l k xs, x = .ref l ∧ y = .int k ∧ SqT X.K H l xs ∧ xs ≠ [] ∧ k ≤ 0 ∧ -1000 ≤ k ∧ ∀ (p : Addr) (o : Obj), o.dict = none → H p = none → Q (.ref p) (upd H p (.frz o (.tup [])))) := by
  intro pins s σ H x y v u Q I rx ry h
  obtain ⟨l, k, xs, rfl, rfl, hT, hne, h1, h2, q⟩ := h
  cases rx
  obtain ⟨t, rfl⟩ := ry
  obtain ⟨its, r, ⟨⟨cls, dd, data, sl⟩, ho, hc, n, hd⟩, hs⟩ := I.tuple hT
  simp only at hc hd
  subst hc hd
  have hle : its.length = xs.length := r.length.symm
  have hn : its ≠ [] := fun e => hne (by
    rw [e] at hle
    exact List.eq_nil_of_length_eq_zero hle.symm)
  have hi : its.toArray.isEmpty = false := by
    cases its with
    | nil => exact absurd rfl hn
    | cons a b => rfl
  have c0 : (decide (k < -(2 ^ 63)) || decide (k ≥ 2 ^ 63)) = false := by
    rw [decide_eq_false (by omega), decide_eq_false (by omega)] <;> rfl
  have c1 : (its.toArray.isEmpty || k == 1) = false := by
    rw [hi, Bool.false_or]
    exact beq_eq_false_iff_ne.mpr (by omega)
  have c2 : (decide (k ≤ 0) || its.toArray.isEmpty) = true := by
    rw [decide_eq_true h1]; rfl
  refine wpAny_binaryOp_repeat_ref (T := "tuple") (U := "int") (by decide) ⟨_, ho, rfl⟩ (fun s' => typeIs_int s' k t) noFill_tuple_mul F.fills_int_mul F.slot_int_rmul repeat_tuple F.slot_int_index.lookup
    (call_meets F.slot_int_rmul (typeIs_int s k t) F.entry_int_rmul (F.args_int_rmul_2 _ _) (int_rmul_tuple k t l its.toArray n dd sl)
      ⟨ho, rfl, ⟨_, ho, rfl⟩, call_meets F.slot_tuple_mul ⟨_, ho, rfl⟩ F.entry_tuple_mul (F.args_tuple_mul_2 _ _) (tuple_mul0 l its.toArray n dd sl k t c0 c1 c2) ⟨ho, ?_⟩⟩)
  exact ⟨.ref s.heap.objs.size, _, laid_tup I .nil (by decide), rfl, q _ _ rfl (I.hok.fresh (Nat.le_refl _))⟩
/-- t + u: what is new is known whole -/
theorem op_catX : OpR X (binaryOp .Add) (fun x y H Q => ∃ a b xs ys, x = .ref a ∧ y = .ref b ∧ SqT X.K H a xs ∧ SqT X.K H b ys ∧ xs.length + ys.length ≤ sizeLine ∧
    (xs = [] → Q (.ref b) H) ∧ (xs ≠ [] → ys = [] → Q (.ref a) H) ∧ (xs ≠ [] → ys ≠ [] → ∀ (p : Addr) (o : Obj), o.dict = none → H p = none → Q (.ref p) (upd H p (.frz o (.tup (xs ++ ys)))))) := by
  intro pins s σ H x y v u Q I rx ry h
  obtain ⟨a, b, xs, ys, rfl, rfl, ha, hb, hz, q0, q1, q2⟩ := h
  cases rx
  cases ry
  obtain ⟨its, r1, p1, _⟩ := I.tuple ha
  obtain ⟨its2, r2, p2, _⟩ := I.tuple hb
  by_cases hx : xs = []
  · subst hx
    cases r1
    exact cat_tup0 p1 p2 ⟨.ref b, H, I, rfl, q0 rfl⟩
  · exact HT.cat_tup p1 p2 (fun z => hx (r1.nil_iff.mp z)) (fun z => ⟨.ref a, H, I, rfl, q1 hx (r2.nil_iff.mp z)⟩)
      (fun z => ⟨.ref s.heap.objs.size, _, laid_tup I (r1.append r2) (by rw [List.length_append]; exact hz), rfl, q2 hx (fun w => z (r2.nil_iff.mpr w)) _ _ rfl (I.hok.fresh (Nat.le_refl _))⟩) (by rw [← r1.length, ← r2.length]; exact hz)
/-- t * k, k from 2 on -/
theorem op_repX : OpR X (binaryOp .Mult) (fun x y H Q => ∃ l k xs, x = .ref l ∧ y = .int k ∧ SqT X.K H l xs ∧ xs ≠ [] ∧ 2 ≤ k ∧ k ≤ 1000 ∧ xs.length ≤ 1000 ∧ ∀ (p : Addr) (o : Obj), o.dict = none → H p = none → Q (.ref p) (upd H p (.frz o (.tup (List.replicate k.toNat xs).flatten)))) := by
  intro pins s σ H x y v u Q I rx ry h
  obtain ⟨l, k, xs, rfl, rfl, hT, hne, h1, h2, hz, q⟩ := h
  cases rx
  obtain ⟨t, rfl⟩ := ry
  obtain ⟨its, r, ⟨⟨cls, dd, data, sl⟩, ho, hc, n, hd⟩, hs⟩ := I.tuple hT
  simp only at hc hd
  subst hc hd
  have hle : its.length = xs.length := r.length.symm
  have hn : its ≠ [] := fun e => hne (List.eq_nil_of_length_eq_zero (by rw [← hle, e]; rfl))
  have hi : its.toArray.isEmpty = false := by
    cases its with
    | nil => exact absurd rfl hn
    | cons a b => rfl
  have k0 : k.toNat * xs.length ≤ 1000 * 1000 := Nat.mul_le_mul (by omega) hz
  have k1 : ((xs.length : Nat) : Int) * k ≤ 1000 * k := Int.mul_le_mul_of_nonneg_right (by omega) (by omega)
  have hm : ((its.toArray.size : Nat) : Int) * k ≤ 1000000 := by
    rw [List.size_toArray, hle]
    omega
  have fz : (List.replicate k.toNat its).flatten.length ≤ sizeLine := by
    rw [PyProof.Rows.lm_len_rep_flat, hle, sizeLine_eq]
    omega
  refine wpAny_binaryOp_repeat_ref (T := "tuple") (U := "int") (by decide) ⟨_, ho, rfl⟩ (fun s' => typeIs_int s' k t) noFill_tuple_mul F.fills_int_mul F.slot_int_rmul repeat_tuple F.slot_int_index.lookup
    (call_meets F.slot_int_rmul (typeIs_int s k t) F.entry_int_rmul (F.args_int_rmul_2 _ _) (int_rmul_tuple k t l its.toArray n dd sl)
      ⟨ho, rfl, ⟨_, ho, rfl⟩, call_meets F.slot_tuple_mul ⟨_, ho, rfl⟩ F.entry_tuple_mul (F.args_tuple_mul_2 _ _) (tuple_mulW l its.toArray n dd sl k t (by rw [decide_eq_false (by omega), decide_eq_false (by omega)] <;> rfl) (by rw [hi, Bool.false_or]; exact beq_eq_false_iff_ne.mpr (by omega))
        (by rw [hi, Bool.or_false]; exact decide_eq_false (by omega)) (by omega) (by unfold Builtin.Tuple.tupleTooMany; rw [sizeLine_eq]; exact decide_eq_false (by omega)) (by rw [size_rep, List.size_toArray]; exact fz)) ⟨ho, ?_⟩⟩)
  rw [size_rep]
  exact ⟨.ref s.heap.objs.size, _, laid_tup I (r.rep k.toNat) (by rw [PyProof.Rows.lm_len_rep_flat, sizeLine_eq]; omega), rfl, q _ _ rfl (I.hok.fresh (Nat.le_refl _))⟩
end
def small (i : Int) : Bool := decide (-(2 ^ 64) < i) && decide (i < 2 ^ 64)
def addW (x y : W) (S : Sto) : R W := match x with
  | .int i => (match y with | .int j => .ok (.int (i + j)) S | _ => .stuck)
  | .str a => (match y with | .str b => if a.length + b.length ≤ 100000 then .ok (.str (a ++ b)) S else .stuck | _ => .stuck)
  | .tup a => (match y with | .tup b => if a.length + b.length ≤ 100000 then .ok (.tup (a ++ b)) S else .stuck | _ => .stuck)
  | .lst a => (match y with | .lst b => if a.length + b.length ≤ 100000 then .ok (.lst (a ++ b)) S else .stuck | _ => .stuck)
  | _ => .stuck
def subW (x y : W) (S : Sto) : R W := match x with
  | .int i => (match y with | .int j => .ok (.int (i - j)) S | _ => .stuck)
  | _ => .stuck
def repL {α : Type} (k : Nat) (xs : List α) : List α := (List.replicate k xs).flatten
def mulW (x y : W) (S : Sto) : R W := match x with
  | .int i => (match y with | .int j => if small i || small j || decide (i.natAbs.log2 + j.natAbs.log2 < 1000000) then .ok (.int (i * j)) S else .stuck | _ => .stuck)
  | .lst a => (match y with | .int k => if decide (-100000 < k) && decide (k < 100000) && decide (a.length * k.toNat ≤ 100000) then .ok (.lst (repL k.toNat a)) S else .stuck | _ => .stuck)
  | .tup a => (match y with | .int k => if decide (-1000 ≤ k) && decide (k ≤ 1000) && decide (a.length ≤ 1000) then .ok (.tup (repL k.toNat a)) S else .stuck | _ => .stuck)
  | _ => .stuck
def fdivW (x y : W) (S : Sto) : R W := match x with
  | .int i => (match y with | .int j => if decide (j ≠ 0) && decide (j.natAbs.log2 < 9000) then .ok (.int (i.fdiv j)) S else .stuck | _ => .stuck)
  | _ => .stuck
def modW (x y : W) (S : Sto) : R W := match x with
  | .int i => (match y with | .int j => if j ≠ 0 then .ok (.int (i.fmod j)) S else .stuck | _ => .stuck)
  | _ => .stuck
def powW (x y : W) (S : Sto) : R W := match x with
  | .int i => (match y with | .int j => if decide (0 ≤ j) && decide (j ≤ 1000) && decide (i.natAbs < 2 ^ 64) then .ok (.int (i ^ j.toNat)) S else .stuck | _ => .stuck)
  | _ => .stuck
def xorW (x y : W) (S : Sto) : R W := match x with
  | .int i => (match y with | .int j => .ok (.int (Builtin.bitXor i j)) S | _ => .stuck)
  | _ => .stuck
def shlW (x y : W) (S : Sto) : R W := match x with
  | .int i => (match y with | .int j => if decide (0 ≤ j) && decide (j ≤ 1000) && decide (i.natAbs < 2 ^ 64) then .ok (.int (i * 2 ^ j.toNat)) S else .stuck | _ => .stuck)
  | _ => .stuck
def negW (x : W) (S : Sto) : R W := match x with
  | .int i => .ok (.int (-i)) S
  | _ => .stuck
def ltW (x y : W) (S : Sto) : R W := match x with
  | .int i => (match y with | .int j => .ok (.bl (decide (i < j))) S | _ => .stuck)
  | _ => .stuck
def leW (x y : W) (S : Sto) : R W := match x with
  | .int i => (match y with | .int j => .ok (.bl (decide (i ≤ j))) S | _ => .stuck)
  | _ => .stuck
def gtW (x y : W) (S : Sto) : R W := match x with
  | .int i => (match y with | .int j => .ok (.bl (decide (j < i))) S | _ => .stuck)
  | _ => .stuck
def geW (x y : W) (S : Sto) : R W := match x with
  | .int i => (match y with | .int j => .ok (.bl (decide (j ≤ i))) S | _ => .stuck)
  | _ => .stuck
section
variable {X : Cx} {G : Glo} {E : XK}
theorem o_i {f : W → W → Sto → R W} {F : Value → Value → Sem Value} {C : Int → Int → Prop} {g : Int → Int → V} (rule : OpR X F (rI C g)) (hf : ∀ x y S, f x y S = .stuck ∨ ∃ i j w, x = .int i ∧ y = .int j ∧ C i j ∧ f x y S = .ok w S ∧ ∀ Z μ H, VR G Z μ H w (g i j)) : OpR X F (rM G E f) := by
  intro pins s σ H x y v u Q I rx ry ⟨w1, w2, S, Z, μ, r, h1, h2, af⟩
  rcases hf w1 w2 S with e | ⟨i, j, w, rfl, rfl, hc, e, hv⟩
  · rw [e] at af; exact af.elim
  · rw [e] at af
    exact rule pins s σ H x y v u Q I rx ry ⟨i, j, i_int h1, i_int h2, hc, end_val r (hv _ _ _) af⟩
theorem o_i0 {f : W → W → Sto → R W} {F : Value → Value → Sem Value} {g : Int → Int → V} (rule : OpR X F (rI0 g)) (hf : ∀ x y S, f x y S = .stuck ∨ ∃ i j w, x = .int i ∧ y = .int j ∧ f x y S = .ok w S ∧ ∀ Z μ H, VR G Z μ H w (g i j)) : OpR X F (rM G E f) := by
  intro pins s σ H x y v u Q I rx ry ⟨w1, w2, S, Z, μ, r, h1, h2, af⟩
  rcases hf w1 w2 S with e | ⟨i, j, w, rfl, rfl, e, hv⟩
  · rw [e] at af; exact af.elim
  · rw [e] at af
    exact rule pins s σ H x y v u Q I rx ry ⟨i, j, i_int h1, i_int h2, end_val r (hv _ _ _) af⟩
theorem o_sub : OpR X (binaryOp .Sub) (rM G E subW) := o_i0 op_sub (by intro x y S; cases x <;> first | (exact Or.inl rfl) | (cases y <;> first | (exact Or.inl rfl) | exact Or.inr ⟨_, _, _, rfl, rfl, rfl, fun _ _ _ => vr_int _ _ _⟩ | exact Or.inr ⟨_, _, _, rfl, rfl, rfl, fun _ _ _ => vr_bl _ _ _⟩))
theorem o_xor : OpR X (binaryOp .BitXor) (rM G E xorW) := o_i0 op_xor (by intro x y S; cases x <;> first | (exact Or.inl rfl) | (cases y <;> first | (exact Or.inl rfl) | exact Or.inr ⟨_, _, _, rfl, rfl, rfl, fun _ _ _ => vr_int _ _ _⟩ | exact Or.inr ⟨_, _, _, rfl, rfl, rfl, fun _ _ _ => vr_bl _ _ _⟩))
theorem o_lt : OpR X (compareOp .Lt) (rM G E ltW) := o_i0 op_lt (by intro x y S; cases x <;> first | (exact Or.inl rfl) | (cases y <;> first | (exact Or.inl rfl) | exact Or.inr ⟨_, _, _, rfl, rfl, rfl, fun _ _ _ => vr_int _ _ _⟩ | exact Or.inr ⟨_, _, _, rfl, rfl, rfl, fun _ _ _ => vr_bl _ _ _⟩))
theorem o_le : OpR X (compareOp .LtE) (rM G E leW) := o_i0 op_le (by intro x y S; cases x <;> first | (exact Or.inl rfl) | (cases y <;> first | (exact Or.inl rfl) | exact Or.inr ⟨_, _, _, rfl, rfl, rfl, fun _ _ _ => vr_int _ _ _⟩ | exact Or.inr ⟨_, _, _, rfl, rfl, rfl, fun _ _ _ => vr_bl _ _ _⟩))
theorem o_gt : OpR X (compareOp .Gt) (rM G E gtW) := o_i0 op_gt (by intro x y S; cases x <;> first | (exact Or.inl rfl) | (cases y <;> first | (exact Or.inl rfl) | exact Or.inr ⟨_, _, _, rfl, rfl, rfl, fun _ _ _ => vr_int _ _ _⟩ | exact Or.inr ⟨_, _, _, rfl, rfl, rfl, fun _ _ _ => vr_bl _ _ _⟩))
theorem o_ge : OpR X (compareOp .GtE) (rM G E geW) := o_i0 op_ge (by intro x y S; cases x <;> first | (exact Or.inl rfl) | (cases y <;> first | (exact Or.inl rfl) | exact Or.inr ⟨_, _, _, rfl, rfl, rfl, fun _ _ _ => vr_int _ _ _⟩ | exact Or.inr ⟨_, _, _, rfl, rfl, rfl, fun _ _ _ => vr_bl _ _ _⟩))
theorem op_fdivL : OpR X (binaryOp .FloorDiv) (rI (fun _ j => j ≠ 0 ∧ j.natAbs.log2 < 9000) fun i j => .int (i.fdiv j)) := opI fun _ _ _ _ _ _ _ hc q => floordiv_int hc.1 q (.inl (PyProof.noPylong_of_log2 hc.2))
theorem o_fdiv : OpR X (binaryOp .FloorDiv) (rM G E fdivW) := o_i op_fdivL fun x y S => by
  cases x <;> first | exact .inl rfl | skip
  cases y <;> first | exact .inl rfl | skip
  rename_i i j
  unfold fdivW
  dsimp only
  split
  · rename_i h
    simp only [Bool.and_eq_true, decide_eq_true_eq] at h
    exact .inr ⟨_, _, _, rfl, rfl, h, rfl, vr_int⟩
  · exact .inl rfl
theorem o_mod : OpR X (binaryOp .Mod) (rM G E modW) := o_i op_modN fun x y S => by
  cases x <;> first | exact .inl rfl | skip
  cases y <;> first | exact .inl rfl | skip
  rename_i i j
  unfold modW
  dsimp only
  split
  · rename_i h
    exact .inr ⟨_, _, _, rfl, rfl, h, rfl, vr_int⟩
  · exact .inl rfl
theorem o_pow : OpR X (binaryOp .Pow) (rM G E powW) := o_i op_pow fun x y S => by
  cases x <;> first | exact .inl rfl | skip
  cases y <;> first | exact .inl rfl | skip
  rename_i i j
  unfold powW
  dsimp only
  split
  · rename_i h
    simp only [Bool.and_eq_true, decide_eq_true_eq] at h
    exact .inr ⟨_, _, _, rfl, rfl, ⟨h.1.1, by omega, h.2⟩, rfl, vr_int⟩
  · exact .inl rfl
theorem o_shl : OpR X (binaryOp .LShift) (rM G E shlW) := o_i op_shl fun x y S => by
  cases x <;> first | exact .inl rfl | skip
  cases y <;> first | exact .inl rfl | skip
  rename_i i j
  unfold shlW
  dsimp only
  split
  · rename_i h
    simp only [Bool.and_eq_true, decide_eq_true_eq] at h
    exact .inr ⟨_, _, _, rfl, rfl, ⟨h.1.1, by omega, h.2⟩, rfl, vr_int⟩
  · exact .inl rfl
theorem o_add : OpR X (binaryOp .Add) (rM G E addW) := by
  intro pins s σ H x y v u Q I rx ry ⟨w1, w2, S, Z, μ, r, h1, h2, af⟩
  unfold addW at af
  split at af
  · split at af
    · exact op_add pins s σ H x y v u Q I rx ry ⟨_, _, i_int h1, i_int h2, end_val r (vr_int _ _ _) af⟩
    · exact af.elim
  · split at af
    · split at af
      · rename_i hl
        exact op_add_str pins s σ H x y v u Q I rx ry ⟨_, _, i_str h1, i_str h2, Nat.le_trans hl (by decide), end_val r (vr_str _ _ _) af⟩
      · exact af.elim
    · exact af.elim
  · split at af
    · split at af
      · rename_i hl
        obtain ⟨a, vs, rfl, q1, q2⟩ := i_tup h1
        obtain ⟨b, us, rfl, q3, q4⟩ := i_tup h2
        refine op_catX pins s σ H _ _ v u Q I rx ry ⟨a, b, vs, us, rfl, rfl, q1.sq, q3.sq, by rw [q2.length, q4.length]; exact Nat.le_trans hl (by decide), fun e => ?_, fun e e2 => ?_, fun e e2 => end_tup r (q2.append q4) af⟩
        · refine end_val r ?_ af
          have : (VRs.append q2 q4) = (VRs.append q2 q4) := rfl
          have k := q2.append q4
          rw [e, List.nil_append] at k
          unfold VR
          exact ⟨b, us, rfl, q3, k⟩
        · refine end_val r ?_ af
          have k := q2.append q4
          rw [e2, List.append_nil] at k
          unfold VR
          exact ⟨a, vs, rfl, q1, k⟩
      · exact af.elim
    · exact af.elim
  · split at af
    · split at af
      · rename_i hl
        obtain ⟨a, vs, rfl, q1, _, q2⟩ := i_lst h1
        obtain ⟨b, us, rfl, q3, _, q4⟩ := i_lst h2
        exact op_cat pins s σ H _ _ v u Q I rx ry ⟨a, b, vs, us, rfl, rfl, q1, q3, by rw [q2.length, q4.length]; exact Nat.le_trans hl (by decide), end_lst r (q2.append q4) af⟩
      · exact af.elim
    · exact af.elim
  · exact af.elim
theorem VRs.rep {Z : Addr → Prop} {μ : List Addr} {H : Hp} {ws : List W} {vs : List V} (h : VRs G Z μ H ws vs) : ∀ k : Nat, VRs G Z μ H (repL k ws) (repL k vs)
  | 0 => VRs.nil
  | k + 1 => by
    unfold repL
    rw [List.replicate_succ, List.replicate_succ, List.flatten_cons, List.flatten_cons]
    exact h.append (VRs.rep h k)
theorem o_mul : OpR X (binaryOp .Mult) (rM G E mulW) := by
  intro pins s σ H x y v u Q I rx ry ⟨w1, w2, S, Z, μ, r, h1, h2, af⟩
  unfold mulW at af
  split at af
  · split at af
    · split at af
      · rename_i hs
        simp only [small, Bool.or_eq_true, Bool.and_eq_true, decide_eq_true_eq] at hs
        rcases hs with hs | hs
        · exact op_mul pins s σ H x y v u Q I rx ry ⟨_, _, i_int h1, i_int h2, hs, end_val r (vr_int _ _ _) af⟩
        · exact op_mulW pins s σ H x y v u Q I rx ry ⟨_, _, i_int h1, i_int h2, hs, end_val r (vr_int _ _ _) af⟩
      · exact af.elim
    · exact af.elim
  · split at af
    · split at af
      · rename_i hs
        simp only [Bool.and_eq_true, decide_eq_true_eq] at hs
        obtain ⟨a, vs, rfl, q1, _, q2⟩ := i_lst h1
        exact op_rep pins s σ H _ _ v u Q I rx ry ⟨a, _, vs, rfl, i_int h2, q1, by omega, by omega, by rw [q2.length]; exact Nat.le_trans hs.2 (by decide), end_lst r (q2.rep _) af⟩
      · exact af.elim
    · exact af.elim
  · split at af
    · split at af
      · rename_i hs
        simp only [Bool.and_eq_true, decide_eq_true_eq] at hs
        rename_i ws _ k
        obtain ⟨a, vs, rfl, q1, q2⟩ := i_tup h1
        have hl := q2.length
        by_cases e1 : vs = [] ∨ k = 1
        · have e2 : repL k.toNat ws = ws := by
            rcases e1 with e | e
            · rw [e] at hl
              rw [List.eq_nil_of_length_eq_zero hl.symm]
              unfold repL; simp
            · subst e; unfold repL; simp
          rw [e2] at af
          exact op_repT1 pins s σ H _ _ v u Q I rx ry ⟨a, _, vs, rfl, i_int h2, q1.sq, e1, hs.1.1, hs.1.2, end_val r h1 af⟩
        · have e2 : vs ≠ [] := fun e => e1 (.inl e)
          have e3 : k ≠ 1 := fun e => e1 (.inr e)
          by_cases e4 : k ≤ 0
          · have e5 : repL k.toNat ws = [] := by
              rw [show k.toNat = 0 by omega]; rfl
            rw [e5] at af
            exact op_repT0 pins s σ H _ _ v u Q I rx ry ⟨a, _, vs, rfl, i_int h2, q1.sq, e2, e4, hs.1.1, end_tup r VRs.nil af⟩
          · exact op_repX pins s σ H _ _ v u Q I rx ry ⟨a, _, vs, rfl, i_int h2, q1.sq, e2, by omega, hs.1.2, by rw [hl]; exact hs.2, end_tup r (q2.rep _) af⟩
      · exact af.elim
    · exact af.elim
  · exact af.elim
theorem o_neg : UnR X (unaryOp .USub) (uM G E negW) := by
  intro pins s σ H x v Q I rx ⟨w, S, Z, μ, r, h1, af⟩
  unfold negW at af
  split at af
  · exact un_neg pins s σ H x v Q I rx ⟨_, i_int h1, end_val r (vr_int _ _ _) af⟩
  · exact af.elim
end

/-! ### == and != -/
mutual
def W.data : W → Option PyData
  | .non => some .none
  | .bl b => some (.bool b)
  | .int i => some (.int i)
  | .str x => some (.str x)
  | .tup ws => match datas ws with
    | some ds => some (.tuple ds)
    | none => none
  | .lst ws => match datas ws with
    | some ds => some (.list ds)
    | none => none
  | _ => none
def datas : List W → Option (List PyData)
  | [] => some []
  | w :: ws => match w.data with
    | some d => match datas ws with
      | some ds => some (d :: ds)
      | none => none
    | none => none
end
/-- the value's data; a list of the store at the top is looked at -/
def dataS (S : Sto) (w : W) : Option PyData := match w with
  | .ref n => match S[n]? with
    | some (.lst ws) => (W.lst ws).data
    | _ => none
  | w => w.data
def eqD (x y : W) (S : Sto) : Option Bool := match dataS S x with
  | some d => match dataS S y with
    | some e => if SeqAt.shaped d && SeqAt.shaped e then some (PyData.eqv d e) else none
    | none => none
  | none => none
def eqW (x y : W) (S : Sto) : R W := match eqD x y S with
  | some b => .ok (.bl b) S
  | none => .stuck
def neW (x y : W) (S : Sto) : R W := match eqD x y S with
  | some b => .ok (.bl (!b)) S
  | none => .stuck
section
variable {X : Cx} {G : Glo} {E : XK} {Z : Addr → Prop} {μ : List Addr} {H : Hp} {S : Sto}
mutual
theorem data_dp : ∀ {w : W} {v : V} {d : PyData}, w.data = some d → VR G Z μ H w v → Dp G.K H v d
  | .non, v, d, e, h => by unfold W.data at e; cases e; rw [i_non h]; exact .non
  | .bl b, v, d, e, h => by unfold W.data at e; cases e; rw [i_bl h]; exact .bl b
  | .int i, v, d, e, h => by unfold W.data at e; cases e; rw [i_int h]; exact .int i
  | .str i, v, d, e, h => by unfold W.data at e; cases e; rw [i_str h]; exact .str i
  | .tup ws, v, d, e, h => by
    unfold W.data at e
    cases e1 : datas ws with
    | none => rw [e1] at e; cases e
    | some ds =>
      rw [e1] at e; cases e
      obtain ⟨a, vs, rfl, h1, h2⟩ := i_tup h
      exact .tup h1.sq (data_dps e1 h2)
  | .lst ws, v, d, e, h => by
    unfold W.data at e
    cases e1 : datas ws with
    | none => rw [e1] at e; cases e
    | some ds =>
      rw [e1] at e; cases e
      obtain ⟨a, vs, rfl, h1, _, h2⟩ := i_lst h
      exact .lst (.inl (.inl h1)) (data_dps e1 h2)
  | .ty _, _, _, e, _ => by unfold W.data at e; cases e
  | .ref _, _, _, e, _ => by unfold W.data at e; cases e
  | .glob _, _, _, e, _ => by unfold W.data at e; cases e
  | .exc _, _, _, e, _ => by unfold W.data at e; cases e
  | .clo _ _, _, _, e, _ => by unfold W.data at e; cases e
  | .scr _, _, _, e, _ => by unfold W.data at e; cases e
  | .ed, _, _, e, _ => by unfold W.data at e; cases e
theorem data_dps : ∀ {ws : List W} {vs : List V} {ds : List PyData}, datas ws = some ds → VRs G Z μ H ws vs → DpAll G.K H vs ds
  | [], vs, ds, e, h => by unfold datas at e; cases e; unfold VRs at h; subst h; exact .nil
  | w :: ws, vs, ds, e, h => by
    unfold datas at e
    cases e1 : w.data with
    | none => rw [e1] at e; cases e
    | some d =>
      rw [e1] at e
      cases e2 : datas ws with
      | none => rw [e2] at e; cases e
      | some ds' =>
        rw [e2] at e; cases e
        unfold VRs at h
        obtain ⟨v, q, rfl, h1, h2⟩ := h
        exact .cons (data_dp e1 h1) (data_dps e2 h2)
end
theorem dataS_dp (r : Rel G Z μ H S) {w : W} {v : V} {d : PyData} (e : dataS S w = some d) (h : VR G Z μ H w v) : Dp G.K H v d := by
  unfold dataS at e
  split at e
  · split at e
    · rename_i hs
      obtain ⟨a, vs, rfl, h1, h2, h3⟩ := r.lst h hs
      unfold W.data at e
      split at e
      · rename_i e1
        cases e
        exact .lst (.inl (.inl h2)) (data_dps e1 h3)
      · cases e
    · cases e
  · exact data_dp e h
theorem eqD_ok (r : Rel G Z μ H S) {w u : W} {x y : V} {b : Bool} (e : eqD w u S = some b) (h : VR G Z μ H w x) (k : VR G Z μ H u y) : ∃ d e', Dp G.K H x d ∧ Dp G.K H y e' ∧ SeqAt.shaped d = true ∧ SeqAt.shaped e' = true ∧ b = PyData.eqv d e' := by
  unfold eqD at e
  split at e
  · rename_i d e1
    split at e
    · rename_i d2 e2
      split at e
      · rename_i hs
        cases e
        have hs' := Bool.and_eq_true_iff.mp hs
        exact ⟨d, d2, dataS_dp r e1 h, dataS_dp r e2 k, hs'.1, hs'.2, rfl⟩
      · cases e
    · cases e
  · cases e
theorem o_eq (hK : X.K = G.K) (hu : X.A.units + 64 < cLine) : OpR X (compareOp .Eq) (rM G E eqW) := by
  intro pins s σ H x y v u Q I rx ry ⟨w1, w2, S, Z, μ, r, h1, h2, af⟩
  unfold eqW at af
  split at af
  · rename_i b e
    obtain ⟨d, d2, q1, q2, q3, q4, rfl⟩ := eqD_ok r e h1 h2
    exact op_eqD hu pins s σ H x y v u Q I rx ry ⟨d, d2, by rw [hK]; exact q1, by rw [hK]; exact q2, q3, q4, end_val r (vr_bl _ _ _) af⟩
  · exact af.elim
theorem o_ne (hK : X.K = G.K) (hu : X.A.units + 64 < cLine) : OpR X (compareOp .NotEq) (rM G E neW) := by
  intro pins s σ H x y v u Q I rx ry ⟨w1, w2, S, Z, μ, r, h1, h2, af⟩
  unfold neW at af
  split at af
  · rename_i b e
    obtain ⟨d, d2, q1, q2, q3, q4, rfl⟩ := eqD_ok r e h1 h2
    exact op_neD hu pins s σ H x y v u Q I rx ry ⟨d, d2, by rw [hK]; exact q1, by rw [hK]; exact q2, q3, q4, end_val r (vr_bl _ _ _) af⟩
  · exact af.elim
end
/-! ### is -/
def isNon : W → Bool
  | .non => true
  | _ => false
def isW (x y : W) (S : Sto) : R W := match y with
  | .non => (match x with
    | .non => .ok (.bl true) S
    | _ => .ok (.bl false) S)
  | .bl b => (match x with
    | .bl a => .ok (.bl (a == b)) S
    | _ => .stuck)
  | _ => .stuck
def isntW (x y : W) (S : Sto) : R W := match isW x y S with
  | .ok (.bl b) S => .ok (.bl (!b)) S
  | r => r
section
variable {X : Cx} {G : Glo} {E : XK} {Z : Addr → Prop} {μ : List Addr} {H : Hp} {S : Sto}
theorem vr_is_non {w : W} {v : V} (h : VR G Z μ H w v) : decide (v = .non) = isNon w := by
  cases w with
  | non => rw [i_non h]; rfl
  | bl b => rw [i_bl h]; rfl
  | int b => rw [i_int h]; rfl
  | str b => rw [i_str h]; rfl
  | ty b => rw [i_ty h]; rfl
  | tup b => obtain ⟨a, vs, rfl, _⟩ := i_tup h; rfl
  | itm b => obtain ⟨a, vs, rfl, _⟩ := i_itm h; rfl
  | lst b => obtain ⟨a, vs, rfl, _⟩ := i_lst h; rfl
  | ref b => obtain ⟨a, _, rfl⟩ := i_ref h; rfl
  | glob b => unfold VR at h; obtain ⟨a, _, rfl⟩ := h; rfl
  | exc b => unfold VR at h; obtain ⟨a, rfl, _⟩ := h; rfl
  | clo b c => unfold VR at h; obtain ⟨a, vs, rfl, _⟩ := h; rfl
  | scr b => obtain ⟨a, rfl, _⟩ := i_scr h; rfl
  | ed => unfold VR at h; obtain ⟨a, rfl, _⟩ := h; rfl
theorem o_is : OpR X (compareOp .Is) (rM G E isW) := by
  intro pins s σ H x y v u Q I rx ry ⟨w1, w2, S, Z, μ, r, h1, h2, af⟩
  cases w2 with
  | non =>
    refine op_isN pins s σ H x y v u Q I rx ry ⟨i_non h2, ?_⟩
    rw [vr_is_non h1]
    cases w1 <;> exact end_val r (vr_bl _ _ _) af
  | bl b =>
    cases w1 with
    | bl a =>
      refine op_is_bl pins s σ H x y v u Q I rx ry ⟨a, b, i_bl h1, i_bl h2, ?_⟩
      have e : (a == b) = decide (a = b) := Bool.beq_eq_decide_eq a b
      unfold isW at af
      rw [← e]
      exact end_val r (vr_bl _ _ _) af
    | _ => exact af.elim
  | _ => exact af.elim
theorem o_isnt : OpR X (compareOp .IsNot) (rM G E isntW) := by
  intro pins s σ H x y v u Q I rx ry ⟨w1, w2, S, Z, μ, r, h1, h2, af⟩
  cases w2 with
  | non =>
    refine op_notN pins s σ H x y v u Q I rx ry ⟨i_non h2, ?_⟩
    rw [vr_is_non h1]
    cases w1 <;> exact end_val r (vr_bl _ _ _) af
  | bl b =>
    cases w1 with
    | bl a =>
      refine op_isnot_bl pins s σ H x y v u Q I rx ry ⟨a, b, i_bl h1, i_bl h2, ?_⟩
      have e : (a == b) = decide (a = b) := Bool.beq_eq_decide_eq a b
      unfold isntW isW at af
      dsimp only at af
      rw [← e]
      exact end_val r (vr_bl _ _ _) af
    | _ => exact af.elim
  | _ => exact af.elim
end
end Mo

set_option Elab.async false
set_option linter.all false
set_option maxRecDepth 100000
set_option autoImplicit false
/-! Mon7: items, lengths, types, built-ins, methods, stores. -/
namespace Mo
open PySem PySem.Spec L2
open PyProof.Rows hiding St

/-! ### x[i] -/
def idxW (x y : W) (S : Sto) : R W := match y with
  | .int i => (match x with
    | .tup ws => (match L2.atI ws i with
      | some w => .ok w S
      | none => .stuck)
    | .str z => (match L2.atI z.cps.toList i with
      | some c => if z.length ≤ 100000 then .ok (.str ⟨#[c]⟩) S else .stuck
      | none => .stuck)
    | x => (match itemsL S x with
      | some ws => (match L2.atI ws i with
        | some w => .ok w S
        | none => .stuck)
      | none => .stuck))
  | _ => .stuck
section
variable {X : Cx} {G : Glo} {E : XK}
theorem o_idx (hK : X.K = G.K) : IxR X (rM G E idxW) := by
  intro value slice pins s σ H x y v u Q I rx ry ⟨w1, w2, S, Z, μ, r, h1, h2, af⟩ hs
  refine ix_seq value slice pins s σ H x y v u Q I rx ry ?_ hs
  unfold idxW at af
  split at af
  · split at af
    · split at af
      · rename_i e
        obtain ⟨a, vs, rfl, q1, q2⟩ := i_tup h1
        obtain ⟨z, k1, k2⟩ := q2.atI e
        exact .inr (.inl ⟨a, vs, _, z, rfl, i_int h2, q1.sq, k1, end_val r k2 af⟩)
      · exact af.elim
    · split at af
      · rename_i e
        split at af
        · rename_i hl
          exact .inr (.inr ⟨_, _, _, i_str h1, i_int h2, Nat.le_trans hl (by decide), e, end_val r (vr_str _ _ _) af⟩)
        · exact af.elim
      · exact af.elim
    · split at af
      · rename_i e
        split at af
        · rename_i e2
          obtain ⟨a, vs, rfl, q1, q2⟩ := itemsL_ok r e h1
          obtain ⟨z, k1, k2⟩ := q2.atI e2
          exact .inl ⟨a, vs, _, z, rfl, i_int h2, by rw [hK]; exact q1, k1, end_val r k2 af⟩
        · exact af.elim
      · exact af.elim
  · exact af.elim
end
/-! ### built-ins -/
def lenW (ws : List W) (S : Sto) : R W := match ws with
  | [.tup xs] => .ok (.int xs.length) S
  | [.str z] => if z.length ≤ 100000 then .ok (.int z.length) S else .stuck
  | [x] => (match itemsL S x with
    | some xs => .ok (.int xs.length) S
    | none => (match x with
      | .ref n => (match S[n]? with
        | some (.dict kvs) => .ok (.int kvs.length) S
        | _ => .stuck)
      | _ => .stuck))
  | _ => .stuck
/-- which built-in class a value is of -/
def tyW (S : Sto) : W → Option String
  | .non => some "NoneType"
  | .bl _ => some "bool"
  | .int _ => some "int"
  | .str _ => some "str"
  | .tup _ => some "tuple"
  | .lst _ => some "list"
  | .ed => some "dict"
  | .ref n => match S[n]? with
    | some (.lst _) => some "list"
    | some (.dict _) => some "dict"
    | _ => none
  | _ => none
/-- T <= n -/
def subT (T n : String) : Option Bool := if ["int", "bool", "str", "tuple", "list", "dict"].contains n then some (T == n || (T == "bool" && n == "int")) else none
def isiW (ws : List W) (S : Sto) : R W := match ws with
  | [x, .ty n] => (match tyW S x with
    | some T => (match subT T n with
      | some b => .ok (.bl b) S
      | none => .stuck)
    | none => .stuck)
  | [x, .tup [.ty n, .ty m]] => (match tyW S x with
    | some T => (match subT T n with
      | some b => (match subT T m with
        | some c => .ok (.bl (b || c)) S
        | none => .stuck)
      | none => .stuck)
    | none => .stuck)
  | _ => .stuck
def bools : List W → Option (List Bool)
  | [] => some []
  | .bl b :: ws => match bools ws with
    | some bs => some (b :: bs)
    | none => none
  | _ => none
def intsW : List W → Option (List Int)
  | [] => some []
  | .int b :: ws => match intsW ws with
    | some bs => some (b :: bs)
    | none => none
  | _ => none
def onList {α : Type} (f : List W → Option α) (g : α → W) (ws : List W) (S : Sto) : R W := match ws with
  | [x] => (match itemsL S x with
    | some xs => (match f xs with
      | some bs => .ok (g bs) S
      | none => .stuck)
    | none => .stuck)
  | _ => .stuck
def allW : List W → Sto → R W := onList bools fun bs => .bl (bs.all id)
def anyW : List W → Sto → R W := onList bools fun bs => .bl (bs.any id)
def sumW : List W → Sto → R W := onList intsW fun ns => .int ns.sum
def maxI : List Int → Int
  | [] => 0
  | [n] => n
  | n :: ns => let m := maxI ns; if n < m then m else n
def minI : List Int → Int
  | [] => 0
  | [n] => n
  | n :: ns => let m := minI ns; if m < n then m else n
def nonempty (f : List W → Option (List Int)) (ws : List W) : Option (List Int) := match f ws with
  | some (n :: ns) => some (n :: ns)
  | _ => none
def maxW : List W → Sto → R W := onList (nonempty intsW) fun ns => .int (maxI ns)
def minW : List W → Sto → R W := onList (nonempty intsW) fun ns => .int (minI ns)
def max2W (ws : List W) (S : Sto) : R W := match ws with
  | [.int i, .int j] => .ok (.int (if j > i then j else i)) S
  | _ => .stuck
def min2W (ws : List W) (S : Sto) : R W := match ws with
  | [.int i, .int j] => .ok (.int (if j < i then j else i)) S
  | _ => .stuck
def absW (ws : List W) (S : Sto) : R W := match ws with
  | [.int i] => .ok (.int (if i < 0 then -i else i)) S
  | _ => .stuck
def intW (ws : List W) (S : Sto) : R W := match ws with
  | [.int i] => .ok (.int i) S
  | [.bl b] => .ok (.int (if b then 1 else 0)) S
  | _ => .stuck
def listW (ws : List W) (S : Sto) : R W := match ws with
  | [.tup xs] => .ok (.lst xs) S
  | [x] => (match itemsL S x with
    | some xs => .ok (.lst xs) S
    | none => .stuck)
  | _ => .stuck
/-- list(..) whose list is changed later -/
def listN (ws : List W) (S : Sto) : R W := match ws with
  | [.tup xs] => .ok (.ref S.length) (S ++ [.lst xs])
  | [x] => (match itemsL S x with
    | some xs => .ok (.ref S.length) (S ++ [.lst xs])
    | none => .stuck)
  | _ => .stuck
def tupleW (ws : List W) (S : Sto) : R W := match ws with
  | [.tup xs] => .ok (.tup xs) S
  | [x] => (match itemsL S x with
    | some xs => .ok (.tup xs) S
    | none => .stuck)
  | _ => .stuck
section
variable {X : Cx} {G : Glo} {E : XK} {Z : Addr → Prop} {μ : List Addr} {H : Hp} {S : Sto}
theorem KVR.length : ∀ {kvs : List (Key × W)} {es : List (Key × V)}, KVR G Z μ H kvs es → es.length = kvs.length
  | [], es, h => by unfold KVR at h; subst h; rfl
  | (k', w) :: kvs, es, h => by
    unfold KVR at h
    obtain ⟨v, r, rfl, h1, h2⟩ := h
    simp [KVR.length h2]
theorem c_len (hK : X.K = G.K) : CallR X (.builtin "len") (cM G E lenW) := by
  intro pins s σ H vs us Q I rv ⟨ws, S, Z, μ, r, hv, af⟩
  unfold lenW at af
  split at af
  · obtain ⟨v, rfl, h1⟩ := one_of hv
    obtain ⟨a, xs, rfl, q1, q2⟩ := i_tup h1
    refine call_len_seq pins s σ H _ us Q I rv ⟨a, xs, rfl, .inr q1.sq, ?_⟩
    rw [q2.length]
    exact end_val r (vr_int _ _ _) af
  · obtain ⟨v, rfl, h1⟩ := one_of hv
    split at af
    · rename_i hl
      exact call_len_str pins s σ H _ us Q I rv ⟨_, by rw [i_str h1], Nat.le_trans hl (by decide), end_val r (vr_int _ _ _) af⟩
    · exact af.elim
  · obtain ⟨v, rfl, h1⟩ := one_of hv
    split at af
    · rename_i e
      obtain ⟨a, xs, rfl, q1, q2⟩ := itemsL_ok r e h1
      refine call_len_seq pins s σ H _ us Q I rv ⟨a, xs, rfl, .inl (by rw [hK]; exact q1), ?_⟩
      rw [q2.length]
      exact end_val r (vr_int _ _ _) af
    · split at af
      · split at af
        · rename_i hs
          obtain ⟨a, k1, rfl⟩ := i_ref h1
          obtain ⟨es, k2, k3⟩ := r.ob _ a _ k1 hs
          refine call_lenD pins s σ H _ us Q I rv ⟨a, es, rfl, k2, ?_⟩
          rw [k3.length]
          exact end_val r (vr_int _ _ _) af
        · exact af.elim
      · exact af.elim
  · exact af.elim
theorem tyW_ok (r : Rel G Z μ H S) {w : W} {v : V} {T : String} (e : tyW S w = some T) (h : VR G Z μ H w v) : TyX G.K H v (.type T) := by
  unfold tyW at e
  split at e
  · cases e; rw [i_non h]; exact .base .non
  · cases e; rw [i_bl h]; exact .base (.bl _)
  · cases e; rw [i_int h]; exact .base (.int _)
  · cases e; rw [i_str h]; exact .base (.str _)
  · cases e; obtain ⟨a, vs, rfl, q1, _⟩ := i_tup h; obtain ⟨_, _, q1⟩ := q1.ex; exact .fTuple q1
  · cases e; obtain ⟨a, vs, rfl, q1, _⟩ := i_lst h; exact .base (.lst q1)
  · cases e
    unfold VR at h
    obtain ⟨a, rfl, q1, _⟩ := h
    exact .base (.dK q1)
  · split at e
    · rename_i hs; cases e
      obtain ⟨a, vs, rfl, _, q1, _⟩ := r.lst h hs
      exact .base (.lst q1)
    · rename_i hs; cases e
      obtain ⟨a, h1, rfl⟩ := i_ref h
      obtain ⟨es, h2, _⟩ := r.ob _ a _ h1 hs
      exact .base (.dK h2)
    · cases e
  · cases e
theorem subT_ok {K : PySem.W.Frag} {n : String} {w : W} {T : String} {b : Bool} (e : tyW S w = some T) (h : subT T n = some b) : PySem.W.kitOne K (.type T) (.type n) = some b := by
  have hn : n = "int" ∨ n = "bool" ∨ n = "str" ∨ n = "tuple" ∨ n = "list" ∨ n = "dict" := by
    unfold subT at h
    split at h
    · rename_i hc
      simpa using hc
    · cases h
  have hT : T = "NoneType" ∨ T = "bool" ∨ T = "int" ∨ T = "str" ∨ T = "tuple" ∨ T = "list" ∨ T = "dict" := by
    unfold tyW at e
    split at e <;> first | (cases e; simp; done) | skip
    · split at e <;> first | (cases e; simp; done) | (cases e)
    · cases e
  rcases hn with rfl | rfl | rfl | rfl | rfl | rfl <;> rcases hT with rfl | rfl | rfl | rfl | rfl | rfl | rfl <;> (have hb : some b = _ := h.symm; refine Eq.trans (kit_ty (K := K) (r := b) ?_) rfl; rw [hb]; decide +kernel)
/-- isinstance(x, (c1, c2)): the tuple known whole -/
theorem call_isiX : CallR X (.builtin "isinstance") (fun xs H Q => ∃ (x : V) (tp : Addr) (cs : List V) (t : Value) (us : List Value) (b : Bool), xs = [x, .ref tp] ∧ XT H tp cs ∧ Paired ClsV cs us ∧ TyX X.K H x t ∧ PySem.W.kitAny X.K t us = some b ∧ Q (.bl b) H) := by
  intro pins s σ H xs us Q I r ⟨x, tp, cs, t, ws, b, e0, hT, k, ty, e, q⟩
  subst e0
  obtain ⟨u1, u2, rfl, r1, r2⟩ := vals2 r
  cases (show u2 = Value.ref tp from r2)
  obtain ⟨P', Z', p, hx⟩ := kit_of I r1 ty
  obtain ⟨ob, _, hT⟩ := hT.ex
  obtain ⟨_, _, its, rv, o, h1, h2, n, h3⟩ := (show ObjOk X.prog X.w H s.heap tp (.frz ob (.tup cs)) from I.hok tp _ hT)
  cases ClsV.all k rv
  obtain ⟨oc, od, dt, sl⟩ := o
  simp only at h2 h3
  subst h2 h3
  exact PySem.W.kia_tup Z' I.kIn p h1 e hx fun tk => ⟨.bl b, H, I.tok tk, rfl, q⟩
theorem c_isi (hK : X.K = G.K) : CallR X (.builtin "isinstance") (cM G E isiW) := by
  intro pins s σ H vs us Q I rv ⟨ws, S, Z, μ, r, hv, af⟩
  unfold isiW at af
  split at af
  · rename_i x n
    split at af
    · rename_i T e
      split at af
      · rename_i b e2
        obtain ⟨v, u, rfl, h1, h2⟩ := two_of hv
        refine call_isi pins s σ H _ us Q I rv ⟨v, u, .type T, .type n, b, rfl, by rw [i_ty h2]; exact .ty n, by rw [hK]; exact tyW_ok r e h1, subT_ok e e2, end_val r (vr_bl _ _ _) af⟩
      · exact af.elim
    · exact af.elim
  · rename_i x n m
    split at af
    · rename_i T e
      split at af
      · rename_i b e2
        split at af
        · rename_i c e3
          obtain ⟨v, u, rfl, h1, h2⟩ := two_of hv
          obtain ⟨tp, cs, rfl, q1, q2⟩ := i_tup h2
          obtain ⟨c1, c2, rfl, k1, k2⟩ := two_of q2
          rw [i_ty k1, i_ty k2] at q1
          refine call_isiX pins s σ H _ us Q I rv ⟨v, tp, _, .type T, [.type n, .type m], b || c, rfl, q1, .cons (.ty n) (.cons (.ty m) .nil), by rw [hK]; exact tyW_ok r e h1, ?_, end_val r (vr_bl _ _ _) af⟩
          refine kitAny_cons (subT_ok e e2) (fun hb => ?_) (fun hb => by rw [hb]; rfl)
          refine kitAny_cons (subT_ok e e3) (fun hc => ?_) (fun hc => by rw [hc, Bool.or_true])
          rw [hb, hc]
          exact kitAny_nil
        · exact af.elim
      · exact af.elim
    · exact af.elim
  · exact af.elim
theorem bools_ok : ∀ {ws : List W} {vs : List V} {bs : List Bool}, bools ws = some bs → VRs G Z μ H ws vs → vs = bs.map V.bl
  | [], vs, bs, e, h => by unfold bools at e; cases e; unfold VRs at h; exact h
  | w :: ws, vs, bs, e, h => by
    unfold VRs at h
    obtain ⟨v, q, rfl, h1, h2⟩ := h
    unfold bools at e
    split at e
    · cases ‹_ :: _ = []›
    · rename_i b ws' e0
      cases e0
      split at e
      · rename_i bs' e1
        cases e
        rw [i_bl h1, bools_ok e1 h2]; rfl
      · cases e
    · cases e
theorem intsW_ok : ∀ {ws : List W} {vs : List V} {bs : List Int}, intsW ws = some bs → VRs G Z μ H ws vs → vs = bs.map V.int
  | [], vs, bs, e, h => by unfold intsW at e; cases e; unfold VRs at h; exact h
  | w :: ws, vs, bs, e, h => by
    unfold VRs at h
    obtain ⟨v, q, rfl, h1, h2⟩ := h
    unfold intsW at e
    split at e
    · cases ‹_ :: _ = []›
    · rename_i b ws' e0
      cases e0
      split at e
      · rename_i bs' e1
        cases e
        rw [i_int h1, intsW_ok e1 h2]; rfl
      · cases e
    · cases e
theorem onList_ok {α : Type} {f : List W → Option α} {g : α → W} {ws : List W} {vs : List V} {Q : VK} (r : Rel G Z μ H S) (hv : VRs G Z μ H ws vs) (af : Aft G E Z μ H (onList f g ws S) (PQ G Q)) : ∃ a us xs bs, vs = [.ref a] ∧ SqL G.K H a us ∧ VRs G Z μ H xs us ∧ f xs = some bs ∧ Aft G E Z μ H (.ok (g bs) S) (PQ G Q) := by
  unfold onList at af
  split at af
  · split at af
    · rename_i e
      split at af
      · rename_i e2
        obtain ⟨v, rfl, h1⟩ := one_of hv
        obtain ⟨a, xs, rfl, q1, q2⟩ := itemsL_ok r e h1
        exact ⟨a, xs, _, _, rfl, q1, q2, e2, af⟩
      · exact af.elim
    · exact af.elim
  · exact af.elim
theorem c_all (hK : X.K = G.K) (hc : X.calm = true) : CallR X (.builtin "all") (cM G E allW) := by
  intro pins s σ H vs us Q I rv ⟨ws, S, Z, μ, r, hv, af⟩
  obtain ⟨a, us', xs, bs, rfl, q1, q2, e, af⟩ := onList_ok r hv af
  exact cr_all hc pins s σ H _ us Q I rv ⟨a, bs, rfl, by rw [hK, ← bools_ok e q2]; exact q1, end_val r (vr_bl _ _ _) af⟩
theorem c_any (hK : X.K = G.K) (hc : X.calm = true) : CallR X (.builtin "any") (cM G E anyW) := by
  intro pins s σ H vs us Q I rv ⟨ws, S, Z, μ, r, hv, af⟩
  obtain ⟨a, us', xs, bs, rfl, q1, q2, e, af⟩ := onList_ok r hv af
  exact cr_any hc pins s σ H _ us Q I rv ⟨a, bs, rfl, by rw [hK, ← bools_ok e q2]; exact q1, end_val r (vr_bl _ _ _) af⟩
theorem c_sum (hK : X.K = G.K) (hc : X.calm = true) : CallR X (.builtin "sum") (cM G E sumW) := by
  intro pins s σ H vs us Q I rv ⟨ws, S, Z, μ, r, hv, af⟩
  obtain ⟨a, us', xs, bs, rfl, q1, q2, e, af⟩ := onList_ok r hv af
  exact cr_sum hc pins s σ H _ us Q I rv ⟨a, bs, rfl, by rw [hK, ← intsW_ok e q2]; exact q1, end_val r (vr_int _ _ _) af⟩
theorem maxI_mem : ∀ (n : Int) (ns : List Int), maxI (n :: ns) ∈ n :: ns ∧ ∀ y, y ∈ n :: ns → y ≤ maxI (n :: ns)
  | n, [] => by simp [maxI]
  | n, m :: ms => by
    obtain ⟨h1, h2⟩ := maxI_mem m ms
    have e : maxI (n :: m :: ms) = if n < maxI (m :: ms) then maxI (m :: ms) else n := rfl
    rw [e]
    by_cases h : n < maxI (m :: ms)
    · rw [if_pos h]
      exact ⟨List.mem_cons_of_mem _ h1, fun y hy => (List.mem_cons.mp hy).elim (fun e => by omega) (h2 y)⟩
    · rw [if_neg h]
      exact ⟨List.mem_cons_self, fun y hy => (List.mem_cons.mp hy).elim (fun e => by omega) fun hy => by have := h2 y hy; omega⟩
theorem minI_mem : ∀ (n : Int) (ns : List Int), minI (n :: ns) ∈ n :: ns ∧ ∀ y, y ∈ n :: ns → minI (n :: ns) ≤ y
  | n, [] => by simp [minI]
  | n, m :: ms => by
    obtain ⟨h1, h2⟩ := minI_mem m ms
    have e : minI (n :: m :: ms) = if minI (m :: ms) < n then minI (m :: ms) else n := rfl
    rw [e]
    by_cases h : minI (m :: ms) < n
    · rw [if_pos h]
      exact ⟨List.mem_cons_of_mem _ h1, fun y hy => (List.mem_cons.mp hy).elim (fun e => by omega) (h2 y)⟩
    · rw [if_neg h]
      exact ⟨List.mem_cons_self, fun y hy => (List.mem_cons.mp hy).elim (fun e => by omega) fun hy => by have := h2 y hy; omega⟩
theorem nonempty_ok {xs : List W} {ns : List Int} (e : nonempty intsW xs = some ns) : intsW xs = some ns ∧ ∃ n ms, ns = n :: ms := by
  unfold nonempty at e
  split at e
  · rename_i n ms e1
    cases e
    exact ⟨e1, n, ms, rfl⟩
  · cases e
theorem c_max (hK : X.K = G.K) (hc : X.calm = true) : CallR X (.builtin "max") (cM G E maxW) := by
  intro pins s σ H vs us Q I rv ⟨ws, S, Z, μ, r, hv, af⟩
  obtain ⟨a, us', xs, bs, rfl, q1, q2, e, af⟩ := onList_ok r hv af
  obtain ⟨e1, n, ms, rfl⟩ := nonempty_ok e
  refine cr_max hc pins s σ H _ us Q I rv ⟨a, _, rfl, by rw [hK, ← intsW_ok e1 q2]; exact q1, by simp, fun m hm hle => ?_⟩
  obtain ⟨k1, k2⟩ := maxI_mem n ms
  have : m = maxI (n :: ms) := Int.le_antisymm (k2 m hm) (hle _ k1)
  subst this
  exact end_val r (vr_int _ _ _) af
theorem c_min (hK : X.K = G.K) (hc : X.calm = true) : CallR X (.builtin "min") (cM G E minW) := by
  intro pins s σ H vs us Q I rv ⟨ws, S, Z, μ, r, hv, af⟩
  obtain ⟨a, us', xs, bs, rfl, q1, q2, e, af⟩ := onList_ok r hv af
  obtain ⟨e1, n, ms, rfl⟩ := nonempty_ok e
  refine cr_min hc pins s σ H _ us Q I rv ⟨a, _, rfl, by rw [hK, ← intsW_ok e1 q2]; exact q1, by simp, fun m hm hle => ?_⟩
  obtain ⟨k1, k2⟩ := minI_mem n ms
  have : m = minI (n :: ms) := Int.le_antisymm (hle _ k1) (k2 m hm)
  subst this
  exact end_val r (vr_int _ _ _) af
theorem c_max2 (hc : X.calm = true) : CallR X (.builtin "max") (cM G E max2W) := by
  intro pins s σ H vs us Q I rv ⟨ws, S, Z, μ, r, hv, af⟩
  unfold max2W at af
  split at af
  · obtain ⟨v, u, rfl, h1, h2⟩ := two_of hv
    exact call_max2 hc pins s σ H _ us Q I rv ⟨_, _, by rw [i_int h1, i_int h2], end_val r (vr_int _ _ _) af⟩
  · exact af.elim
theorem c_min2 (hc : X.calm = true) : CallR X (.builtin "min") (cM G E min2W) := by
  intro pins s σ H vs us Q I rv ⟨ws, S, Z, μ, r, hv, af⟩
  unfold min2W at af
  split at af
  · obtain ⟨v, u, rfl, h1, h2⟩ := two_of hv
    exact call_min2 hc pins s σ H _ us Q I rv ⟨_, _, by rw [i_int h1, i_int h2], end_val r (vr_int _ _ _) af⟩
  · exact af.elim
theorem c_abs : CallR X (.builtin "abs") (cM G E absW) := by
  intro pins s σ H vs us Q I rv ⟨ws, S, Z, μ, r, hv, af⟩
  unfold absW at af
  split at af
  · obtain ⟨v, rfl, h1⟩ := one_of hv
    exact call_abs pins s σ H _ us Q I rv ⟨_, by rw [i_int h1], end_val r (vr_int _ _ _) af⟩
  · exact af.elim
theorem c_int : CallR X (.type "int") (cM G E intW) := by
  intro pins s σ H vs us Q I rv ⟨ws, S, Z, μ, r, hv, af⟩
  unfold intW at af
  split at af
  · obtain ⟨v, rfl, h1⟩ := one_of hv
    exact call_int1 pins s σ H _ us Q I rv (.inl ⟨_, by rw [i_int h1], end_val r (vr_int _ _ _) af⟩)
  · obtain ⟨v, rfl, h1⟩ := one_of hv
    exact call_int1 pins s σ H _ us Q I rv (.inr ⟨_, by rw [i_bl h1], end_val r (vr_int _ _ _) af⟩)
  · exact af.elim
theorem c_list (hK : X.K = G.K) : CallR X (.type "list") (cM G E listW) := by
  intro pins s σ H vs us Q I rv ⟨ws, S, Z, μ, r, hv, af⟩
  unfold listW at af
  split at af
  · obtain ⟨v, rfl, h1⟩ := one_of hv
    obtain ⟨a, xs, rfl, q1, q2⟩ := i_tup h1
    exact call_list_of pins s σ H _ us Q I rv ⟨a, xs, rfl, .inr q1.sq, end_lst r q2 af⟩
  · obtain ⟨v, rfl, h1⟩ := one_of hv
    split at af
    · rename_i e
      obtain ⟨a, xs, rfl, q1, q2⟩ := itemsL_ok r e h1
      exact call_list_of pins s σ H _ us Q I rv ⟨a, xs, rfl, .inl (by rw [hK]; exact q1), end_lst r q2 af⟩
    · exact af.elim
  · exact af.elim
theorem c_listN (hK : X.K = G.K) : CallR X (.type "list") (cM G E listN) := by
  intro pins s σ H vs us Q I rv ⟨ws, S, Z, μ, r, hv, af⟩
  unfold listN at af
  split at af
  · obtain ⟨v, rfl, h1⟩ := one_of hv
    obtain ⟨a, xs, rfl, q1, q2⟩ := i_tup h1
    exact call_list_of pins s σ H _ us Q I rv ⟨a, xs, rfl, .inr q1.sq, end_new r q2 af⟩
  · obtain ⟨v, rfl, h1⟩ := one_of hv
    split at af
    · rename_i e
      obtain ⟨a, xs, rfl, q1, q2⟩ := itemsL_ok r e h1
      exact call_list_of pins s σ H _ us Q I rv ⟨a, xs, rfl, .inl (by rw [hK]; exact q1), end_new r q2 af⟩
    · exact af.elim
  · exact af.elim
/-- tuple(list): what is new is known whole -/
theorem call_tuple_X : CallR X (.type "tuple") (fun xs H Q => ∃ p ys, xs = [.ref p] ∧ SqL X.K H p ys ∧ ∀ (l : Addr) (o : Obj), o.dict = none → H l = none → Q (.ref l) (upd H l (.frz o (.tup ys)))) := by
  intro pins s σ H xs us Q I r ⟨p, ys, e, hq, q⟩
  subst e
  obtain ⟨u, rfl, rx⟩ := vals1 r
  cases rx
  obtain ⟨its, r', pl, hz⟩ := I.list hq
  have hl := r'.length
  refine call_tuple_list pl.isList (fun h' kp => ?_) (by simp only [List.size_toArray] <;> omega)
  have I1 : Inv X pins σ H { s with heap := h' } := I.kept (t' := s.toks) kp
  exact ⟨.ref h'.objs.size, _, laid_tup I1 r' hz, rfl, q _ _ rfl (I1.hok.fresh (Nat.le_refl _))⟩
theorem c_tuple (hK : X.K = G.K) : CallR X (.type "tuple") (cM G E tupleW) := by
  intro pins s σ H vs us Q I rv ⟨ws, S, Z, μ, r, hv, af⟩
  unfold tupleW at af
  split at af
  · obtain ⟨v, rfl, h1⟩ := one_of hv
    obtain ⟨a, xs, rfl, q1, q2⟩ := i_tup h1
    exact call_tuple_of pins s σ H _ us Q I rv ⟨a, xs, rfl, .inr ⟨q1.sq, end_val r h1 af⟩⟩
  · obtain ⟨v, rfl, h1⟩ := one_of hv
    split at af
    · rename_i e
      obtain ⟨a, xs, rfl, q1, q2⟩ := itemsL_ok r e h1
      exact call_tuple_X pins s σ H _ us Q I rv ⟨a, xs, rfl, by rw [hK]; exact q1, end_tup r q2 af⟩
    · exact af.elim
  · exact af.elim
end
/-! ### methods of lists -/
def mMt (f : W → List W → Sto → R W) (a : ME) (r : MA) : ME := fun ρ S => (a ρ S).bind fun w S1 => match itemsL S1 w with
  | some _ => (r ρ S1).bind fun ws S2 => f w ws S2
  | none => .stuck
def appW (w : W) (ws : List W) (S : Sto) : R W := match w with
  | .ref n => (match S[n]? with
    | some (.lst xs) => (match ws with
      | [u] => if xs.length < 100000 then .ok .non (S.set n (.lst (xs ++ [u]))) else .stuck
      | _ => .stuck)
    | _ => .stuck)
  | _ => .stuck
def extW (w : W) (ws : List W) (S : Sto) : R W := match w with
  | .ref n => (match S[n]? with
    | some (.lst xs) => (match ws with
      | [.lst us] => if xs.length + us.length < 100000 then .ok .non (S.set n (.lst (xs ++ us))) else .stuck
      | _ => .stuck)
    | _ => .stuck)
  | _ => .stuck
def popAtW (w : W) (ws : List W) (S : Sto) : R W := match w with
  | .ref n => (match S[n]? with
    | some (.lst xs) => (match ws with
      | [.int i] => if decide (-100000 < i) && decide (i < 100000) then (match seqIndex? i xs.length with
        | some k => (match xs[k]? with
          | some u => .ok u (S.set n (.lst (xs.eraseIdx k)))
          | none => .stuck)
        | none => .stuck) else .stuck
      | _ => .stuck)
    | _ => .stuck)
  | _ => .stuck
section
variable {X : Cx} {G : Glo} {E : XK} {o e : Expr} {es : List Expr} {ma : ME} {mr : MA} {name : Str} {apos cpos : Pos} {id : String}
theorem mt_reads (hK : X.K = G.K) {f : W → List W → Sto → R W} {σ : L2.St} {H : Hp} {Q : VK} (h : tM G E (mMt f ma mr) σ H Q) : tBM X.K "list" (mtM G E f) (tM G E ma) (tMA G E mr) σ H Q := by
  obtain ⟨ρ, S, Z, μ, r, er, af⟩ := h
  refine ⟨ρ, S, Z, μ, r, er, Aft.imp (Aft.bind af) fun w Z1 μ1 H1 S1 _ g1 r1 a1 x hx => ?_⟩
  split at a1
  · rename_i e
    obtain ⟨a, vs, rfl, q1, q2⟩ := itemsL_ok r1 e hx
    refine ⟨.inl ⟨rfl, vs, by rw [hK]; exact q1⟩, ρ, S1, Z1, μ1, r1, er.mono r g1, Aft.imp (Aft.bind a1) fun ws Z2 μ2 H2 S2 _ g2 r2 a2 vs hvs => ?_⟩
    exact ⟨w, ws, S2, Z2, μ2, r2, hx.mono r1 g2, hvs, a2⟩
  · exact a1.elim
theorem em_mt (hK : X.K = G.K) {f : W → List W → Sto → R W} (slot : Slot "list" name id) (hty : typeOf (.builtin id) = pure (.type "method_descriptor")) (hm : MtR X id (mtM G E f)) (ho : PE X o (tM G E ma)) (ha : PA X (e :: es) (tMA G E mr))
    (hbase : attributeBase o name X.env (eval o X.env) = eval o X.env := by rfl)
    (hfew : ((backTo cpos (starEach (e :: es) X.env)).all (fun x => !x.1) && (backToKw cpos (keywordEach [] X.env)).all (fun x => x.1.isSome)
      && decide ((e :: es).length + ([] : List Keyword).length + (if ([] : List Keyword).isEmpty then 0 else 1) < 30)) = true := by rfl)
    (hline : (apos.endLine == cpos.line) = true := by rfl) (hs : starEach (e :: es) X.env = (false, eval e X.env) :: starEach es X.env := by rfl) (hplain : (backTo cpos (starEach es X.env)).any (·.1) = false := by rfl) :
    PE X (.Call (.Attribute o name apos) (e :: es) [] cpos) (tM G E (mMt f ma mr)) := (pe_bm PySem.F.plainAttrs_list slot hty hm ho ha hbase hfew hline hs hplain).weak fun σ H Q h => mt_reads hK h
theorem m_app : MtR X "list.append" (mtM G E appW) := by
  intro pins s σ H x vs v us Q I rx rv ⟨w, ws, S, Z, μ, r, hw, hv, af⟩
  unfold appW at af
  split at af
  · split at af
    · rename_i hs
      split at af
      · split at af
        · rename_i hl
          obtain ⟨a, xs, rfl, q0, q1, q2⟩ := r.lst hw hs
          obtain ⟨y, rfl, h1⟩ := one_of hv
          exact mt_append pins s σ H _ _ v us Q I rx rv ⟨a, xs, y, rfl, rfl, q1, by rw [q2.length]; exact Nat.lt_of_lt_of_le hl (by decide), end_put r q0 (q2.append (VRs.cons h1 VRs.nil)) (vr_non _ _ _) af⟩
        · exact af.elim
      · exact af.elim
    · exact af.elim
  · exact af.elim
theorem m_ext : MtR X "list.extend" (mtM G E extW) := by
  intro pins s σ H x vs v us Q I rx rv ⟨w, ws, S, Z, μ, r, hw, hv, af⟩
  unfold extW at af
  split at af
  · split at af
    · rename_i hs
      split at af
      · split at af
        · rename_i hl
          obtain ⟨a, xs, rfl, q0, q1, q2⟩ := r.lst hw hs
          obtain ⟨y, rfl, h1⟩ := one_of hv
          obtain ⟨b, zs, rfl, k1, _, k2⟩ := i_lst h1
          exact mt_extend pins s σ H _ _ v us Q I rx rv ⟨a, b, xs, zs, rfl, rfl, q1, k1, by rw [q2.length, k2.length]; exact Nat.le_of_lt (Nat.lt_of_lt_of_le hl (by decide)), end_put r q0 (q2.append k2) (vr_non _ _ _) af⟩
        · exact af.elim
      · exact af.elim
    · exact af.elim
  · exact af.elim
theorem VRs.erase {Z : Addr → Prop} {μ : List Addr} {H : Hp} : ∀ {ws : List W} {vs : List V} (n : Nat), VRs G Z μ H ws vs → VRs G Z μ H (ws.eraseIdx n) (vs.eraseIdx n)
  | [], vs, n, h => by unfold VRs at h; subst h; exact VRs.nil
  | w :: ws, vs, 0, h => by
    unfold VRs at h
    obtain ⟨v, q, rfl, _, h2⟩ := h
    exact h2
  | w :: ws, vs, n + 1, h => by
    unfold VRs at h
    obtain ⟨v, q, rfl, h1, h2⟩ := h
    exact VRs.cons h1 (VRs.erase n h2)
theorem m_popAt : MtR X "list.pop" (mtM G E popAtW) := by
  intro pins s σ H x vs v us Q I rx rv ⟨w, ws, S, Z, μ, r, hw, hv, af⟩
  unfold popAtW at af
  split at af
  · split at af
    · rename_i hs
      split at af
      · split at af
        · rename_i hl
          simp only [Bool.and_eq_true, decide_eq_true_eq] at hl
          split at af
          · rename_i k e1
            split at af
            · rename_i u e2
              obtain ⟨a, xs, rfl, q0, q1, q2⟩ := r.lst hw hs
              obtain ⟨y, rfl, h1⟩ := one_of hv
              obtain ⟨z, k1, k2⟩ := q2.get e2
              exact mt_popAt pins s σ H _ _ v us Q I rx rv ⟨a, xs, _, k, z, rfl, by rw [i_int h1], q1, by omega, by omega, by rw [q2.length]; exact e1, k1, end_put r q0 (q2.erase k) k2 af⟩
            · exact af.elim
          · exact af.elim
        · exact af.elim
      · exact af.elim
    · exact af.elim
  · exact af.elim
end
/-! ### stores -/
def mSetIx (mv mo mi : ME) : MS := fun ρ S => (mv ρ S).bind fun v S1 => (mo ρ S1).bind fun o S2 => (mi ρ S2).bind fun i S3 => match o with
  | .ref n => (match i with
    | .int k => (match S3[n]? with
      | some (.lst xs) => (match L2.ixN xs.length k with
        | some j => .ok (.nx ρ) (S3.set n (.lst (xs.set j v)))
        | none => .stuck)
      | _ => .stuck)
    | _ => .stuck)
  | _ => .stuck
def mPar (i j : Nat) (r : MA) : MS := fun ρ S => (r ρ S).bind fun ws S1 => match ws with
  | [v, w] => .ok (.nx ((ρ.set i (some v)).set j (some w))) S1
  | _ => .stuck
section
variable {X : Cx} {G : Glo} {E : XK} {e o i : Expr} {mv mo mi : ME} {mr : MA} {pos p : Pos}
theorem sm_setIx (hv : PE X e (tM G E mv)) (ho : PE X o (tM G E mo)) (hi : PE X i (tM G E mi)) (ha : ∀ v, assign (.Subscript o i p) X.env v = (do
      let ov ← holding [v] (eval o X.env)
      let iv ← holding [v, ov] (eval i X.env)
      standAt p
      holding [v, ov, iv] (setItem ov iv v)
      release [v, ov, iv] []) := by intro _; rfl) (hs : swapsWithSole [.Subscript o i p] e pos.line X.env = pure false := by rfl) (hw : swappedStores [.Subscript o i p] e X.env = pure none := by rfl)
    (h1 : (assignEach [.Subscript o i p] X.env).map (·.2) = [assign (.Subscript o i p) X.env] := by rfl) : PS X (.Assign [.Subscript o i p] e pos) (tS G E (mSetIx mv mo mi)) :=
  (ps_asg hv (pg_sub ho hi set_list ha) hs hw h1).weak fun D σ H ⟨ρ, S, Z, μ, r, er, af⟩ => by
    refine ⟨ρ, S, Z, μ, r, er, Aft.imp (Aft.bind af) fun w Z1 μ1 H1 S1 _ g1 r1 a1 x hx => ?_⟩
    have er1 := er.mono r g1
    refine ⟨ρ, S1, Z1, μ1, r1, er1, Aft.imp (Aft.bind a1) fun ow Z2 μ2 H2 S2 _ g2 r2 a2 ov hov => ?_⟩
    have er2 := er1.mono r1 g2
    refine ⟨ρ, S2, Z2, μ2, r2, er2, Aft.imp (Aft.bind a2) fun iw Z3 μ3 H3 S3 _ g3 r3 a3 iv hiv => ?_⟩
    have er3 := er2.mono r2 g3
    have hx3 := (hx.mono r1 g2).mono r2 g3
    have ho3 := hov.mono r2 g3
    split at a3
    · split at a3
      · split at a3
        · rename_i hs
          split at a3
          · rename_i j hj
            obtain ⟨a, xs, rfl, q0, q1, q2⟩ := r3.lst ho3 hs
            refine ⟨a, xs, _, j, rfl, i_int hiv, q1, by rw [q2.length]; exact hj, ?_⟩
            have g : Grow Z3 μ3 H3 Z3 μ3 (upd H3 a (.lst (xs.set j x))) := Grow.put (List.mem_of_getElem? q0)
            exact a3 _ _ _ g (r3.put q0 ⟨rfl, rfl⟩ ⟨_, upd_same, VRs.mono r3 g (q2.set hx3 j)⟩) σ (er3.mono r3 g)
          · exact a3.elim
        · exact a3.elim
      · exact a3.elim
    · exact a3.elim
theorem sm_par {i j : Nat} {x y : Str} {a b : Expr} {px py pt : Pos} {kt k2 : Nat} {pt2 : Pos} (hc : X.calm = true) (hN : X.N.Nodup) (hi : X.N[i]? = some x) (hj : X.N[j]? = some y) (hij : i ≠ j)
    (hx : X.env.scope.names.lookup x = some .local) (hy : X.env.scope.names.lookup y = some .local) (ha : PA X [a, b] (tMA G E mr))
    (hw : swappedStores [.Tuple [.Name x px, .Name y py] kt pt] (.Tuple [a, b] k2 pt2) X.env = pure (some [x, y]))
    (hs : swapsWithSole [.Tuple [.Name x px, .Name y py] kt pt] (.Tuple [a, b] k2 pt2) pos.line X.env = pure false := by rfl) :
    PS X (.Assign [.Tuple [.Name x px, .Name y py] kt pt] (.Tuple [a, b] k2 pt2) pos) (tS G E (mPar i j mr)) := (ps_par hc hN hi hj hij hx hy ha hw hs).weak fun D σ H ⟨ρ, S, Z, μ, r, er, af⟩ => by
  refine ⟨ρ, S, Z, μ, r, er, Aft.imp (Aft.bind af) fun ws Z1 μ1 H1 S1 _ g1 r1 a1 vs hvs => ?_⟩
  split at a1
  · obtain ⟨v, w, rfl, h1, h2⟩ := two_of hvs
    exact ⟨v, w, rfl, Aft.here (E := E) (P := PF G D) r1 a1 _ (((er.mono r g1).set h1 i).set h2 j)⟩
  · exact a1.elim
end
/-! ### zip -/
def zipL : List W → List W → List W
  | x :: xs, y :: ys => .itm [x, y] :: zipL xs ys
  | _, _ => []
def mZip (r : MA) : MI := fun ρ S => (r ρ S).bind fun ws S1 => match ws with
  | [.tup xs, .tup ys] => .ok ⟨zipL xs ys, none⟩ S1
  | [.lst xs, .lst ys] => .ok ⟨zipL xs ys, none⟩ S1
  | _ => .stuck
theorem zipL_get : ∀ (xs ys : List W) (i : Nat) (w : W), (zipL xs ys)[i]? = some w → ∃ x y, xs[i]? = some x ∧ ys[i]? = some y ∧ w = .itm [x, y]
  | [], ys, i, w, h => by unfold zipL at h; simp at h
  | x :: xs, [], i, w, h => by unfold zipL at h; simp at h
  | x :: xs, y :: ys, 0, w, h => by unfold zipL at h; simp at h; exact ⟨x, y, rfl, rfl, h.symm⟩
  | x :: xs, y :: ys, i + 1, w, h => by
    unfold zipL at h
    have h' : (zipL xs ys)[i]? = some w := by simpa using h
    simpa using zipL_get xs ys i w h'
theorem zipL_len : ∀ (xs ys : List W), xs.length ≤ (zipL xs ys).length ∨ ys.length ≤ (zipL xs ys).length
  | [], ys => .inl (Nat.zero_le _)
  | x :: xs, [] => .inr (Nat.zero_le _)
  | x :: xs, y :: ys => by
    unfold zipL
    rcases zipL_len xs ys with h | h
    · exact .inl (by simpa using h)
    · exact .inr (by simpa using h)
section
variable {X : Cx} {G : Glo} {E : XK} {e e2 : Expr} {mr : MA} {pos p tpos : Pos} {elts : List Expr} {kk : Nat}
theorem im_zip (hg : Gl X "zip") (hm : X.mg "zip" = none) (ha : PA X [e, e2] (tMA G E mr)) (hs : starEach [e, e2] X.env = (false, eval e X.env) :: starEach [e2] X.env := by rfl) (hs2 : (backTo pos (starEach [e2] X.env)).any (·.1) = false := by rfl) : PI X (.Tuple elts kk tpos) (.Call (.Name "zip" p) [e, e2] [] pos) (tI G E (mZip mr)) :=
  (RZ.pi_zipA hg hm ha hs hs2).weak fun σ H Q ⟨ρ, S, Z, μ, r, er, af⟩ => ⟨ρ, S, Z, μ, r, er, Aft.imp (Aft.bind af) fun ws Z1 μ1 H1 S1 _ g1 r1 a1 vs hvs => by
    split at a1
    · obtain ⟨v, u, rfl, h1, h2⟩ := two_of hvs
      obtain ⟨a, xs, rfl, q1, q2⟩ := i_tup h1
      obtain ⟨b, ys, rfl, q3, q4⟩ := i_tup h2
      refine ⟨a, b, xs, ys, rfl, .inr ⟨q1.sq, q3.sq, Aft.here (E := E) (P := PI' G Q) r1 a1 _ ⟨?_, ?_⟩⟩⟩
      · intro Z' μ' H' S' g r' _ i w hw
        have k1 := q1.keep (g.still r1 a)
        have k3 := q3.keep (g.still r1 b)
        obtain ⟨x, y, e1, e2, rfl⟩ := zipL_get _ _ _ _ hw
        obtain ⟨v1, p1, p2⟩ := (VRs.mono r1 g q2).get e1
        obtain ⟨v2, p3, p4⟩ := (VRs.mono r1 g q4).get e2
        refine ⟨⟨xs, ys, v1, v2, k1.sq, k3.sq, p1, p3⟩, fun z H2 y => ?_⟩
        obtain ⟨T, z1, z2, rfl, hT, rfl, f1, f2⟩ := y
        have z1e := f1 xs k1.sq
        have z2e := f2 ys k3.sq
        rw [p1] at z1e; cases z1e
        rw [p3] at z2e; cases z2e
        refine ⟨fun a o h => by rw [upd_ne (ne_of_none h hT)]; exact h, ?_⟩
        unfold VR
        exact ⟨T, [v1, v2], rfl, upd_same, VRs.mono r' (Grow.add hT) (VRs.cons p2 (VRs.cons p4 VRs.nil))⟩
      · intro Z' μ' H' S' g r' _
        have k1 := q1.keep (g.still r1 a)
        have k3 := q3.keep (g.still r1 b)
        refine ⟨xs, ys, k1.sq, k3.sq, ?_⟩
        rw [q2.length, q4.length]
        exact zipL_len _ _
    · obtain ⟨v, u, rfl, h1, h2⟩ := two_of hvs
      obtain ⟨a, xs, rfl, q1, n1, q2⟩ := i_lst h1
      obtain ⟨b, ys, rfl, q3, n3, q4⟩ := i_lst h2
      refine ⟨a, b, xs, ys, rfl, .inl ⟨.inl (.inl q1), .inl (.inl q3), Aft.here (E := E) (P := PI' G Q) r1 a1 _ ⟨?_, ?_⟩⟩⟩
      · intro Z' μ' H' S' g r' _ i w hw
        have k1 := g.keep a _ q1 (fun z => n1 (r1.mz a z)) rfl
        have k3 := g.keep b _ q3 (fun z => n3 (r1.mz b z)) rfl
        obtain ⟨x, y, e1, e2, rfl⟩ := zipL_get _ _ _ _ hw
        obtain ⟨v1, p1, p2⟩ := (VRs.mono r1 g q2).get e1
        obtain ⟨v2, p3, p4⟩ := (VRs.mono r1 g q4).get e2
        refine ⟨⟨xs, ys, v1, v2, .inl (.inl k1), .inl (.inl k3), p1, p3⟩, fun z H2 y => ?_⟩
        obtain ⟨T, z1, z2, rfl, hT, rfl, f1, f2⟩ := y
        have z1e := f1 xs (.inl (.inl k1))
        have z2e := f2 ys (.inl (.inl k3))
        rw [p1] at z1e; cases z1e
        rw [p3] at z2e; cases z2e
        refine ⟨fun a o h => by rw [upd_ne (ne_of_none h hT)]; exact h, ?_⟩
        unfold VR
        exact ⟨T, [v1, v2], rfl, upd_same, VRs.mono r' (Grow.add hT) (VRs.cons p2 (VRs.cons p4 VRs.nil))⟩
      · intro Z' μ' H' S' g r' _
        have k1 := g.keep a _ q1 (fun z => n1 (r1.mz a z)) rfl
        have k3 := g.keep b _ q3 (fun z => n3 (r1.mz b z)) rfl
        refine ⟨xs, ys, .inl (.inl k1), .inl (.inl k3), ?_⟩
        rw [q2.length, q4.length]
        exact zipL_len _ _
    · exact a1.elim⟩
end
end Mo

set_option Elab.async false
set_option linter.all false
set_option maxRecDepth 100000
set_option autoImplicit false
/-! Mon8: lambdas: made, handed to defs, called. -/
namespace Mo
open PySem PySem.Spec L2
open PyProof.Rows hiding St
open LamX (CodeO TabS Tabs ExtN TabB)

/-- a lambda of the text: its names are the parameters, then the captured ones; js: the captured ones' places in the maker's names -/
structure LamD where
  params : Arguments
  body : Expr
  scope : Scope
  N : List Str
  ps : List Str
  fr : List Str
  js : List Nat
/-- the object at f is such a lambda -/
def LamO (f c' : Addr) (q : Str) (L : LamD) (cl : List (Str × Addr)) : HO := .ext fun h => ∃ pm ctv, h.get? f = some (PySem.W.kla_obj "<lambda>" q L.params L.body L.scope cl pm c' ctv)
theorem tabs_keep {T : List (Addr × Str)} {H H' : Hp} (k : ∀ b o, H b = some o → (isMut o = false ∨ isTbl o = true) → H' b = some o) (t : Tabs T H) : Tabs T H' := fun p hp => by
  obtain ⟨ps, h1, h2, h3⟩ := t p hp
  refine ⟨ps, k _ _ h1 (.inr rfl), h2, fun pos cv hc => ?_⟩
  obtain ⟨c, e1, e2⟩ := h3 pos cv hc
  exact ⟨c, e1, k _ _ e2 (.inl rfl)⟩

/-! ### a lambda is made -/
section
variable {X : Cx} {pins : List (Addr × Obj)} {σ : L2.St} {H : Hp} {s : Shared}
theorem lam_new {c' : Addr} {q : Str} {L : LamD} {cl : List (Str × Addr)} {H0 : Hp} {h' : Heap} {tk : Nat} {pm ctv : Value} (I0 : Inv X pins σ H0 { s with heap := h', toks := tk }) :
    Inv X pins σ (upd H0 h'.objs.size (LamO h'.objs.size c' q L cl)) { s with heap := h'.push (PySem.W.kla_obj "<lambda>" q L.params L.body L.scope cl pm c' ctv), toks := tk } := by
  refine Inv.laid (s := { s with heap := h', toks := tk }) (t' := tk) I0 (fun b o e => Heap.get?_push_of_some _ e) (Nat.le_refl _) ?_
  have e : (h'.push (PySem.W.kla_obj "<lambda>" q L.params L.body L.scope cl pm c' ctv)).get? h'.objs.size = some (PySem.W.kla_obj "<lambda>" q L.params L.body L.scope cl pm c' ctv) := Heap.get?_push_size _ rfl
  exact ⟨⟨pm, ctv, e⟩, ⟨_, e⟩, fun h1 h2 ⟨a, b, q⟩ st => ⟨a, b, st _ q⟩⟩
theorem lam_make3 {T : List (Addr × Str)} {c P : Addr} {L : LamD} {pos : Pos} {E : Value → Shared → Prop} {Q : Value → Shared → Prop} (I : Inv X pins σ H s) (TB : TabB X.base X.mg c P) (hcode : X.env.code = .ref c)
    (hm : (P, X.env.qual ++ "<lambda>") ∈ T) (hu : ∀ p ∈ T, p.1 = P → p.2 = X.env.qual ++ "<lambda>") (hT : Tabs T H) (hdef : defaultsOf L.params X.env = ([], [])) (hfree : ∀ y ∈ L.scope.names, y.2 = .free → ∃ c, X.env.cells.lookup y.1 = some c)
    (h : ∀ (f c' : Addr) (H1 : Hp) (s' : Shared), Inv X pins σ H1 s' → ExtN H H1 → (∀ b o, H b = some o → ∃ u, H1 b = some u) → Tabs T H1 →
      H1 f = some (LamO f c' (X.env.qual ++ "<lambda>") L (cloFrom X.env.cells L.scope.names [])) → H1 c' = some (CodeO c' (X.env.qual ++ "<lambda>")) → Q (.ref f) s') :
    wpAny (model X.prog X.w) X.A (eval (.Lambda L.params L.body L.scope pos) X.env) Q E s := by
  obtain ⟨ps, hP, ht, ha⟩ := hT _ hm
  refine PySem.W.kla_eval hdef ?_
  have bP : s.heap.BuiltinsAt X.mg P := TB.bm.keeps I.bk
  have hP' : s.heap.get? P = some { cls := .none, data := .fields ps } := I.hok P _ hP
  cases hc : codeAmong pos ps.toList with
  | none =>
    refine PySem.W.kla_makeFunction (mg := X.mg) (c := c) (P := P) (ps := ps) (closure_ok hfree) I.ok.glob (I.mod.glob.keeps I.bk) hcode (TB.code.keeps I.bk) hP' ht hc TB.gP bP fun c' ctv h' tk hx hge hlt hrec htb => ?_
    obtain ⟨c2, oc, vs, t, e2, hoc, hd, hv⟩ := hrec
    cases e2
    have nC : H c' = none := I.hok.fresh hge
    have I0 := LamX.inv_table (t' := tk) (more := #[rawInt pos.line, rawInt pos.col, .ref c']) (h' := h') (q := X.env.qual ++ "<lambda>") I hP hx htb hge ⟨oc, vs, t, hoc, hd, hv⟩
    have hE : ExtN H (upd (upd H P (.tbl (ps ++ #[rawInt pos.line, rawInt pos.col, .ref c']))) c' (CodeO c' (X.env.qual ++ "<lambda>"))) := fun b o e n => by
      rw [upd_ne (ne_of_none e nC), upd_ne (fun z => n ps (Option.some.inj (e.symm.trans (by rw [z]; exact hP))))]
      exact e
    have eL : (ps ++ #[rawInt pos.line, rawInt pos.col, .ref c']).toList = ps.toList ++ [rawInt pos.line, rawInt pos.col, .ref c'] := by simp
    have tabs0 : Tabs T (upd (upd H P (.tbl (ps ++ #[rawInt pos.line, rawInt pos.col, .ref c']))) c' (CodeO c' (X.env.qual ++ "<lambda>"))) := fun p hp => by
      by_cases hb : p.1 = P
      · rw [hu p hp hb, hb]
        refine ⟨_, by rw [upd_ne (ne_of_none hP nC), upd_same], by rw [eL]; exact PySem.TriplesOk_snoc _ _ _ _ ht, fun p' cv hcv => ?_⟩
        rw [eL] at hcv
        rcases LamX.among_app _ ht hcv with z | z
        · obtain ⟨c0, e1, e2⟩ := ha p' cv z
          exact ⟨c0, e1, hE _ _ e2 LamX.codeO_ne⟩
        · exact ⟨c', z, upd_same⟩
      · obtain ⟨ps', a1, a2, a3⟩ := hT p hp
        refine ⟨ps', by rw [upd_ne (ne_of_none a1 nC), upd_ne hb]; exact a1, a2, fun p' cv hcv => ?_⟩
        obtain ⟨c0, e1, e2⟩ := a3 p' cv hcv
        exact ⟨c0, e1, hE _ _ e2 LamX.codeO_ne⟩
    generalize hH0 : upd (upd H P (.tbl (ps ++ #[rawInt pos.line, rawInt pos.col, .ref c']))) c' (CodeO c' (X.env.qual ++ "<lambda>")) = H0 at I0 hE tabs0
    have hfn : H0 h'.objs.size = none := I0.hok.fresh (Nat.le_refl _)
    have hc0 : H0 c' = some (CodeO c' (X.env.qual ++ "<lambda>")) := by rw [← hH0]; exact upd_same
    refine h h'.objs.size c' _ _ (lam_new (q := X.env.qual ++ "<lambda>") (L := L) (cl := cloFrom X.env.cells L.scope.names []) (c' := c') I0) (fun b o e n => by rw [upd_ne (ne_of_none (hE b o e n) hfn)]; exact hE b o e n) (fun b o e => ?_) (tabs0.ext fun b o e => by rw [upd_ne (ne_of_none e hfn)]; exact e) upd_same (by rw [upd_ne (ne_of_none hc0 hfn)]; exact hc0)
    by_cases z1 : b = h'.objs.size
    · exact ⟨_, by rw [z1]; exact upd_same⟩
    · rw [upd_ne z1, ← hH0]
      by_cases z2 : b = c'
      · exact ⟨_, by rw [z2]; exact upd_same⟩
      · rw [upd_ne z2]
        by_cases z3 : b = P
        · exact ⟨_, by rw [z3]; exact upd_same⟩
        · exact ⟨o, by rw [upd_ne z3]; exact e⟩
  | some cv =>
    obtain ⟨c', e, hco⟩ := ha pos cv hc
    subst e
    refine PySem.W.kla_makeFunctionHit (mg := X.mg) (c := c) (P := P) (ps := ps) (closure_ok hfree) I.ok.glob (I.mod.glob.keeps I.bk) hcode (TB.code.keeps I.bk) hP' ht hc bP fun ctv h' tk hx hsz => ?_
    have I0 : Inv X pins σ H { s with heap := h', toks := tk } := I.kept fun b o e => hx b o e
    have hfn : H h'.objs.size = none := I0.hok.fresh (Nat.le_refl _)
    exact h h'.objs.size c' _ _ (lam_new (q := X.env.qual ++ "<lambda>") (L := L) (cl := cloFrom X.env.cells L.scope.names []) (c' := c') I0) (fun b o e n => by rw [upd_ne (ne_of_none e hfn)]; exact e)
      (fun b o e => ⟨o, by rw [upd_ne (ne_of_none e hfn)]; exact e⟩) (hT.ext fun b o e => by rw [upd_ne (ne_of_none e hfn)]; exact e) upd_same (by rw [upd_ne (ne_of_none hco hfn)]; exact hco)
end

/-! ### a lambda is run -/
abbrev LamD.nf (L : LamD) (q : Str) (cl : List (Str × Addr)) (c' : Addr) : NdefX.NF := ⟨"<lambda>", q, L.params, [], L.scope, cl, c'⟩
section
variable {P : Program} {w : World} {K : PySem.W.Frag} {mg : Str → Option Value} {base : Heap}
theorem lam_run {L : LamD} {cl : List (Str × Addr)} {q : Str} {f c' : Addr} {A : Around} {outer : List Env} {s : Shared} {H : Hp} {us : List Value} {vs cs : List V} {Q : VK} {E : XK} {k : Nat} {t : TE}
    (S : NdefX.NScope L.N L.ps L.fr L.scope) (hr : Room (k + 1) A) (e0 : Env0 P w K mg base A outer s H) (hf : H f = some (LamO f c' q L cl)) (hc : H c' = some (CodeO c' q)) (C : NdefX.CellsAt cl L.fr (cs.map some) s.heap H) (r : Vals vs us) (hl : vs.length = L.ps.length)
    (hbind : ∀ (pm ctv : Value) (us : List Value), us.length = L.ps.length → bindArgs (PySem.W.kla_fn "<lambda>" q L.params L.body L.scope cl pm (.ref c') ctv) ⟨us, []⟩ = pure (L.ps.zip us))
    (hbody : Room k (A.deeper (NdefX.envF (L.nf q cl c') f s.heap.objs.size)) → PE (NdefX.ncx (L2.CX P w) P w K mg base L.N (L.nf q cl c') f A outer s H E) L.body t) (hq : t (NdefX.startF L.N vs (cs.map some)) H Q) :
    codeAny (model P w) A (.call (.ref f) ⟨us, []⟩) (CR (L2.CX P w) outer P w H s Q E) s := by
  obtain ⟨⟨pm, ctv, ho⟩, _, _⟩ := e0.hok f _ hf
  have lim : s.heap.NoLimit := e0.mod.nolimit.keeps fun b o e => (e0.bs b o e).1
  refine PySem.W.kla_callFunE hr.depth ho rfl S.co S.gen rfl (NdefX.codeO_at e0.hok hc) ?_
  rw [hbind pm ctv us (by rw [← r.length]; exact hl)]
  refine wpAny_pure (wpAny_newFunctionEnv S.nocell (fun ⟨n, _⟩ hy => S.par n (List.of_mem_zip hy).1) (fun h₁ hns hsb => ⟨lim.fresh _ hsb, ?_⟩) S.kind)
  show codeAny _ _ (.expr L.body (NdefX.envF (L.nf q cl c') f s.heap.objs.size)) _ _
  have kp : ∀ b o, s.heap.get? b = some o → h₁.get? b = some o := fun b o e => hsb.extBut b o (Nat.ne_of_lt (Heap.lt_size e)) (Heap.get?_push_of_some _ e)
  have J : Inv (NdefX.ncx (L2.CX P w) P w K mg base L.N (L.nf q cl c') f A outer s H E) [] (NdefX.startF L.N vs (cs.map some)) H { s with heap := h₁, toks := s.toks + (L.ps.zip us).length } := NdefX.inv_startN (F := L.nf q cl c') S hr.hd e0 hl r C hns kp
  refine PySem.W.kla_codeExpr (wpAny_mono ((hbody (hr.deeper _)).run [] _ _ H Q J hq) (fun v s' hq => ?_) fun e s' hq => hq)
  obtain ⟨w', H', J', rv, q⟩ := hq
  exact ⟨w', H', J'.os, J'.bare, J'.base, J'.hok, rv, q⟩
end
end Mo

set_option Elab.async false
set_option linter.all false
set_option maxRecDepth 100000
set_option autoImplicit false
/-! Mon9: lambdas handed to defs and called there. -/
namespace Mo
open PySem PySem.Spec L2
open PyProof.Rows hiding St
open LamX (CodeO TabS Tabs ExtN TabB)

/-- an exception of the class at C stands at a -/
def ExO (a C : Addr) : HO := .ext fun h => ∃ oe, h.get? a = some oe ∧ Zc (.ref C) none oe ∧ ∃ vs, oe.data = .fields vs
/-- the whole, seen from a def whose lambdas are lams, its cells cells -/
def glo (K : PySem.W.Frag) (mg : Str → Option Value) (T : List (Addr × Str)) (q : Str) (lams : List LamD) (cells : List (Str × Addr)) (cv : Nat → List V → Prop) : Glo where
  K := K
  mg := mg
  ct := fun k a H => ∃ L c', lams[k]? = some L ∧ H a = some (LamO a c' q L (cloFrom cells L.scope.names [])) ∧ H c' = some (CodeO c' q)
  ctk := fun k a H H' st ⟨L, c', h1, h2, h3⟩ => ⟨L, c', h1, st _ _ h2 rfl, st _ _ h3 rfl⟩
  cv := cv
  inv := Tabs T
  invk := fun H H' st h => tabs_keep st h
  ex := fun c a H => ∃ C, mg c = some (.ref C) ∧ H a = some (ExO a C)
  exk := fun c a H H' st ⟨C, h1, h2⟩ => ⟨C, h1, st _ _ h2 rfl⟩
mutual
/-- no closures -/
def W.nc : W → Bool
  | .clo _ _ => false
  | .tup ws => ncs ws
  | .itm ws => ncs ws
  | .lst ws => ncs ws
  | _ => true
def ncs : List W → Bool
  | [] => true
  | w :: ws => w.nc && ncs ws
end
section
variable {G G' : Glo} {Z : Addr → Prop} {μ : List Addr} {H : Hp}
mutual
theorem VR.reG (hK : G'.K = G.K) (hm : G'.mg = G.mg) (he : G'.ex = G.ex) : ∀ {w : W} {v : V}, w.nc = true → VR G Z μ H w v → VR G' Z μ H w v
  | .non, _, _, h => by unfold VR at h ⊢; exact h
  | .bl _, _, _, h => by unfold VR at h ⊢; exact h
  | .int _, _, _, h => by unfold VR at h ⊢; exact h
  | .str _, _, _, h => by unfold VR at h ⊢; exact h
  | .ty _, _, _, h => by unfold VR at h ⊢; exact h
  | .tup ws, v, n, h => by
    unfold VR at h ⊢
    obtain ⟨a, vs, e, ha, hs⟩ := h
    exact ⟨a, vs, e, ha, VRs.reG hK hm he n hs⟩
  | .itm ws, v, n, h => by
    unfold VR at h ⊢
    obtain ⟨a, vs, e, ha, hs⟩ := h
    exact ⟨a, vs, e, ha, VRs.reG hK hm he n hs⟩
  | .lst ws, v, n, h => by
    unfold VR at h ⊢
    obtain ⟨a, vs, e, ha, q, hs⟩ := h
    exact ⟨a, vs, e, ha, q, VRs.reG hK hm he n hs⟩
  | .ref n, v, k, h => by unfold VR at h ⊢; exact h
  | .glob _, _, _, h => by unfold VR at h ⊢; rw [hm]; exact h
  | .exc c, v, _, h => by unfold VR at h ⊢; rw [he]; exact h
  | .clo k cap, v, n, h => by cases n
  | .scr ns, v, _, h => by unfold VR at h ⊢; rw [hK]; exact h
  | .ed, v, _, h => by unfold VR at h ⊢; exact h
theorem VRs.reG (hK : G'.K = G.K) (hm : G'.mg = G.mg) (he : G'.ex = G.ex) : ∀ {ws : List W} {vs : List V}, ncs ws = true → VRs G Z μ H ws vs → VRs G' Z μ H ws vs
  | [], _, _, h => by unfold VRs at h ⊢; exact h
  | w :: ws, vs, n, h => by
    unfold VRs at h ⊢
    unfold ncs at n
    obtain ⟨v, q, e, h1, h2⟩ := h
    have n' := Bool.and_eq_true_iff.mp n
    exact ⟨v, q, e, VR.reG hK hm he n'.1 h1, VRs.reG hK hm he n'.2 h2⟩
end
end

/-! ### what may be called -/
structure Ap where
  ca : W → Bool
  run : W → MD
structure CallC (P : Program) (w : World) (K : PySem.W.Frag) (mg : Str → Option Value) (base : Heap) (G : Glo) (kk : Nat) (ap : Ap) : Prop where
  run : ∀ (g : W) (a : Addr) (A : Around) (outer : List Env) (s : Shared) (H : Hp) (us : List Value) (vs : List V) (ws : List W) (Z : Addr → Prop) (μ : List Addr) (S : Sto) (Q : VK) (E : XK), ap.ca g = true → Room kk A → Env0 P w K mg base A outer s H → Rel G Z μ H S →
    VR G Z μ H g (.ref a) → VRs G Z μ H ws vs → Vals vs us → Aft G E Z μ H (ap.run g ws S) (PQ G Q) → codeAny (model P w) A (.call (.ref a) ⟨us, []⟩) (CR (L2.CX P w) outer P w H s Q E) s
  fn : ∀ (g : W) (v : V) (s : Shared) (H : Hp) (Z : Addr → Prop) (μ : List Addr), ap.ca g = true → HOk P w H s.heap → K.In s.heap → VR G Z μ H g v → ∃ a, v = .ref a ∧ PySem.W.FnAt a s.heap
def mCallL (ap : Ap) (i : Nat) (r : MA) : ME := fun ρ S => match ρ[i]? with
  | some (some g) => if ap.ca g then (r ρ S).bind fun ws S1 => ap.run g ws S1 else .stuck
  | _ => .stuck
section
variable {X : Cx} {G : Glo} {E : XK} {e : Expr} {es : List Expr} {mr : MA} {pos p : Pos} {kk i : Nat} {ap : Ap} {x : Str}
theorem callL_end {pins : List (Addr × Obj)} {s : Shared} {σ : L2.St} {H : Hp} {Q : VK} {g : W} {a : Addr} {us : List Value} {vs : List V} {ws : List W} {Z : Addr → Prop} {μ : List Addr} {S : Sto} (C : CallC X.prog X.w X.K X.mg X.base G kk ap) (hc : ap.ca g = true) (hr : Room kk X.A) (hx : Passes (L2.CX X.prog X.w) X E) (I : Inv X pins σ H s) (r : Rel G Z μ H S)
    (hg : VR G Z μ H g (.ref a)) (hv : VRs G Z μ H ws vs) (rv : Vals vs us) (af : Aft G E Z μ H (ap.run g ws S) (PQ G Q)) : wpAny (model X.prog X.w) X.A (call (.ref a) us) (EP X pins σ Q) X.xe s := by
  refine wpAny_call (codeAny_mono (C.run g a X.A X.stack s H us vs ws Z μ S Q E hc hr I.env0 r hg hv rv af) fun r s' hq => ?_)
  cases r with
  | error e => exact hx pins σ H s e s' I hq
  | ok fl =>
    cases fl with
    | ret u => exact I.after hq
    | next => exact False.elim hq
    | brk => exact False.elim hq
    | cont => exact False.elim hq
/-- x(e, ..), x a local name that holds what may be called -/
theorem em_callL (C : CallC X.prog X.w X.K X.mg X.base G kk ap) (hr : Room kk X.A) (hx : Passes (L2.CX X.prog X.w) X E) (hN : X.N[i]? = some x) (hv : Vis X.env.scope x) (ha : PA X (e :: es) (tMA G E mr)) (hdb : (x == ("__debug__" : Str)) = false := by decide) (hcd : (x == ("__classdict__" : Str)) = false := by decide)
    (he : starEach (e :: es) X.env = (false, eval e X.env) :: starEach es X.env := by rfl) (hpl : (backTo pos (starEach es X.env)).any (·.1) = false := by rfl) : PE X (.Call (.Name x p) (e :: es) [] pos) (tM G E (mCallL ap i mr)) := by
  refine ⟨fun pins s σ H Q I h => ?_⟩
  obtain ⟨ρ, S, Z, μ, r, er, af⟩ := h
  unfold mCallL at af
  split at af
  case h_2 => exact af.elim
  rename_i g hg
  obtain ⟨v, hs, hvr⟩ := er.at_ i g hg
  cases hc : ap.ca g with
  | false => rw [hc, if_neg Bool.false_ne_true] at af; exact af.elim
  | true =>
    rw [hc, if_pos rfl] at af
    refine wpAny_Call_Name_kw (thn ((pe_var (pos := p) hN hv hdb hcd).run pins s σ H (fun v' H1 => v' = v ∧ H1 = H) I ⟨v, hs, rfl, rfl⟩) fun u s1 ⟨v', H1, I1, r1, q1⟩ => ?_)
    obtain ⟨ev, eH⟩ := q1
    subst ev
    rw [eH] at I1
    obtain ⟨a, rfl, fa⟩ := C.fn g v' s1 H Z μ hc I1.hok I1.kIn hvr
    obtain rfl : u = Value.ref a := r1
    refine PySem.W.callWith_F (first := []) fa (thn (ha.run pos pins s1 σ H (fun vs H2 => ∃ ws S2 Z2 μ2, Rel G Z2 μ2 H2 S2 ∧ VR G Z2 μ2 H2 g (.ref a) ∧ VRs G Z2 μ2 H2 ws vs ∧ Aft G E Z2 μ2 H2 (ap.run g ws S2) (PQ G Q)) I1 ?_) fun us s2 ⟨vs, H2, I2, r2, q⟩ => ?_) he hpl
    · exact ⟨ρ, S, Z, μ, r, er, Aft.imp (Aft.bind af) fun ws Z2 μ2 H2 S2 _ g2 r2 a2 vs hvs => ⟨ws, S2, Z2, μ2, r2, hvr.mono r g2, hvs, a2⟩⟩
    · obtain ⟨ws, S2, Z2, μ2, k1, k2, k3, k4⟩ := q
      obtain ⟨_, _, fa2⟩ := C.fn g (.ref a) s2 H2 Z2 μ2 hc I2.hok I2.kIn k2
      obtain ⟨e1, fa2⟩ := (⟨‹_›, fa2⟩ : V.ref a = V.ref _ ∧ _)
      cases e1
      exact ⟨fa2, callL_end C hc hr hx I2 k1 k2 k3 r2 k4⟩
theorem em_callL0 (C : CallC X.prog X.w X.K X.mg X.base G kk ap) (hr : Room kk X.A) (hx : Passes (L2.CX X.prog X.w) X E) (hN : X.N[i]? = some x) (hv : Vis X.env.scope x) (hdb : (x == ("__debug__" : Str)) = false := by decide) (hcd : (x == ("__classdict__" : Str)) = false := by decide) :
    PE X (.Call (.Name x p) [] [] pos) (tM G E (mCallL ap i mNil)) := by
  refine ⟨fun pins s σ H Q I h => ?_⟩
  obtain ⟨ρ, S, Z, μ, r, er, af⟩ := h
  unfold mCallL at af
  split at af
  case h_2 => exact af.elim
  rename_i g hg
  obtain ⟨v, hs, hvr⟩ := er.at_ i g hg
  cases hc : ap.ca g with
  | false => rw [hc, if_neg Bool.false_ne_true] at af; exact af.elim
  | true =>
    rw [hc, if_pos rfl] at af
    refine wpAny_Call_Name_kw (thn ((pe_var (pos := p) hN hv hdb hcd).run pins s σ H (fun v' H1 => v' = v ∧ H1 = H) I ⟨v, hs, rfl, rfl⟩) fun u s1 ⟨v', H1, I1, r1, q1⟩ => ?_)
    obtain ⟨ev, eH⟩ := q1
    subst ev
    rw [eH] at I1
    obtain ⟨a, rfl, fa⟩ := C.fn g v' s1 H Z μ hc I1.hok I1.kIn hvr
    obtain rfl : u = Value.ref a := r1
    exact PySem.W.callWith_F0 (first := []) fa (callL_end C hc hr hx I1 r hvr VRs.nil .nil af)
end

/-! ### what the captured cells hold -/
structure CV (B : Heap) (cells : List (Str × Addr)) (L : LamD) (vs : List V) : Prop where
  len : vs.length = L.fr.length
  at_ : ∀ (i : Nat) (y : Str), L.fr[i]? = some y → ∃ (c : Addr) (oc : Obj) (u : Value) (v : V), cells.lookup y = some c ∧ B.get? c = some oc ∧ oc.data = .cell (some u) ∧ vs[i]? = some v ∧ RelV v u
/-- the base with the cells of this def -/
def isCellOf (cells : List (Str × Addr)) (a : Addr) : Bool := cells.any fun p => decide (cells.lookup p.1 = some a)
theorem isCellOf_lookup {cells : List (Str × Addr)} {y : Str} {c : Addr} (h : cells.lookup y = some c) : isCellOf cells c = true := by
  unfold isCellOf
  rw [List.any_eq_true]
  exact ⟨(y, c), PySem.mem_of_lookup h, decide_eq_true h⟩
theorem isCellOf_of {cells : List (Str × Addr)} {c : Addr} (h : isCellOf cells c = true) : ∃ y, cells.lookup y = some c := by
  unfold isCellOf at h
  rw [List.any_eq_true] at h
  obtain ⟨p, _, e⟩ := h
  exact ⟨p.1, of_decide_eq_true e⟩
def baseP (X : Cx) (s : Shared) : Heap := PySem.W.hideAll s.heap ((List.range s.heap.objs.size).filter fun a => !((X.base.get? a).isSome || isCellOf X.env.cells a))
section
variable {X : Cx} {pins : List (Addr × Obj)} {σ : L2.St} {H : Hp} {s : Shared} {b : Addr} {o : Obj}
theorem baseP_of (h : (baseP X s).get? b = some o) : s.heap.get? b = some o ∧ ((X.base.get? b).isSome = true ∨ isCellOf X.env.cells b = true) := by
  have e := PySem.W.of_hideAll _ h
  refine ⟨e, ?_⟩
  cases q : ((X.base.get? b).isSome || isCellOf X.env.cells b) with
  | true => exact Bool.or_eq_true_iff.mp q
  | false =>
    have hm : b ∈ (List.range s.heap.objs.size).filter fun a => !((X.base.get? a).isSome || isCellOf X.env.cells a) := List.mem_filter.mpr ⟨List.mem_range.mpr (Heap.lt_size e), by rw [q]; rfl⟩
    have := PySem.W.hideAll_none (h := s.heap) _ hm
    rw [show (baseP X s).get? b = none from this] at h
    cases h
theorem baseP_at (h : s.heap.get? b = some o) (k : (X.base.get? b).isSome = true ∨ isCellOf X.env.cells b = true) : (baseP X s).get? b = some o := by
  refine PySem.W.hideAll_get _ h fun hm => ?_
  have q := (List.mem_filter.mp hm).2
  rw [Bool.or_eq_true_iff.mpr k] at q
  cases q
theorem baseP_base (I : Inv X pins σ H s) (h : X.base.get? b = some o) : (baseP X s).get? b = some o := baseP_at (I.bk b o h) (.inl (by rw [h]; rfl))
theorem env0_plus (I : Inv X pins σ H s) (hfn : ∀ x, X.fn x = true) : Env0 X.prog X.w X.K X.mg (baseP X s) X.A X.stack s H := by
  have e0 := I.env0
  have bb : ∀ b o, X.base.get? b = some o → (baseP X s).get? b = some o := fun b o h => baseP_base I h
  have hcell : ∀ b o, s.heap.get? b = some o → isCellOf X.env.cells b = true → H b = none ∧ ∃ v, o.data = .cell v := fun b o e k => by
    obtain ⟨y, hy⟩ := isCellOf_of k
    obtain ⟨v, o', e', d⟩ := I.cell y b hy
    rw [e] at e'; cases e'
    exact ⟨I.freeC y b hy, v, d⟩
  refine ⟨e0.frames, ⟨fun a o h => bb a o (e0.mod.kin a o h), e0.mod.glob.keeps bb, ?_, e0.mod.nolimit.keeps bb⟩, fun b o h => ?_, ?_, ?_, e0.frf, e0.hok, e0.bare⟩
  · obtain ⟨mb, h1, h2⟩ := e0.mod.blt
    exact ⟨mb, h1.keeps bb, h2⟩
  · obtain ⟨h1, h2⟩ := baseP_of h
    rcases h2 with h2 | h2
    · obtain ⟨o', ho⟩ := Option.isSome_iff_exists.mp h2
      exact ⟨h1, (I.bs b o' ho).2⟩
    · exact ⟨h1, (hcell b o h1 h2).1⟩
  · exact Nat.le_of_eq (PySem.W.hideAll_size _ _)
  · refine L2.funFrames_none e0.funs fun L hL => ?_
    cases q : (baseP X s).get? L with
    | none => rfl
    | some o =>
      obtain ⟨h1, h2⟩ := baseP_of q
      obtain ⟨k1, o', ho, hd⟩ := e0.funs.mem hL
      rcases h2 with h2 | h2
      · rw [k1] at h2; cases h2
      · obtain ⟨y, hy⟩ := isCellOf_of h2
        exfalso
        rcases List.mem_cons.mp (I.stkSub L hL) with e | e
        · exact I.cne y L hy e
        · obtain ⟨_, oL, hoL, _⟩ := I.ok.funs.mem e
          exact Nat.lt_irrefl _ (Nat.lt_of_lt_of_le (Heap.lt_size hoL) (I.ok.cab y L (hfn y) hy))
end
end Mo

set_option Elab.async false
set_option linter.all false
set_option maxRecDepth 100000
set_option autoImplicit false
/-! Mon10: what a def hands on may be called there. -/
namespace Mo
open PySem PySem.Spec L2
open PyProof.Rows hiding St
open LamX (CodeO TabS Tabs ExtN TabB)

/-- a lambda on values: how many parameters, captured names, names; its body; the captured names' places at the maker's -/
structure LamM where
  np : Nat
  nf : Nat
  nn : Nat
  b : ME
  js : List Nat
def lamRun (M : LamM) (cap : List W) : MD := fun ws S => if ws.length = M.np ∧ cap.length = M.nf then M.b (ws.map some ++ (cap.map some ++ List.replicate (M.nn - ws.length - cap.length) none)) S else .stuck
/-- lambdas, and defs of the module by name -/
def apM (ms : List LamM) (gs : List (Str × Nat × MD)) : Ap where
  ca := fun g => match g with
    | .clo k _ => decide (k < ms.length)
    | .glob x => (gs.lookup x).isSome
    | _ => false
  run := fun g ws S => match g with
    | .clo k cap => (match ms[k]? with
      | some M => lamRun M cap ws S
      | none => .stuck)
    | .glob x => (match gs.lookup x with
      | some (n, m) => gCall n m ws S
      | none => .stuck)
    | _ => .stuck
structure LamOk (P : Program) (w : World) (K : PySem.W.Frag) (mg : Str → Option Value) (B : Heap) (G' : Glo) (kk : Nat) (q : Str) (cells : List (Str × Addr)) (L : LamD) (M : LamM) : Prop where
  np : M.np = L.ps.length
  nf : M.nf = L.fr.length
  nn : M.nn = L.N.length
  S : NdefX.NScope L.N L.ps L.fr L.scope
  bind : ∀ (cl : List (Str × Addr)) (pm : Value) (c' : Addr) (ctv : Value) (us : List Value), us.length = L.ps.length → bindArgs (PySem.W.kla_fn "<lambda>" q L.params L.body L.scope cl pm (.ref c') ctv) ⟨us, []⟩ = pure (L.ps.zip us)
  body : ∀ (f c' : Addr) (A : Around) (outer : List Env) (s : Shared) (H : Hp) (E : XK), Room kk (A.deeper (NdefX.envF (L.nf q (cloFrom cells L.scope.names []) c') f s.heap.objs.size)) →
    PE (NdefX.ncx (L2.CX P w) P w K mg B L.N (L.nf q (cloFrom cells L.scope.names []) c') f A outer s H E) L.body (tM G' E M.b)
  free : ∀ y ∈ L.scope.names, y.2 = .free → ∃ c, cells.lookup y.1 = some c
structure GlobOk (P : Program) (w : World) (K : PySem.W.Frag) (mg : Str → Option Value) (B : Heap) (G' : Glo) (kk : Nat) (x : Str) (n : Nat) (m : MD) : Prop where
  ex : ∃ (f : Addr) (fd : FuncData) (ps : List Str), mg x = some (.ref f) ∧ FnOk P w K mg B (L2.CX P w) kk f fd ps (spM G' n m) ∧ Binds K fd ps [] ∧ ∃ oc od osl, K.lookup f = some ⟨oc, od, .func fd, osl⟩
section
variable {P : Program} {w : World} {K : PySem.W.Frag} {mg : Str → Option Value} {B : Heap} {T : List (Addr × Str)} {q : Str} {lams : List LamD} {cells : List (Str × Addr)} {cv : Nat → List V → Prop} {kk : Nat} {ms : List LamM} {gs : List (Str × Nat × MD)}
theorem callC_of (hinj : ∀ x y c, cells.lookup x = some c → cells.lookup y = some c → x = y) (hcv : ∀ (k : Nat) (vs : List V), cv k vs → ∀ L : LamD, lams[k]? = some L → CV B cells L vs) (hlen : lams.length = ms.length)
    (hl : ∀ (k : Nat) (L : LamD) (M : LamM), lams[k]? = some L → ms[k]? = some M → LamOk P w K mg B (glo K mg T q lams cells cv) kk q cells L M) (hgl : ∀ (x : Str) (n : Nat) (m : MD), gs.lookup x = some (n, m) → GlobOk P w K mg B (glo K mg T q lams cells cv) (kk + 1) x n m) : CallC P w K mg B (glo K mg T q lams cells cv) (kk + 1) (apM ms gs) where
  fn := fun g v s H Z μ hc hok KX hg => by
    unfold apM at hc
    dsimp only at hc
    split at hc
    · unfold VR at hg
      obtain ⟨a, vs, rfl, ⟨L, c', h1, h2, h3⟩, _⟩ := hg
      obtain ⟨⟨pm, ctv, ho⟩, _, _⟩ := hok a _ h2
      exact ⟨a, rfl, _, _, _, _, ho⟩
    · unfold VR at hg
      obtain ⟨a, h1, rfl⟩ := hg
      obtain ⟨⟨n, m⟩, hx⟩ := Option.isSome_iff_exists.mp hc
      obtain ⟨f, fd, ps, e1, _, _, oc, od, osl, lk⟩ := (hgl _ n m hx).ex
      have e2 : mg _ = some (.ref a) := h1
      rw [e1] at e2; cases e2
      exact ⟨_, rfl, oc, od, fd, osl, KX _ _ lk⟩
    · cases hc
  run := fun g a A outer s H us vs ws Z μ S Q E hc hr e0 r hg hv rv af => by
    unfold apM at af hc
    dsimp only at af hc
    split at hc
    · rename_i k cap
      unfold VR at hg
      obtain ⟨a', cs, ea, ⟨L, c', h1, h2, h3⟩, h4, h5⟩ := hg
      cases ea
      dsimp only at af
      cases e1 : ms[k]? with
      | none => rw [e1] at af; exact af.elim
      | some M =>
        rw [e1] at af
        dsimp only at af
        have O := hl k L M h1 e1
        have cvk := hcv k cs h4 L h1
        unfold lamRun at af
        split at af
        case isFalse => exact af.elim
        rename_i hlen'
        have cm : ∀ {y : Str} {c : Addr}, (cloFrom cells L.scope.names []).lookup y = some c → (y, NameKind.free) ∈ L.scope.names ∧ cells.lookup y = some c := fun {y c} e => by
          have e2 := NdefX.clo_cm O.free e
          rcases cloFrom_mem (PySem.mem_of_lookup e) with hm | ⟨k1, _⟩
          · cases hm
          · exact ⟨k1, e2⟩
        have C : NdefX.CellsAt (cloFrom cells L.scope.names []) L.fr (cs.map some) s.heap H := by
          refine ⟨by rw [List.length_map]; exact cvk.len, fun y c e => ?_, fun x y c e1 e2 => hinj x y c (cm e1).2 (cm e2).2, fun i y e => ?_⟩
          · obtain ⟨k1, k2⟩ := cm e
            obtain ⟨i, hi⟩ := List.mem_iff_getElem?.mp (O.S.free _ k1 rfl)
            obtain ⟨c0, oc, u, v, q1, q2, q3, _, _⟩ := cvk.at_ i y hi
            have q1' : cells.lookup y = some c0 := q1
            rw [k2] at q1'; cases q1'
            obtain ⟨p1, p2⟩ := e0.bs _ _ q2
            exact ⟨p2, _, oc, p1, q3⟩
          · obtain ⟨c0, oc, u, v, q1, q2, q3, q4, q5⟩ := cvk.at_ i y e
            have hy : (y, NameKind.free) ∈ L.scope.names := PySem.mem_of_lookup (O.S.frk y (List.mem_of_getElem? e))
            refine ⟨c0, NdefX.clo_has O.free hy q1, fun v' hv' => ?_⟩
            rw [List.getElem?_map, q4] at hv'
            cases hv'
            exact ⟨u, q5, oc, (e0.bs _ _ q2).1, q3⟩
        refine lam_run (L := L) (cs := cs) (t := tM (glo K mg T q lams cells cv) E M.b) O.S hr e0 h2 h3 C rv (by rw [hv.length, hlen'.1, O.np]) (fun pm ctv us hu => O.bind _ pm c' ctv us hu) (fun hr' => O.body _ _ _ _ _ _ _ hr') ?_
        refine ⟨_, S, Z, μ, r, ?_, af⟩
        have hcs := h5.length
        have h51 := hv.length
        refine ⟨?_, fun i u hi => ?_⟩
        · unfold NdefX.startF
          simp only [List.length_append, List.length_map, List.length_replicate]
          rw [O.nn]; omega
        · unfold NdefX.startF
          by_cases hi1 : i < ws.length
          · rw [List.getElem?_append_left (by simpa using hi1), List.getElem?_map] at hi
            have hi' : ws[i]? = some u := by
              cases e : ws[i]? with
              | none => rw [e] at hi; cases hi
              | some z => rw [e] at hi; cases hi; rfl
            obtain ⟨v, q1, q2⟩ := hv.get hi'
            exact ⟨v, by rw [List.getElem?_append_left (by rw [List.length_map]; omega), List.getElem?_map, q1]; rfl, q2⟩
          · rw [List.getElem?_append_right (by simpa using hi1), List.length_map] at hi
            by_cases hi2 : i - ws.length < cap.length
            · rw [List.getElem?_append_left (by simpa using hi2), List.getElem?_map] at hi
              have hi' : cap[i - ws.length]? = some u := by
                cases e : cap[i - ws.length]? with
                | none => rw [e] at hi; cases hi
                | some z => rw [e] at hi; cases hi; rfl
              obtain ⟨v, q1, q2⟩ := h5.get hi'
              refine ⟨v, ?_, q2⟩
              rw [List.getElem?_append_right (by simp only [List.length_map]; omega), List.getElem?_append_left (by simp only [List.length_map]; omega), List.getElem?_map]
              simp only [List.length_map]
              rw [h51, q1]
              rfl
            · rw [List.getElem?_append_right (by simpa using hi2), List.getElem?_replicate] at hi
              split at hi <;> cases hi
    · rename_i x
      cases e1 : gs.lookup x with
      | none => rw [e1] at hc; cases hc
      | some nm =>
        obtain ⟨n, m⟩ := nm
        dsimp only at af
        rw [e1] at af
        dsimp only at af
        obtain ⟨f, fd, ps, e2, F, hb, oc, od, osl, lk⟩ := (hgl _ n m e1).ex
        unfold VR at hg
        obtain ⟨a', h1, h2⟩ := hg
        cases h2
        have e3 : mg x = some (.ref a) := h1
        rw [e2] at e3; cases e3
        have hsp : spM (glo K mg T q lams cells cv) n m vs H Q E := call_spS ⟨ws, S, Z, μ, r, hv, af⟩
        have hb' := hb s us (e0.mod.kin.keeps fun b o e => (e0.bs b o e).1) (by rw [List.append_nil, ← rv.length]; exact F.len _ _ _ _ hsp)
        rw [List.append_nil] at hb'
        exact F.run A outer s H ⟨us, []⟩ us vs Q E hr e0 hb' rv hsp
    · cases hc
end

/-! ### a def is called, handed what may be called -/
def capOf (ρ : Env') : List Nat → Option (List W)
  | [] => some []
  | j :: js => match ρ[j]? with
    | some (some u) => if u.nr && u.nc then (match capOf ρ js with
      | some us => some (u :: us)
      | none => none) else none
    | _ => none
/-- a lambda goes with what its captured names hold -/
def cvt (ms : List LamM) (ρ : Env') (w : W) : Option W := match w with
  | .clo k [] => (match ms[k]? with
    | some M => (match capOf ρ M.js with
      | some us => some (.clo k us)
      | none => none)
    | none => none)
  | w => if w.nr && w.nc then some w else none
def gCallC (n : Nat) (m : MD) (ms : List LamM) (ρ : Env') (ws : List W) (S : Sto) : R W := if ws.length = n then (match mapO (cvt ms ρ) ws with
  | none => .stuck
  | some us => match m us [] with
    | .ok w S' => match fz S' 6 w with
      | none => .stuck
      | some w' => if w'.nc then .ok w' S else .stuck
    | .err c _ => .err c S
    | .stuck => .stuck) else .stuck
def mCallC (n : Nat) (m : MD) (ms : List LamM) (r : MA) : ME := fun ρ S => (r ρ S).bind fun ws S1 => gCallC n m ms ρ ws S1
section
variable {X : Cx} {T : List (Addr × Str)} {lams : List LamD} {ms : List LamM} {gs : List (Str × Nat × MD)} {E : XK}
/-- what the maker's frame tells of a lambda's captured names -/
structure Capt (X : Cx) (L : LamD) (M : LamM) : Prop where
  js : M.js = L.js
  len : L.js.length = L.fr.length
  at_ : ∀ (i : Nat) (y : Str), L.fr[i]? = some y → ∃ j : Nat, L.js[i]? = some j ∧ X.N[j]? = some y ∧ X.env.scope.names.lookup y = some .cell
abbrev gloM (X : Cx) (T : List (Addr × Str)) (lams : List LamD) (cv : Nat → List V → Prop) : Glo := glo X.K X.mg T (X.env.qual ++ "<lambda>") lams X.env.cells cv
theorem mapO_vr2 {G G' : Glo} {Z Zn : Addr → Prop} {μ μn : List Addr} {H : Hp} {f : W → Option W} (hf : ∀ (w u : W) (v : V), f w = some u → VR G Z μ H w v → VR G' Zn μn H u v) : ∀ {ws us : List W} {vs : List V}, mapO f ws = some us → VRs G Z μ H ws vs → VRs G' Zn μn H us vs
  | [], us, vs, e, h => by unfold mapO at e; cases e; unfold VRs at h ⊢; exact h
  | w :: ws, us, vs, e, h => by
    unfold VRs at h
    obtain ⟨v, q, rfl, h1, h2⟩ := h
    unfold mapO at e
    cases e1 : f w with
    | none => rw [e1] at e; cases e
    | some u =>
      rw [e1] at e
      cases e2 : mapO f ws with
      | none => rw [e2] at e; cases e
      | some us' =>
        rw [e2] at e; cases e
        exact VRs.cons (hf _ _ _ e1 h1) (mapO_vr2 hf e2 h2)
theorem capOf_ok {pins : List (Addr × Obj)} {σ : L2.St} {H : Hp} {s : Shared} {Z : Addr → Prop} {μ : List Addr} {ρ : Env'} {G G' : Glo} (hK : G'.K = G.K) (hm : G'.mg = G.mg) (he : G'.ex = G.ex) (I : Inv X pins σ H s) (er : ER G Z μ H ρ σ) : ∀ (js : List Nat) (fr : List Str) (us : List W), capOf ρ js = some us → js.length = fr.length → (∀ (i : Nat) (y : Str), fr[i]? = some y → ∃ j : Nat, js[i]? = some j ∧ X.N[j]? = some y ∧ X.env.scope.names.lookup y = some .cell) →
    ∃ vs, VRs G' Z [] H us vs ∧ vs.length = fr.length ∧ ∀ (i : Nat) (y : Str), fr[i]? = some y → ∃ (c : Addr) (oc : Obj) (u : Value) (v : V), X.env.cells.lookup y = some c ∧ (baseP X s).get? c = some oc ∧ oc.data = .cell (some u) ∧ vs[i]? = some v ∧ RelV v u
  | [], [], us, e, _, _ => by
    unfold capOf at e; cases e
    exact ⟨[], VRs.nil, rfl, fun i y h => by simp at h⟩
  | j :: js, y :: fr, us, e, hl, hat => by
    unfold capOf at e
    split at e
    · rename_i u hu
      split at e
      · rename_i hn
        have hn' := Bool.and_eq_true_iff.mp hn
        split at e
        · rename_i us' e2
          cases e
          obtain ⟨vs, h1, h2, h3⟩ := capOf_ok hK hm he I er js fr us' e2 (by simpa using hl) fun i y h => by simpa using hat (i + 1) y (by simpa using h)
          obtain ⟨j', k1, k2, k3⟩ := hat 0 y rfl
          simp at k1
          subst k1
          obtain ⟨v, q1, q2⟩ := er.at_ j u hu
          obtain ⟨m, _, hl'⟩ := I.loc
          obtain ⟨uv, ru, lk⟩ := hl' j y v k2 q1 (.inr (.inl k3))
          refine ⟨v :: vs, VRs.cons (VR.reG hK hm he hn'.2 (VR.nr (fun _ h => h) hn'.1 q2)) h1, by simp [h2], fun i z hz => ?_⟩
          cases i with
          | zero =>
            simp at hz
            subst hz
            rcases lk with ⟨lk, _⟩ | ⟨_, c, hc, oc, ho, hd⟩
            · have lk' : X.env.scope.names.lookup y = some .local := lk
              rw [k3] at lk'; cases lk'
            · exact ⟨c, oc, uv, v, hc, baseP_at ho (.inr (isCellOf_lookup hc)), hd, rfl, ru⟩
          | succ i =>
            obtain ⟨c, oc, u2, v2, p1, p2, p3, p4, p5⟩ := h3 i z (by simpa using hz)
            exact ⟨c, oc, u2, v2, p1, p2, p3, by simpa using p4, p5⟩
        · cases e
      · cases e
    · cases e
  | [], _ :: _, _, _, hl, _ => by simp at hl
  | _ :: _, [], _, _, hl, _ => by simp at hl
theorem cvt_ok {pins : List (Addr × Obj)} {σ : L2.St} {H : Hp} {s : Shared} {Z : Addr → Prop} {μ : List Addr} {ρ : Env'} (I : Inv X pins σ H s) (er : ER (gloM X T lams fun _ vs => vs = []) Z μ H ρ σ) (hcap : ∀ (k : Nat) (L : LamD) (M : LamM), lams[k]? = some L → ms[k]? = some M → Capt X L M) :
    ∀ (w u : W) (v : V), cvt ms ρ w = some u → VR (gloM X T lams fun _ vs => vs = []) Z μ H w v → VR (gloM X T lams fun k vs => ∃ L, lams[k]? = some L ∧ CV (baseP X s) X.env.cells L vs) Z [] H u v := fun w u v e h => by
  unfold cvt at e
  split at e
  · rename_i k
    split at e
    · rename_i M eM
      split at e
      · rename_i us eu
        cases e
        unfold VR at h ⊢
        obtain ⟨a, vs, rfl, ⟨L, c', h1, h2, h3⟩, h4, h5⟩ := h
        have cp := hcap k L M h1 eM
        rw [cp.js] at eu
        obtain ⟨cs, k1, k2, k3⟩ := capOf_ok (G := gloM X T lams fun _ vs => vs = []) (G' := gloM X T lams fun k vs => ∃ L, lams[k]? = some L ∧ CV (baseP X s) X.env.cells L vs) rfl rfl rfl I er L.js L.fr us eu cp.len cp.at_
        exact ⟨a, cs, rfl, ⟨L, c', h1, h2, h3⟩, ⟨L, h1, k2, k3⟩, k1⟩
      · cases e
    · cases e
  · split at e
    · rename_i hn
      have hn' := Bool.and_eq_true_iff.mp hn
      cases e
      exact VR.reG (G := gloM X T lams fun _ vs => vs = []) (G' := gloM X T lams fun k vs => ∃ L, lams[k]? = some L ∧ CV (baseP X s) X.env.cells L vs) rfl rfl rfl hn'.2 (VR.nr (fun _ h => h) hn'.1 h)
    · cases e
/-- f(e, ..) in the maker's own frame -/
theorem em_callC {kf kk n : Nat} {f : Addr} {fd : FuncData} {ps : List Str} {x : Str} {p pos : Pos} {e : Expr} {es : List Expr} {mr : MA} {m : MD} (hfn : ∀ x, X.fn x = true) (hlen : lams.length = ms.length) (hcap : ∀ (k : Nat) (L : LamD) (M : LamM), lams[k]? = some L → ms[k]? = some M → Capt X L M)
    (hl : ∀ (B : Heap) (cv : Nat → List V → Prop) (k : Nat) (L : LamD) (M : LamM), lams[k]? = some L → ms[k]? = some M → X.Ok → LamOk X.prog X.w X.K X.mg B (gloM X T lams cv) kk (X.env.qual ++ "<lambda>") X.env.cells L M)
    (hgl : ∀ (B : Heap) (cv : Nat → List V → Prop) (x : Str) (n : Nat) (m : MD), gs.lookup x = some (n, m) → GlobOk X.prog X.w X.K X.mg B (gloM X T lams cv) (kk + 1) x n m)
    (F : ∀ (B : Heap) (cv : Nat → List V → Prop), CallC X.prog X.w X.K X.mg B (gloM X T lams cv) (kk + 1) (apM ms gs) → FnOk X.prog X.w X.K X.mg B (L2.CX X.prog X.w) kf f fd ps (spM (gloM X T lams cv) n m))
    (hr : Room kf X.A) (hg : Gl X x) (hm : X.mg x = some (.ref f)) (hk : PySem.W.keepIn X.K (.ref f) = true) (hb : Binds X.K fd ps [])
    (hx : Passes (L2.CX X.prog X.w) X E) (ha : PA X (e :: es) (tMA (gloM X T lams fun _ vs => vs = []) E mr)) (hdb : (x == ("__debug__" : Str)) = false := by decide) (he : starEach (e :: es) X.env = (false, eval e X.env) :: starEach es X.env := by rfl) (hpl : (backTo pos (starEach es X.env)).any (·.1) = false := by rfl) :
    PE X (.Call (.Name x p) (e :: es) [] pos) (tM (gloM X T lams fun _ vs => vs = []) E (mCallC n m ms mr)) := by
  refine ⟨fun pins s σ H Q I h => ?_⟩
  obtain ⟨ρ, S, Z, μ, r, er, af⟩ := h
  refine wpAny_Call_Name_kw (ld_glob I hg hm ?_ hdb)
  refine PySem.W.callWith_K (h₀ := X.base) I.ok.mod.kin hk (thn (ha.run pos pins s σ H (fun vs H1 => ∃ ws S1 Z1 μ1, Rel (gloM X T lams fun _ vs => vs = []) Z1 μ1 H1 S1 ∧ ER (gloM X T lams fun _ vs => vs = []) Z1 μ1 H1 ρ σ ∧ VRs (gloM X T lams fun _ vs => vs = []) Z1 μ1 H1 ws vs ∧ Aft (gloM X T lams fun _ vs => vs = []) E Z1 μ1 H1 (gCallC n m ms ρ ws S1) (PQ (gloM X T lams fun _ vs => vs = []) Q)) I ?_) fun us s1 ⟨vs, H1, I1, rv, q⟩ => ⟨I1.kIn, ?_⟩) he hpl
  · exact ⟨ρ, S, Z, μ, r, er, Aft.imp (Aft.bind af) fun ws Z1 μ1 H1 S1 _ g1 r1 a1 vs hvs => ⟨ws, S1, Z1, μ1, r1, er.mono r g1, hvs, a1⟩⟩
  · obtain ⟨ws, S1, Z1, μ1, r1, er1, hvs, a1⟩ := q
    have e0 := env0_plus I1 hfn
    have C : CallC X.prog X.w X.K X.mg (baseP X s1) (gloM X T lams fun k vs => ∃ L, lams[k]? = some L ∧ CV (baseP X s1) X.env.cells L vs) (kk + 1) (apM ms gs) :=
      callC_of I1.ok.inj (fun k vs ⟨L, h1, h2⟩ L' h3 => by rw [h1] at h3; cases h3; exact h2) hlen (fun k L M h1 h2 => hl _ _ k L M h1 h2 I1.ok) (fun x n m h => hgl _ _ x n m h)
    have Fn := F _ _ C
    have hsp : spM (gloM X T lams fun k vs => ∃ L, lams[k]? = some L ∧ CV (baseP X s1) X.env.cells L vs) n m vs H1 Q E := by
      unfold gCallC at a1
      split at a1
      case isFalse => exact a1.elim
      rename_i hn
      refine ⟨by rw [hvs.length]; exact hn, ?_⟩
      cases e1 : mapO (cvt ms ρ) ws with
      | none => rw [e1] at a1; exact a1.elim
      | some us' =>
        rw [e1] at a1
        dsimp only at a1
        have fin : ∀ {Z' : Addr → Prop} {μ' : List Addr} {H' : Hp}, Grow Z1 [] H1 Z' μ' H' → Tabs T H' → Rel (gloM X T lams fun _ vs => vs = []) Z1 μ1 H' S1 ∧ Grow Z1 μ1 H1 Z1 μ1 H' := fun g hi => r1.extN (fun a o q ht => g.keep a o q (by simp) ht) g.th hi
        refine ⟨us', [], Z1, [], ⟨rfl, List.nodup_nil, fun a (h : a ∈ []) => (List.not_mem_nil h).elim, r1.zm, r1.inv, fun n a o h => by simp at h⟩, mapO_vr2 (G := gloM X T lams fun _ vs => vs = []) (fun w u v q1 q2 => cvt_ok I1 er1 hcap w u v q1 q2) e1 hvs, ?_⟩
        cases e2 : m us' [] with
        | stuck => rw [e2] at a1; exact a1.elim
        | err c S' =>
          rw [e2] at a1
          exact fun Z' μ' H' g r' => a1 Z1 μ1 H' (fin g r'.inv).2 (fin g r'.inv).1
        | ok w S' =>
          rw [e2] at a1
          dsimp only at a1
          cases e3 : fz S' 6 w with
          | none => rw [e3] at a1; exact a1.elim
          | some w' =>
            rw [e3] at a1
            dsimp only at a1
            split at a1
            case isFalse => exact a1.elim
            rename_i hnc
            intro Z' μ' H' g r' v hw
            refine a1 Z1 μ1 H' (fin g r'.inv).2 (fin g r'.inv).1 v (VR.reG (G := gloM X T lams fun k vs => ∃ L, lams[k]? = some L ∧ CV (baseP X s1) X.env.cells L vs) (G' := gloM X T lams fun _ vs => vs = []) rfl rfl rfl hnc (fz_vr r' g.zk (fun a ha => ?_) 6 w w' v e3 hw))
            obtain ⟨e, rfl, fe⟩ := g.mu
            exact r1.fresh (fe a (by simpa using ha))
    have hl' : (us ++ [] : List Value).length = ps.length := by rw [List.append_nil, ← rv.length]; exact Fn.len _ _ _ _ hsp
    have hb' := hb s1 us I1.kIn hl'
    rw [List.append_nil] at hb'
    refine wpAny_call (codeAny_mono (Fn.run X.A X.stack s1 H1 ⟨us, []⟩ us vs Q E hr e0 hb' rv hsp) fun r s' hq => ?_)
    cases r with
    | error e => exact hx pins σ H1 s1 e s' I1 hq
    | ok fl =>
      cases fl with
      | ret u => exact I1.after hq
      | next => exact False.elim hq
      | brk => exact False.elim hq
      | cont => exact False.elim hq
end
end Mo

set_option Elab.async false
set_option linter.all false
set_option maxRecDepth 100000
set_option autoImplicit false
/-! Mon11: defs that make lambdas; what is never reached. -/
namespace Mo
open PySem PySem.Spec L2
open PyProof.Rows hiding St
open LamX (CodeO TabS Tabs ExtN TabB)
/-! ### never reached -/
def mStuck : ME := fun _ _ => .stuck
def sStuck : MS := fun _ _ => .stuck
section
variable {X : Cx} {G : Glo} {E : XK}
theorem em_stuck {e : Expr} : PE X e (tM G E mStuck) := ⟨fun pins s σ H Q I ⟨ρ, S, Z, μ, r, er, af⟩ => af.elim⟩
theorem sm_stuck {st : Stmt} : PS X st (tS G E sStuck) := ⟨fun pins s σ H D I ⟨ρ, S, Z, μ, r, er, af⟩ => af.elim⟩
theorem sms_stuck {st : List Stmt} : PSs X st (tS G E sStuck) := ⟨fun pins s σ H D I ⟨ρ, S, Z, μ, r, er, af⟩ => af.elim⟩
end
/-! ### a lambda -/
section
variable {X : Cx} {T : List (Addr × Str)} {lams : List LamD} {E : XK}
theorem em_lam {k : Nat} {L : LamD} {c P : Addr} {pos : Pos} (TB : TabB X.base X.mg c P) (hcode : X.env.code = .ref c) (hm : (P, X.env.qual ++ "<lambda>") ∈ T) (hu : ∀ p ∈ T, p.1 = P → p.2 = X.env.qual ++ "<lambda>") (hL : lams[k]? = some L)
    (hfree : ∀ y ∈ L.scope.names, y.2 = .free → ∃ c, X.env.cells.lookup y.1 = some c) (hdef : defaultsOf L.params X.env = ([], []) := by rfl) :
    PE X (.Lambda L.params L.body L.scope pos) (tM (gloM X T lams fun _ vs => vs = []) E (mC (.clo k []))) := by
  refine ⟨fun pins s σ H Q I h => ?_⟩
  obtain ⟨ρ, S, Z, μ, r, er, af⟩ := h
  refine lam_make3 (L := L) I TB hcode hm hu r.inv hdef hfree fun f c' H1 s' I1 hx ht hT1 hf hc => ?_
  obtain ⟨r1, g1⟩ := r.extN (fun a o q z => hx a o q (by intro ps e; subst e; cases z)) ht hT1
  refine ⟨.ref f, H1, I1, rfl, ?_⟩
  exact af Z μ H1 g1 r1 (.ref f) (by unfold VR; exact ⟨f, [], rfl, ⟨L, c', hL, hf, hc⟩, rfl, VRs.nil⟩)
end
/-! ### a def with lambdas of its own -/
def mkM (L : Nat) (b : MS) : MD := fun ws S => match S with
  | [] => if ncs ws then (match mDef L b ws [] with
    | .ok w S' => (match fz S' 6 w with
      | none => .stuck
      | some w' => if w'.nc then .ok w' [] else .stuck)
    | .err c _ => .err c []
    | .stuck => .stuck) else .stuck
  | _ :: _ => .stuck
theorem mk_sp {G G' : Glo} {L n : Nat} {b : MS} {vs : List V} {H : Hp} {Q : VK} {E : XK} (hK : G'.K = G.K) (hm : G'.mg = G.mg) (he : G'.ex = G.ex) (hi : G'.inv = G.inv) (h : spM G n (mkM L b) vs H Q E) : spM G' n (mDef L b) vs H Q E := by
  obtain ⟨hl, ws, S, Z, μ, r, hv, af⟩ := h
  unfold mkM at af
  split at af
  case h_2 => exact af.elim
  split at af
  case isFalse => exact af.elim
  rename_i hn
  have hμ : μ = [] := List.eq_nil_of_length_eq_zero r.len
  subst hμ
  have hiH : G'.inv H := by rw [hi]; exact r.inv
  refine ⟨hl, ws, [], Z, [], rel_nil r.zm hiH, VRs.reG hK hm he hn hv, ?_⟩
  cases e2 : mDef L b ws [] with
  | stuck => rw [e2] at af; exact af.elim
  | err c S' =>
    rw [e2] at af
    intro Z' μ' H' g r'
    have q := r.extN (H' := H') (fun a o q ht => g.keep a o q (by simp) ht) g.th (by rw [← hi]; exact r'.inv)
    obtain ⟨a, h1, h2⟩ := af Z [] H' q.2 q.1
    exact ⟨a, by rw [hm]; exact h1, h2⟩
  | ok w S' =>
    rw [e2] at af
    dsimp only at af
    cases e3 : fz S' 6 w with
    | none => rw [e3] at af; exact af.elim
    | some w' =>
      rw [e3] at af
      dsimp only at af
      split at af
      case isFalse => exact af.elim
      rename_i hnc
      intro Z' μ' H' g r' v hw
      have q := r.extN (H' := H') (fun a o q ht => g.keep a o q (by simp) ht) g.th (by rw [← hi]; exact r'.inv)
      exact af Z [] H' q.2 q.1 v (VR.reG hK.symm hm.symm he.symm hnc (fz_vr r' g.zk (fun a ha => by
        obtain ⟨e, rfl, fe⟩ := g.mu
        exact r.fresh (fe a (by simpa using ha))) 6 w w' v e3 hw))
section
variable {P : Program} {w : World} {K : PySem.W.Frag} {mg : Str → Option Value} {base : Heap} {x qual : Str} {params : Arguments} {body : List Stmt} {scope : Scope} {dvs : List V} {kws : List (Str × V)} {f : Addr} {fd : FuncData} {T : List (Addr × Str)} {lams lams' : List LamD} {q : Str} {cells : List (Str × Addr)} {cv : Nat → List V → Prop}
theorem fn_mk {N ps : List Str} {k : Nat} {mb : MS} (F : FunD K x qual params body scope dvs kws f fd) (S : FnScope N ps scope)
    (hbody : ∀ (c : Addr) (A : Around) (outer : List Env) (s : Shared) (H : Hp) (E : XK), fd.code = .ref c → Room k (A.deeper (envOfC qual scope s.heap.objs.size f (.ref c))) →
      PSs (cxOf (L2.CX P w) P w K mg base N qual scope f (.ref c) A outer s H E) body (tS (gloM (cxOf (L2.CX P w) P w K mg base N qual scope f (.ref c) A outer s H E) T lams fun _ vs => vs = []) E mb)) :
    FnOk P w K mg base (L2.CX P w) (k + 1) f fd ps (spM (glo K mg T q lams' cells cv) ps.length (mkM N.length mb)) := by
  obtain ⟨oc, od, dV, kV, doc, pm, an, cdv, ct, osl, rfl, lk, hcd, _, _⟩ := F.ex
  obtain ⟨c, rfl⟩ := He.codeIn_ref hcd
  refine fn_of lk hcd S (fun vs H Q E h => h.1) fun A outer s H vs Q E hr hsp => ?_
  have hb := hbody c A outer s H E rfl hr
  have key : ∀ (q' : Str) (cells' : List (Str × Addr)) (cv' : Nat → List V → Prop), spM (glo K mg T q' lams cells' cv') ps.length (mDef N.length mb) vs H Q E := fun q' cells' cv' => mk_sp (G := glo K mg T q lams' cells cv) rfl rfl rfl rfl hsp
  have h3 := def_reads (key ((cxOf (L2.CX P w) P w K mg base N qual scope f (.ref c) A outer s H E).env.qual ++ "<lambda>") (cxOf (L2.CX P w) P w K mg base N qual scope f (.ref c) A outer s H E).env.cells fun _ vs => vs = [])
  exact ⟨_, hb, h3⟩
end
end Mo

set_option Elab.async false
set_option linter.all false
set_option maxRecDepth 100000
set_option autoImplicit false
/-! Mon12: defs of the module by name. -/
namespace Mo
open PySem PySem.Spec L2
open PyProof.Rows hiding St
open LamX (CodeO TabS Tabs ExtN TabB)
/-- the def of the name x does m -/
structure FG (P : Program) (w : World) (K : PySem.W.Frag) (mg : Str → Option Value) (base : Heap) (G : Glo) (x : Str) (k n : Nat) (m : MD) : Prop where
  ex : ∃ (f : Addr) (fd : FuncData) (ps : List Str), mg x = some (.ref f) ∧ ps.length = n ∧ FnOk P w K mg base (L2.CX P w) k f fd ps (spM G n m) ∧ Binds K fd ps [] ∧ PySem.W.keepIn K (.ref f) = true ∧ ∃ oc od osl, K.lookup f = some ⟨oc, od, .func fd, osl⟩
/-- a def as the head tells it -/
structure Df (K : PySem.W.Frag) (mg : Str → Option Value) (d : He.DefD) : Prop where
  at_ : mg d.name = some (.ref (He.fAd K d.at_))
  ex : ∃ fd, FunD K d.name d.qual d.params d.body d.scope [] [] (He.fAd K d.at_) fd
section
variable {P : Program} {w : World} {K : PySem.W.Frag} {mg : Str → Option Value} {base : Heap} {G : Glo} {d : He.DefD} {N ps : List Str} {k : Nat} {mb : MS} {T : List (Addr × Str)} {lams lams' : List LamD} {q : Str} {cells : List (Str × Addr)} {cv : Nat → List V → Prop}
theorem Df.fg (D : Df K mg d) (S : FnScope N ps d.scope) (hb : ∀ (kV doc pm : Value) (an : Option Addr) (cdv ct : Value) (us : List Value), us.length = ps.length → bindArgs (PySem.W.fnOf d.name d.qual d.params d.body d.scope .none kV doc pm an cdv ct) ⟨us, []⟩ = pure (ps.zip us))
    (hbody : ∀ (cdv : Value) (A : Around) (outer : List Env) (s : Shared) (H : Hp) (E : XK), Room k (A.deeper (envOfC d.qual d.scope s.heap.objs.size (He.fAd K d.at_) cdv)) → PSs (cxOf (L2.CX P w) P w K mg base N d.qual d.scope (He.fAd K d.at_) cdv A outer s H E) d.body (tS G E mb)) :
    FG P w K mg base G d.name (k + 1) ps.length (mDef N.length mb) := by
  obtain ⟨fd, F⟩ := D.ex
  have e := F.ex
  obtain ⟨oc, od, dV, kV, doc, pm, an, cdv, ct, osl, efd, lk, _⟩ := e
  exact ⟨_, fd, ps, D.at_, rfl, fn_ok F S hbody, F.bindsN hb, F.kp, oc, od, osl, lk⟩
theorem Df.mk_ (D : Df K mg d) (S : FnScope N ps d.scope) (hb : ∀ (kV doc pm : Value) (an : Option Addr) (cdv ct : Value) (us : List Value), us.length = ps.length → bindArgs (PySem.W.fnOf d.name d.qual d.params d.body d.scope .none kV doc pm an cdv ct) ⟨us, []⟩ = pure (ps.zip us))
    (hbody : ∀ (A : Around) (outer : List Env) (s : Shared) (H : Hp) (E : XK), Room k (A.deeper (envOfC d.qual d.scope s.heap.objs.size (He.fAd K d.at_) (.ref (He.cT K d.at_).1))) →
      PSs (cxOf (L2.CX P w) P w K mg base N d.qual d.scope (He.fAd K d.at_) (.ref (He.cT K d.at_).1) A outer s H E) d.body (tS (gloM (cxOf (L2.CX P w) P w K mg base N d.qual d.scope (He.fAd K d.at_) (.ref (He.cT K d.at_).1) A outer s H E) T lams fun _ vs => vs = []) E mb)) :
    FG P w K mg base (glo K mg T q lams' cells cv) d.name (k + 1) ps.length (mkM N.length mb) := by
  obtain ⟨fd, F⟩ := D.ex
  have e := F.ex
  obtain ⟨oc, od, dV, kV, doc, pm, an, cdv, ct, osl, efd, lk, _⟩ := e
  refine ⟨_, fd, ps, D.at_, rfl, fn_mk (lams := lams) F S fun c A outer s H E ec hr => ?_, F.bindsN hb, F.kp, oc, od, osl, lk⟩
  have e2 : (He.cT K d.at_).1 = c := He.codeOf_eq lk ec
  rw [← e2] at hr ⊢
  exact hbody A outer s H E hr
theorem FG.glob {x : Str} {n : Nat} {m : MD} (F : FG P w K mg base G x k n m) : GlobOk P w K mg base G k x n m := by
  obtain ⟨f, fd, ps, h1, h2, h3, h4, h5, h6⟩ := F.ex
  exact ⟨f, fd, ps, h1, h3, h4, h6⟩
theorem FG.mono {j : Nat} {x : Str} {n : Nat} {m : MD} (F : FG P w K mg base G x k n m) (h : k ≤ j) : FG P w K mg base G x j n m := by
  obtain ⟨f, fd, ps, h1, h2, h3, h4, h5, h6⟩ := F.ex
  exact ⟨f, fd, ps, h1, h2, ⟨h3.len, fun A outer s H args us vs Q E hr => h3.run A outer s H args us vs Q E (hr.mono h)⟩, h4, h5, h6⟩
end
section
variable {X : Cx} {G : Glo} {E : XK} {x : Str} {p pos : Pos} {e : Expr} {es : List Expr} {mr : MA} {m : MD} {k kr n : Nat}
theorem em_fS (F : FG X.prog X.w X.K X.mg X.base G x k n m) (hr : Room kr X.A) (hx : Passes (L2.CX X.prog X.w) X E) (ha : PA X (e :: es) (tMA G E mr)) (hg : Gl X x := by rfl) (hk : k ≤ kr := by decide) (hdb : (x == ("__debug__" : Str)) = false := by decide) (he : starEach (e :: es) X.env = (false, eval e X.env) :: starEach es X.env := by rfl) (hpl : (backTo pos (starEach es X.env)).any (·.1) = false := by rfl) :
    PE X (.Call (.Name x p) (e :: es) [] pos) (tM G E (mAp (gCall n m) mr)) := by
  obtain ⟨f, fd, ps, h1, h2, h3, h4, h5, h6⟩ := F.ex
  exact em_callS h3 (hr.mono hk) hg h1 h5 h4 hx ha hdb he hpl
theorem em_fP (F : FG X.prog X.w X.K X.mg X.base G x k n m) (hr : Room kr X.A) (hx : Passes (L2.CX X.prog X.w) X E) (ha : PA X (e :: es) (tMA G E mr)) (hg : Gl X x := by rfl) (hk : k ≤ kr := by decide) (hdb : (x == ("__debug__" : Str)) = false := by decide) (he : starEach (e :: es) X.env = (false, eval e X.env) :: starEach es X.env := by rfl) (hpl : (backTo pos (starEach es X.env)).any (·.1) = false := by rfl) :
    PE X (.Call (.Name x p) (e :: es) [] pos) (tM G E (mAp (gPure n m) mr)) := by
  obtain ⟨f, fd, ps, h1, h2, h3, h4, h5, h6⟩ := F.ex
  exact em_callP h3 (hr.mono hk) hg h1 h5 h4 hx ha hdb he hpl
/-- a builtin, a type by name -/
theorem em_b {f : List W → Sto → R W} {id : String} (hc : CallR X (.builtin id) (cM G E f)) (hm : X.mg x = none) (ha : PA X (e :: es) (tMA G E mr)) (hv : bootBuiltins x = some (.builtin id) := by rfl) (hg : Gl X x := by rfl) (hn : x ≠ "__name__" := by decide) (hdb : (x == ("__debug__" : Str)) = false := by decide)
    (he : starEach (e :: es) X.env = (false, eval e X.env) :: starEach es X.env := by rfl) (hpl : (backTo pos (starEach es X.env)).any (·.1) = false := by rfl) : PE X (.Call (.Name x p) (e :: es) [] pos) (tM G E (mAp f mr)) := em_callB hc hg hm hv ha hn hdb he hpl
theorem em_ty {f : List W → Sto → R W} {id : String} (hc : CallR X (.type id) (cM G E f)) (hm : X.mg x = none) (ha : PA X (e :: es) (tMA G E mr)) (hv : bootBuiltins x = some (.type id) := by rfl) (hg : Gl X x := by rfl) (hn : x ≠ "__name__" := by decide) (hdb : (x == ("__debug__" : Str)) = false := by decide)
    (he : starEach (e :: es) X.env = (false, eval e X.env) :: starEach es X.env := by rfl) (hpl : (backTo pos (starEach es X.env)).any (·.1) = false := by rfl) : PE X (.Call (.Name x p) (e :: es) [] pos) (tM G E (mAp f mr)) := em_callTy hc hg hm hv ha hn hdb he hpl
/-- a builtin type as a value -/
theorem em_tyv {n : String} (hm : X.mg x = none) (hv : bootBuiltins x = some (.type n) := by rfl) (hg : Gl X x := by rfl) (hn : x ≠ "__name__" := by decide) (hdb : (x == ("__debug__" : Str)) = false := by decide) : PE X (.Name x pos) (tM G E (mC (.ty n))) := em_c (v := .ty n) (pe_bltn hg hm hv rfl hn hdb) vr_ty
/-- a whole number of the module -/
theorem em_gi {i : Int} (hm : ∃ t, X.mg x = some (.int i t)) (hg : Gl X x := by rfl) (hdb : (x == ("__debug__" : Str)) = false := by decide) : PE X (.Name x pos) (tM G E (mC (.int i))) := by
  obtain ⟨t, ht⟩ := hm
  exact em_c (v := .int i) (pe_glob hg ht ⟨_, rfl⟩ hdb) vr_int
/-- a def as a value -/
theorem em_gf {a : Addr} (hm : X.mg x = some (.ref a)) (hG : G.mg = X.mg) (hg : Gl X x := by rfl) (hdb : (x == ("__debug__" : Str)) = false := by decide) : PE X (.Name x pos) (tM G E (mC (.glob x))) := em_c (v := .ref a) (pe_glob hg hm rfl hdb) (vr_glob (by rw [hG]; exact hm))
theorem pas_of {P : Program} {w : World} {K : PySem.W.Frag} {mg : Str → Option Value} {base : Heap} {N : List Str} {qual : Str} {scope : Scope} {f : Addr} {cd : Value} {A : Around} {outer : List Env} {s : Shared} {H : Hp} : Passes (L2.CX P w) (cxOf (L2.CX P w) P w K mg base N qual scope f cd A outer s H E) E :=
  passes_call (takes_of rfl rfl rfl rfl) fun _ _ _ _ h => h
end
end Mo

set_option Elab.async false
set_option linter.all false
set_option maxRecDepth 100000
set_option autoImplicit false
/-! Mon13: dicts of the store; membership. -/
namespace Mo
open PySem PySem.Spec L2
open PyProof.Rows hiding St

def keyW : W → Option Key
  | .int i => some (.inl i)
  | .str x => some (.inr x)
  | _ => none
def valW (kvs : List (Key × W)) (k : Key) : Option W := match kvs with
  | [] => none
  | p :: r => if decide (p.1 = k) then some p.2 else valW r k
def putW (kvs : List (Key × W)) (k : Key) (v : W) : List (Key × W) := match kvs with
  | [] => [(k, v)]
  | p :: r => if decide (p.1 = k) then (p.1, v) :: r else p :: putW r k v
/-- distinct keys -/
def ukeys : List (Key × W) → Bool
  | [] => true
  | p :: r => (valW r p.1).isNone && ukeys r
def mDictN : ME := fun _ S => .ok (.ref S.length) (S ++ [.dict []])
def mSetK (mv mo mi : ME) : MS := fun ρ S => (mv ρ S).bind fun v S1 => (mo ρ S1).bind fun o S2 => (mi ρ S2).bind fun i S3 => match o with
  | .ref n => (match keyW i with
    | some k => (match S3[n]? with
      | some (.dict kvs) => if kvs.length < 100000 ∧ ukeys kvs = true then .ok (.nx ρ) (S3.set n (.dict (putW kvs k v))) else .stuck
      | _ => .stuck)
    | _ => .stuck)
  | _ => .stuck
def dixW (o i : W) (S : Sto) : R W := match o with
  | .ref n => (match keyW i with
    | some k => (match S[n]? with
      | some (.dict kvs) => (match valW kvs k with
        | some u => .ok u S
        | none => .stuck)
      | _ => .stuck)
    | _ => .stuck)
  | _ => .stuck
def dinW (neg : Bool) (i o : W) (S : Sto) : R W := match o with
  | .ref n => (match keyW i with
    | some k => (match S[n]? with
      | some (.dict kvs) => .ok (.bl (if neg then !(valW kvs k).isSome else (valW kvs k).isSome)) S
      | _ => .stuck)
    | _ => .stuck)
  | _ => .stuck
section
variable {G : Glo} {Z : Addr → Prop} {μ : List Addr} {H : Hp} {S : Sto}
theorem keyW_v {i : W} {k : Key} {x : V} (e : keyW i = some k) (h : VR G Z μ H i x) : x = kV k := by
  cases i <;> first | (cases e; done) | skip
  · unfold keyW at e; cases e; unfold VR at h; exact h
  · unfold keyW at e; cases e; unfold VR at h; exact h
theorem KVR.val : ∀ {kvs : List (Key × W)} {es : List (Key × V)} {k : Key}, KVR G Z μ H kvs es → (match valW kvs k with
    | some u => ∃ v, valV es k = some v ∧ VR G Z μ H u v
    | none => valV es k = none)
  | [], es, k, h => by unfold KVR at h; subst h; rfl
  | (k', w) :: kvs, es, k, h => by
    unfold KVR at h
    obtain ⟨v, r, rfl, h1, h2⟩ := h
    unfold valW
    by_cases e : k' = k
    · rw [if_pos (decide_eq_true e)]
      exact ⟨v, valV_pos e, h1⟩
    · rw [if_neg (by simpa using e), valV_neg e]
      exact KVR.val h2
theorem map_same : ∀ {es : List (Key × V)} {k : Key} {x : V}, valV es k = none → (es.map fun kv => if kv.1 = k then (kv.1, x) else kv) = es
  | [], _, _, _ => rfl
  | p :: r, k, x, h => by
    have hp : ¬ p.1 = k := fun e => by rw [valV_pos e] at h; cases h
    rw [valV_neg hp] at h
    rw [List.map_cons, if_neg hp, map_same h]
theorem KVR.put {u : W} {x : V} (hu : VR G Z μ H u x) : ∀ {kvs : List (Key × W)} {es : List (Key × V)} {k : Key}, ukeys kvs = true → KVR G Z μ H kvs es → KVR G Z μ H (putW kvs k u) (putK es k x)
  | [], es, k, _, h => by
    unfold KVR at h; subst h
    show KVR G Z μ H [(k, u)] [(k, x)]
    unfold KVR
    exact ⟨x, [], rfl, hu, by unfold KVR; rfl⟩
  | (k', w) :: kvs, es, k, hk, h => by
    unfold KVR at h
    obtain ⟨v, r, rfl, h1, h2⟩ := h
    unfold ukeys at hk
    obtain ⟨hk1, hk2⟩ := Bool.and_eq_true_iff.mp hk
    unfold putW
    by_cases e : k' = k
    · subst e
      rw [if_pos (decide_eq_true rfl)]
      have hn : valV r k' = none := by
        have := KVR.val (k := k') h2
        cases e2 : valW kvs k' with
        | none => rw [e2] at this; exact this
        | some z => rw [e2] at hk1; cases hk1
      have e3 : putK ((k', v) :: r) k' x = (k', x) :: r := by
        unfold putK
        rw [if_pos (by simp), List.map_cons, if_pos rfl, map_same hn]
      rw [e3]
      unfold KVR
      exact ⟨x, r, rfl, hu, h2⟩
    · rw [if_neg (by simpa using e)]
      have e3 : putK ((k', v) :: r) k x = (k', v) :: putK r k x := by
        unfold putK
        rw [List.any_cons, decide_eq_false e, Bool.false_or, List.map_cons, if_neg e]
        split <;> rfl
      rw [e3]
      unfold KVR
      exact ⟨v, _, rfl, h1, KVR.put hu hk2 h2⟩
theorem Rel.dict (r : Rel G Z μ H S) {n : Nat} {v : V} {kvs : List (Key × W)} (h : VR G Z μ H (.ref n) v) (hs : S[n]? = Option.some (.dict kvs)) : ∃ a es, v = .ref a ∧ μ[n]? = Option.some a ∧ H a = Option.some (.dK es) ∧ KVR G Z μ H kvs es := by
  unfold VR at h
  obtain ⟨a, h1, rfl⟩ := h
  obtain ⟨vs, h2, h3⟩ := r.ob n a _ h1 hs
  exact ⟨a, vs, rfl, h1, h2, h3⟩
end
section
variable {X : Cx} {G : Glo} {E : XK} {e o i : Expr} {mv mo mi : ME} {mr : MA} {pos p : Pos}
theorem em_dictN : PE X (.Dict [] [] pos) (tM G E mDictN) := pe_dnewK.weak fun σ H Q ⟨ρ, S, Z, μ, r, er, af⟩ p hp => by
  have g : Grow Z μ H (fun a => Z a ∨ a = p) (μ ++ [p]) (upd H p (.dK [])) := Grow.new hp
  refine af _ _ _ g (r.new hp ⟨rfl, rfl⟩ ⟨[], upd_same, by unfold KVR; rfl⟩) _ ?_
  unfold VR
  exact ⟨p, by rw [← r.len]; simp, rfl⟩
def mEd : ME := fun _ S => .ok .ed S
theorem em_ed : PE X (.Dict [] [] pos) (tM G E mEd) := pe_dnewK.weak fun σ H Q ⟨ρ, S, Z, μ, r, er, af⟩ p hp => by
  refine af _ _ _ (Grow.add hp) (r.add hp) _ ?_
  unfold VR
  exact ⟨p, rfl, upd_same, r.fresh hp⟩
theorem sm_setK (hu : X.A.units + 64 < cLine) (hv : PE X e (tM G E mv)) (ho : PE X o (tM G E mo)) (hi : PE X i (tM G E mi)) (ha : ∀ v, assign (.Subscript o i p) X.env v = (do
      let ov ← holding [v] (eval o X.env)
      let iv ← holding [v, ov] (eval i X.env)
      standAt p
      holding [v, ov, iv] (setItem ov iv v)
      release [v, ov, iv] []) := by intro _; rfl) (hs : swapsWithSole [.Subscript o i p] e pos.line X.env = pure false := by rfl) (hw : swappedStores [.Subscript o i p] e X.env = pure none := by rfl)
    (h1 : (assignEach [.Subscript o i p] X.env).map (·.2) = [assign (.Subscript o i p) X.env] := by rfl) : PS X (.Assign [.Subscript o i p] e pos) (tS G E (mSetK mv mo mi)) :=
  (ps_asg hv (pg_sub ho hi (set_dict (by omega)) ha) hs hw h1).weak fun D σ H ⟨ρ, S, Z, μ, r, er, af⟩ => by
    refine ⟨ρ, S, Z, μ, r, er, Aft.imp (Aft.bind af) fun w Z1 μ1 H1 S1 _ g1 r1 a1 x hx => ?_⟩
    have er1 := er.mono r g1
    refine ⟨ρ, S1, Z1, μ1, r1, er1, Aft.imp (Aft.bind a1) fun ow Z2 μ2 H2 S2 _ g2 r2 a2 ov hov => ?_⟩
    have er2 := er1.mono r1 g2
    refine ⟨ρ, S2, Z2, μ2, r2, er2, Aft.imp (Aft.bind a2) fun iw Z3 μ3 H3 S3 _ g3 r3 a3 iv hiv => ?_⟩
    have er3 := er2.mono r2 g3
    have hx3 := (hx.mono r1 g2).mono r2 g3
    have ho3 := hov.mono r2 g3
    split at a3
    · split at a3
      · rename_i k hk
        split at a3
        · rename_i kvs hs
          split at a3
          · rename_i hl
            obtain ⟨a, es, rfl, q0, q1, q2⟩ := r3.dict ho3 hs
            have hle : es.length < sizeLine := by rw [q2.length]; exact Nat.lt_of_lt_of_le hl.1 (by decide)
            refine ⟨a, _, rfl, by rw [keyW_v hk hiv]; exact DPut.k q1 hle, ?_⟩
            have g : Grow Z3 μ3 H3 Z3 μ3 (upd H3 a (.dK (putK es k x))) := Grow.put (List.mem_of_getElem? q0)
            exact a3 _ _ _ g (r3.put q0 ⟨rfl, rfl⟩ ⟨_, upd_same, KVR.mono r3 g (q2.put hx3 hl.2)⟩) σ (er3.mono r3 g)
          · exact a3.elim
        · exact a3.elim
      · exact a3.elim
    · exact a3.elim
theorem em_dix (hu : X.A.units + 64 < cLine) (ho : PE X o (tM G E mo)) (hi : PE X i (tM G E mi)) (hs : NoSl i := by exact fun _ _ => rfl) : PE X (.Subscript o i pos) (tM G E (mBin dixW mo mi)) :=
  (pe_dget (by omega) ho hi hs).weak fun σ H Q ⟨ρ, S, Z, μ, r, er, af⟩ => by
    refine ⟨ρ, S, Z, μ, r, er, Aft.imp (Aft.bind af) fun ow Z1 μ1 H1 S1 _ g1 r1 a1 x hx => ?_⟩
    have er1 := er.mono r g1
    refine ⟨ρ, S1, Z1, μ1, r1, er1, Aft.imp (Aft.bind a1) fun iw Z2 μ2 H2 S2 _ g2 r2 a2 y hy => ?_⟩
    have hx2 := hx.mono r1 g2
    unfold dixW at a2
    split at a2
    · split at a2
      · rename_i k hk
        split at a2
        · rename_i kvs hs
          split at a2
          · rename_i u hu
            obtain ⟨a, es, rfl, q0, q1, q2⟩ := r2.dict hx2 hs
            have hv := q2.val (k := k)
            rw [hu] at hv
            obtain ⟨v, h1, h2⟩ := hv
            refine ⟨a, v, rfl, ?_, end_val r2 h2 a2⟩
            rw [keyW_v hk hy, ← h1]
            exact DGet.k q1
          · exact a2.elim
        · exact a2.elim
      · exact a2.elim
    · exact a2.elim
theorem dval_some {kvs : List (Key × W)} {es : List (Key × V)} {k : Key} {Z : Addr → Prop} {μ : List Addr} {H : Hp} (q : KVR G Z μ H kvs es) : (valV es k).isSome = (valW kvs k).isSome := by
  have hv := q.val (k := k)
  cases e : valW kvs k with
  | none => rw [e] at hv; rw [show valV es k = none from hv]; rfl
  | some u => rw [e] at hv; obtain ⟨v, h1, _⟩ := hv; rw [h1]; rfl
end
end Mo

set_option Elab.async false
set_option linter.all false
set_option maxRecDepth 100000
set_option autoImplicit false
/-! Mon14: membership, slices, lists of ranges, new lists by repetition. -/
namespace Mo
open PySem PySem.Spec L2
open PyProof.Rows hiding St

def flW : W → Option V
  | .non => some .non
  | .bl b => some (.bl b)
  | .int i => some (.int i)
  | .str x => some (.str x)
  | _ => none
def flWs : List W → Option (List V)
  | [] => some []
  | w :: ws => match flW w with
    | some v => (match flWs ws with
      | some vs => some (v :: vs)
      | none => none)
    | none => none
def anyL (S : Sto) : W → Option (List W)
  | .tup ws => some ws
  | w => itemsL S w
/-- x in a list of data of any depth -/
def inDW (neg : Bool) (x y : W) (S : Sto) : R W := match dataS S x with
  | some d => (match dataS S y with
    | some (.list ds) => if SeqAt.shaped d && SeqAt.shaped (.list ds) then .ok (.bl (if neg then !ds.any (fun z => PyData.eqv z d) else ds.any (fun z => PyData.eqv z d))) S else .stuck
    | _ => .stuck)
  | none => .stuck
def inW (neg : Bool) (x y : W) (S : Sto) : R W := match flW x with
  | some a => (match anyL S y with
    | some ws => (match flWs ws with
      | some vs => .ok (.bl (if neg then !inV a vs else inV a vs)) S
      | none => inDW neg x y S)
    | none => .stuck)
  | none => inDW neg x y S
theorem u65 {k : Nat} {A : Around} (r : Room k A) : A.units + 65 < cLine := by have := r.un; omega
section
variable {G : Glo} {Z : Addr → Prop} {μ : List Addr} {H : Hp} {S : Sto}
theorem flW_v {w : W} {a x : V} (e : flW w = some a) (h : VR G Z μ H w x) : x = a ∧ flatV a = true := by
  cases w <;> first | (cases e; done) | (unfold flW at e; cases e; unfold VR at h; exact ⟨h, rfl⟩)
theorem flWs_v : ∀ {ws : List W} {vs xs : List V}, flWs ws = some vs → VRs G Z μ H ws xs → xs = vs ∧ vs.all flatV = true
  | [], vs, xs, e, h => by unfold flWs at e; cases e; unfold VRs at h; subst h; exact ⟨rfl, rfl⟩
  | w :: ws, vs, xs, e, h => by
    unfold VRs at h
    obtain ⟨v, r, rfl, h1, h2⟩ := h
    unfold flWs at e
    cases e1 : flW w with
    | none => rw [e1] at e; cases e
    | some a =>
      rw [e1] at e
      cases e2 : flWs ws with
      | none => rw [e2] at e; cases e
      | some as =>
        rw [e2] at e; cases e
        obtain ⟨k1, k2⟩ := flW_v e1 h1
        obtain ⟨k3, k4⟩ := flWs_v e2 h2
        exact ⟨by rw [k1, k3], by rw [List.all_cons, k2, k4]; rfl⟩
theorem anyL_ok (r : Rel G Z μ H S) {w : W} {ws : List W} {v : V} (e : anyL S w = some ws) (h : VR G Z μ H w v) : ∃ a vs, v = .ref a ∧ (SqL G.K H a vs ∨ SqT G.K H a vs) ∧ VRs G Z μ H ws vs := by
  unfold anyL at e
  split at e
  · cases e
    obtain ⟨a, vs, rfl, q1, q2⟩ := i_tup h
    exact ⟨a, vs, rfl, .inr q1.sq, q2⟩
  · obtain ⟨a, vs, rfl, q1, q2⟩ := itemsL_ok r e h
    exact ⟨a, vs, rfl, .inl q1, q2⟩
end
section
variable {X : Cx} {G : Glo} {E : XK} {a b e o i : Expr} {ma mb mo mi : ME} {mr : MA} {pos p p2 pos2 : Pos}
theorem o_inD_ (hK : X.K = G.K) (hu : X.A.units + 65 < cLine) {neg : Bool} {F : Value → Value → Sem Value} (h : OpR X F fun x y H Q => ∃ d ds, Dp X.K H x d ∧ Dp X.K H y (.list ds) ∧ SeqAt.shaped d = true ∧ SeqAt.shaped (.list ds) = true ∧ Q (.bl (if neg then !ds.any (fun z => PyData.eqv z d) else ds.any (fun z => PyData.eqv z d))) H) : OpR X F (rM G E (inDW neg)) := by
  intro pins s σ H x y v u Q I rx ry ⟨w1, w2, S, Z, μ, r, h1, h2, af⟩
  unfold inDW at af
  split at af
  · rename_i d e1
    split at af
    · rename_i ds e2
      split at af
      · rename_i e3
        rw [Bool.and_eq_true] at e3
        exact h pins s σ H _ _ v u Q I rx ry ⟨d, ds, by rw [hK]; exact dataS_dp r e1 h1, by rw [hK]; exact dataS_dp r e2 h2, e3.1, e3.2, end_val r (vr_bl _ _ _) af⟩
      · exact af.elim
    · exact af.elim
  · exact af.elim
theorem o_in_ (hK : X.K = G.K) {neg : Bool} {F : Value → Value → Sem Value} (h : OpR X F (rIn X.K neg)) (hD : OpR X F (rM G E (inDW neg))) : OpR X F (rM G E (inW neg)) := by
  intro pins s σ H x y v u Q I rx ry ⟨w1, w2, S, Z, μ, r, h1, h2, af⟩
  unfold inW at af
  split at af
  · rename_i a e1
    split at af
    · rename_i ws e2
      split at af
      · rename_i vs e3
        obtain ⟨rfl, f1⟩ := flW_v e1 h1
        obtain ⟨p, xs, rfl, q1, q2⟩ := anyL_ok r e2 h2
        obtain ⟨rfl, f2⟩ := flWs_v e3 q2
        exact h pins s σ H _ _ v u Q I rx ry ⟨p, _, rfl, by rw [hK]; exact q1, f1, f2, end_val r (vr_bl _ _ _) af⟩
      · exact hD pins s σ H x y v u Q I rx ry ⟨w1, w2, S, Z, μ, r, h1, h2, af⟩
    · exact af.elim
  · exact hD pins s σ H x y v u Q I rx ry ⟨w1, w2, S, Z, μ, r, h1, h2, af⟩
theorem o_in (hK : X.K = G.K) (hu : X.A.units + 65 < cLine) : OpR X (compareOp .In) (rM G E (inW false)) := o_in_ hK op_in_seq (o_inD_ hK hu (op_inD hu))
theorem o_nin (hK : X.K = G.K) (hu : X.A.units + 65 < cLine) : OpR X (compareOp .NotIn) (rM G E (inW true)) := o_in_ hK op_notIn_seq (o_inD_ hK hu (op_notInD hu))
/-! ### k in d -/
theorem din_reads {σ : L2.St} {H : Hp} {Q : VK} {neg : Bool} (h : tM G E (mBin (dinW neg) mi mo) σ H Q) : tM G E mi σ H fun y H1 => tM G E mo σ H1 fun x H2 => ∃ a o, x = .ref a ∧ DGet H2 a y o ∧ Q (.bl (if neg then !o.isSome else o.isSome)) H2 := by
  obtain ⟨ρ, S, Z, μ, r, er, af⟩ := h
  refine ⟨ρ, S, Z, μ, r, er, Aft.imp (Aft.bind af) fun iw Z1 μ1 H1 S1 _ g1 r1 a1 y hy => ?_⟩
  have er1 := er.mono r g1
  refine ⟨ρ, S1, Z1, μ1, r1, er1, Aft.imp (Aft.bind a1) fun ow Z2 μ2 H2 S2 _ g2 r2 a2 x hx => ?_⟩
  have hy2 := hy.mono r1 g2
  unfold dinW at a2
  split at a2
  · split at a2
    · rename_i k hk
      split at a2
      · rename_i kvs hs
        obtain ⟨a, es, rfl, q0, q1, q2⟩ := r2.dict hx hs
        refine ⟨a, valV es k, rfl, ?_, ?_⟩
        · rw [keyW_v hk hy2]; exact DGet.k q1
        · rw [dval_some q2]; exact end_val r2 (vr_bl _ _ _) a2
      · exact a2.elim
    · exact a2.elim
  · exact a2.elim
theorem em_din (hu : X.A.units + 64 < cLine) (hi : PE X i (tM G E mi)) (ho : PE X o (tM G E mo)) (h1 : behindInMarks .In o = false := by first | exact nomark _ | rfl) : PE X (.Compare i [.In] [o] pos) (tM G E (mBin (dinW false) mi mo)) :=
  (pe_cmp (pc_din (by omega) hi ho) h1).weak fun σ H Q h => din_reads h
theorem em_dnin (hu : X.A.units + 64 < cLine) (hi : PE X i (tM G E mi)) (ho : PE X o (tM G E mo)) (h1 : behindInMarks .NotIn o = false := by first | exact nomark _ | rfl) : PE X (.Compare i [.NotIn] [o] pos) (tM G E (mBin (dinW true) mi mo)) :=
  (pe_cmp (pc_dnotin (by omega) hi ho) h1).weak fun σ H Q h => din_reads h
theorem isT_reads {σ : L2.St} {H : Hp} {Q : Bool → Hp → Prop} (h : tMT G E (mIsT ma) σ H Q) : tM G E ma σ H fun x H' => ∃ k, x = .bl k ∧ Q k H' := by
  obtain ⟨ρ, S, Z, μ, r, er, af⟩ := h
  exact ⟨ρ, S, Z, μ, r, er, Aft.imp (Aft.bind af) fun w Z1 μ1 H1 S1 _ g1 r1 a1 x hx => by
    cases w with
    | bl k => exact ⟨k, vr_bl_of hx, Aft.here (E := E) (P := PB Q) r1 a1⟩
    | _ => exact a1.elim⟩
theorem tm_din (hu : X.A.units + 64 < cLine) (hi : PE X i (tM G E mi)) (ho : PE X o (tM G E mo)) (h1 : behindInMarks .In o = false := by first | exact nomark _ | rfl) : PT X (.Compare i [.In] [o] pos) (tMT G E (mIsT (mBin (dinW false) mi mo))) :=
  (pt_cmp (pc_din (by omega) hi ho) h1).weak fun σ H Q h => din_reads (isT_reads h)
theorem tm_dnin (hu : X.A.units + 64 < cLine) (hi : PE X i (tM G E mi)) (ho : PE X o (tM G E mo)) (h1 : behindInMarks .NotIn o = false := by first | exact nomark _ | rfl) : PT X (.Compare i [.NotIn] [o] pos) (tMT G E (mIsT (mBin (dinW true) mi mo))) :=
  (pt_cmp (pc_dnotin (by omega) hi ho) h1).weak fun σ H Q h => din_reads (isT_reads h)
/-! ### list(range(n)) -/
def lrngW (ws : List W) (S : Sto) : R W := match ws with
  | [.int j] => if j < 100000 ∧ -100000 < j then .ok (.lst (rangeW 0 j.toNat)) S else .stuck
  | _ => .stuck
def lrngN (ws : List W) (S : Sto) : R W := match ws with
  | [.int j] => if j < 100000 ∧ -100000 < j then .ok (.ref S.length) (S ++ [.lst (rangeW 0 j.toNat)]) else .stuck
  | _ => .stuck
def lrng2W (ws : List W) (S : Sto) : R W := match ws with
  | [.int i, .int j] => if j < 100000 ∧ -100000 < j ∧ i < 100000 ∧ -100000 < i then .ok (.lst (rangeW i (j - i).toNat)) S else .stuck
  | _ => .stuck
theorem rangeW_v {Z : Addr → Prop} {μ : List Addr} {H : Hp} : ∀ (n : Nat) (lo : Int), VRs G Z μ H (rangeW lo n) ((List.range n).map fun i => V.int (lo + (i : Nat)))
  | 0, _ => VRs.nil
  | n + 1, lo => by
    rw [List.range_succ_eq_map, List.map_cons, List.map_map]
    unfold rangeW
    refine VRs.cons (by unfold VR; simp) ?_
    have h := rangeW_v (Z := Z) (μ := μ) (H := H) n (lo + 1)
    have e : (fun i : Nat => V.int (lo + 1 + (i : Nat))) = ((fun i : Nat => V.int (lo + (i : Nat))) ∘ Nat.succ) := by
      funext i
      show V.int _ = V.int _
      congr 1
      push_cast
      omega
    rw [← e]
    exact h
theorem em_lrng {q pos' : Pos} (hm : X.mg "list" = none) (hm2 : X.mg "range" = none) (ha : PE X a (tM G E ma)) (hc : X.calm = true := by rfl) (hg : Gl X "list" := by rfl) (hg2 : Gl X "range" := by rfl) (na : starEach [a] X.env = (false, eval a X.env) :: starEach [] X.env := by rfl)
    (nb : starEach [.Call (.Name "range" q) [a] [] pos'] X.env = (false, eval (.Call (.Name "range" q) [a] [] pos') X.env) :: starEach [] X.env := by rfl) :
    PE X (.Call (.Name "list" p) [.Call (.Name "range" q) [a] [] pos'] [] pos) (tM G E (mAp lrngW (mCons ma mNil))) :=
  (pe_listRg hc hg hm (prg_1 hg2 hm2 ha na) nb).weak fun σ H Q ⟨ρ, S, Z, μ, r, er, af⟩ => by
    have h := Aft.bind af
    unfold mCons at h
    refine ⟨ρ, S, Z, μ, r, er, Aft.imp (Aft.bind h) fun w Z1 μ1 H1 S1 _ g1 r1 a1 x hx => ?_⟩
    have a2 := Aft.here (E := E) r1 a1
    unfold lrngW at a2
    split at a2
    · rename_i j he
      have e1 : w = .int j := by cases he; rfl
      subst e1
      split at a2
      · rename_i hj
        refine ⟨j, i_int hx, ⟨by omega, by omega, by omega, by omega, by omega⟩, end_lst r1 ?_ a2⟩
        have := rangeW_v (G := G) (Z := Z1) (μ := μ1) (H := H1) j.toNat 0
        unfold rgV
        rw [Int.sub_zero]
        exact this
      · exact a2.elim
    · exact a2.elim
theorem em_lrngN {q pos' : Pos} (hm : X.mg "list" = none) (hm2 : X.mg "range" = none) (ha : PE X a (tM G E ma)) (hc : X.calm = true := by rfl) (hg : Gl X "list" := by rfl) (hg2 : Gl X "range" := by rfl) (na : starEach [a] X.env = (false, eval a X.env) :: starEach [] X.env := by rfl)
    (nb : starEach [.Call (.Name "range" q) [a] [] pos'] X.env = (false, eval (.Call (.Name "range" q) [a] [] pos') X.env) :: starEach [] X.env := by rfl) :
    PE X (.Call (.Name "list" p) [.Call (.Name "range" q) [a] [] pos'] [] pos) (tM G E (mAp lrngN (mCons ma mNil))) :=
  (pe_listRg hc hg hm (prg_1 hg2 hm2 ha na) nb).weak fun σ H Q ⟨ρ, S, Z, μ, r, er, af⟩ => by
    have h := Aft.bind af
    unfold mCons at h
    refine ⟨ρ, S, Z, μ, r, er, Aft.imp (Aft.bind h) fun w Z1 μ1 H1 S1 _ g1 r1 a1 x hx => ?_⟩
    have a2 := Aft.here (E := E) r1 a1
    unfold lrngN at a2
    split at a2
    · rename_i j he
      have e1 : w = .int j := by cases he; rfl
      subst e1
      split at a2
      · rename_i hj
        refine ⟨j, i_int hx, ⟨by omega, by omega, by omega, by omega, by omega⟩, end_new r1 ?_ a2⟩
        have := rangeW_v (G := G) (Z := Z1) (μ := μ1) (H := H1) j.toNat 0
        unfold rgV
        rw [Int.sub_zero]
        exact this
      · exact a2.elim
    · exact a2.elim
/-! ### a list by repetition, kept -/
def mulN (x y : W) (S : Sto) : R W := match x with
  | .lst a => (match y with | .int k => if decide (-100000 < k) && decide (k < 100000) && decide (a.length * k.toNat ≤ 100000) then .ok (.ref S.length) (S ++ [.lst (repL k.toNat a)]) else .stuck | _ => .stuck)
  | _ => .stuck
theorem o_mulN : OpR X (binaryOp .Mult) (rM G E mulN) := by
  intro pins s σ H x y v u Q I rx ry ⟨w1, w2, S, Z, μ, r, h1, h2, af⟩
  unfold mulN at af
  split at af
  · split at af
    · split at af
      · rename_i hs
        simp only [Bool.and_eq_true, decide_eq_true_eq] at hs
        obtain ⟨a, vs, rfl, q1, _, q2⟩ := i_lst h1
        exact op_rep pins s σ H _ _ v u Q I rx ry ⟨a, _, vs, rfl, i_int h2, q1, by omega, by omega, by rw [q2.length]; exact Nat.le_trans hs.2 (by decide), end_new r (q2.rep _) af⟩
      · exact af.elim
    · exact af.elim
  · exact af.elim
/-! ### slices x[lo:], x[lo:hi], x[:hi] -/
def sixN (n d : Nat) : Option Int → Nat
  | none => d
  | some v => if v < 0 then (v + (n : Int)).toNat else min v.toNat n
def cutL {α : Type} (xs : List α) (lo hi : Option Int) : List α := (xs.drop (sixN xs.length 0 lo)).take (sixN xs.length xs.length hi - sixN xs.length 0 lo)
def partM (m : Option ME) (ρ : Env') (S : Sto) : R (Option Int) := match m with
  | none => .ok none S
  | some f => (f ρ S).bind fun w S1 => match w with
    | .int i => .ok (some i) S1
    | _ => .stuck
def slcW (x : W) (lo hi : Option Int) (S : Sto) : R W := match x with
  | .tup ws => .ok (.tup (cutL ws lo hi)) S
  | x => (match itemsL S x with
    | some ws => .ok (.lst (cutL ws lo hi)) S
    | none => .stuck)
theorem tm_stuck {c : Expr} : PT X c (tMT G E (mIsT mStuck)) := ⟨fun pins s σ H Q I ⟨ρ, S, Z, μ, r, er, af⟩ => af.elim⟩
theorem sixN_eq (n d : Nat) (v : Option Int) : HT.sIx n d v = sixN n d v := by cases v <;> rfl
theorem cut_vrs {Z : Addr → Prop} {μ : List Addr} {H : Hp} {ws : List W} {vs : List V} {lo hi : Option Int} (h : VRs G Z μ H ws vs) : VRs G Z μ H (cutL ws lo hi) (cutV vs lo hi) := by
  unfold cutL cutV
  rw [sixN_eq, sixN_eq, h.length]
  exact (h.drop _).take _
def mSlc (mo : ME) (ml mh : Option ME) : ME := fun ρ S => (mo ρ S).bind fun x S1 => (partM ml ρ S1).bind fun lo S2 => (partM mh ρ S2).bind fun hi S3 => slcW x lo hi S3
/-- a part of a slice -/
def tPM (G : Glo) (E : XK) (m : Option ME) : TO := fun σ H Q => ∃ ρ S Z μ, Rel G Z μ H S ∧ ER G Z μ H ρ σ ∧ Aft G E Z μ H (partM m ρ S) (fun o _ _ H' _ => Q o H')
theorem pm_none : PO X none (tPM G E none) := by
  refine ⟨fun pins s σ H Q I ⟨ρ, S, Z, μ, r, er, af⟩ => po_none.run pins s σ H Q I ?_⟩
  exact Aft.here (E := E) (P := fun o _ _ H' _ => Q o H') r af
theorem pm_some (h : PE X e (tM G E ma)) : PO X (some e) (tPM G E (some ma)) := by
  refine ⟨fun pins s σ H Q I ⟨ρ, S, Z, μ, r, er, af⟩ => (po_some h).run pins s σ H Q I ?_⟩
  unfold partM at af
  refine ⟨ρ, S, Z, μ, r, er, Aft.imp (Aft.bind af) fun w Z1 μ1 H1 S1 _ g1 r1 a1 x hx => ?_⟩
  split at a1
  · exact ⟨_, i_int hx, Aft.here (E := E) (P := fun o _ _ H' _ => Q o H') r1 a1⟩
  · exact a1.elim
/-- t[lo:hi]: the whole is t itself, else a new one that is known whole -/
def rSlX (K : PySem.W.Frag) : V → Option Int → Option Int → Hp → VK → Prop := fun x lo hi H Q => ∃ a xs, x = .ref a ∧ SqT K H a xs ∧
  (HT.sIx xs.length 0 lo = 0 ∧ HT.sIx xs.length xs.length hi = xs.length → Q (.ref a) H) ∧ (¬ (HT.sIx xs.length 0 lo = 0 ∧ HT.sIx xs.length xs.length hi = xs.length) → ∀ (p : Addr) (o : Obj), o.dict = none → H p = none → Q (.ref p) (upd H p (.frz o (.tup (cutV xs lo hi)))))
theorem sl_tupX {X : Cx} : SlR X (rSlX X.K) := by
  intro pins s σ H x v vl vu lo hi sl Q I rx hs pl pu ⟨a, xs, e0, hx, q1, q2⟩
  subst e0
  cases rx
  obtain ⟨its, r, ht, hz⟩ := I.tuple hx
  have hn : its.toArray.size = xs.length := by rw [List.size_toArray]; exact r.length.symm
  refine ⟨"tuple", _, PyProof.Rows.slot_tuple_getitem.lookup, ht.typeIs, ?_⟩
  by_cases hw : HT.sIx xs.length 0 lo = 0 ∧ HT.sIx xs.length xs.length hi = xs.length
  · exact getItem_tuple_whole ht hs pl pu (by rw [hn]; exact hw) ⟨.ref a, H, I, rfl, q1 hw⟩
  · refine HT.getItem_tuple_cut ht hs pl pu (by rw [hn]; exact hw) ?_ (by rw [hn]; exact hz)
    rw [hn]
    exact ⟨.ref s.heap.objs.size, _, laid_tup (xs := cutV xs lo hi) I ((r.drop (HT.sIx xs.length 0 lo)).take (HT.sIx xs.length xs.length hi - HT.sIx xs.length 0 lo)) (Nat.le_trans (cutV_length xs lo hi) hz), rfl, q2 hw _ _ rfl (I.hok.fresh (Nat.le_refl _))⟩
def rSlM (K : PySem.W.Frag) : V → Option Int → Option Int → Hp → VK → Prop := fun x lo hi H Q => rSlL K x lo hi H Q ∨ rSlX K x lo hi H Q
theorem sl_any : SlR X (rSlM X.K) := by
  intro pins s σ H x v vl vu lo hi sl Q I rx hs pl pu h
  rcases h with h | h
  · exact sl_list pins s σ H x v vl vu lo hi sl Q I rx hs pl pu h
  · exact sl_tupX pins s σ H x v vl vu lo hi sl Q I rx hs pl pu h
theorem cut_whole {α : Type} {ws : List α} {lo hi : Option Int} (h : sixN ws.length 0 lo = 0 ∧ sixN ws.length ws.length hi = ws.length) : cutL ws lo hi = ws := by
  unfold cutL
  rw [h.1, h.2]
  simp
theorem em_slc (hK : X.K = G.K) {lo hi : Option Expr} {ml mh : Option ME} (ho : PE X o (tM G E mo)) (hl : PO X lo (tPM G E ml)) (hh : PO X hi (tPM G E mh)) : PE X (.Subscript o (.Slice lo hi none p2) pos) (tM G E (mSlc mo ml mh)) :=
  (pe_slice sl_any ho hl hh).weak fun σ H Q ⟨ρ, S, Z, μ, r, er, af⟩ => by
    refine ⟨ρ, S, Z, μ, r, er, Aft.imp (Aft.bind af) fun ow Z1 μ1 H1 S1 _ g1 r1 a1 x hx => ?_⟩
    have er1 := er.mono r g1
    refine ⟨ρ, S1, Z1, μ1, r1, er1, Aft.imp (Aft.bind a1) fun l Z2 μ2 H2 S2 _ g2 r2 a2 => ?_⟩
    refine ⟨ρ, S2, Z2, μ2, r2, er1.mono r1 g2, Aft.imp (Aft.bind a2) fun u Z3 μ3 H3 S3 _ g3 r3 a3 => ?_⟩
    have hx3 := (hx.mono r1 g2).mono r2 g3
    unfold slcW at a3
    split at a3
    · rename_i ws
      obtain ⟨a, vs, rfl, q1, q2⟩ := i_tup hx3
      refine .inr ⟨a, vs, rfl, q1.sq, fun hw => ?_, fun _ => end_tup r3 (cut_vrs q2) a3⟩
      rw [sixN_eq, sixN_eq, q2.length] at hw
      rw [cut_whole hw] at a3
      exact end_val r3 hx3 a3
    · split at a3
      · rename_i ws hi'
        obtain ⟨a, vs, rfl, q1, q2⟩ := itemsL_ok r3 hi' hx3
        exact .inl ⟨a, vs, rfl, by rw [hK]; exact q1, end_lst r3 (cut_vrs q2) a3⟩
      · exact a3.elim
end
end Mo

set_option Elab.async false
set_option linter.all false
set_option maxRecDepth 100000
set_option autoImplicit false
/-! Mon15: enumerate and zip over lists and tuples, mixed. -/
namespace Mo
open PySem PySem.Spec L2
open PyProof.Rows hiding St

def SqB (t : Bool) (K : PySem.W.Frag) (H : Hp) (a : Addr) (xs : List V) : Prop := if t then SqT K H a xs else SqL K H a xs
def IsB (t : Bool) (h : Heap) (a : Addr) (its : Array Value) : Prop := if t then h.IsTuple a its else h.IsList a its
def ItB (t : Bool) (h : Heap) (it a : Addr) (i : Nat) : Prop := if t then h.IsTupleIter it a i else h.IsListIter it a i
section
variable {X : Cx} {pins : List (Addr × Obj)} {σ : L2.St} {H : Hp} {s : Shared} {t : Bool} {a : Addr} {xs ys : List V} {h h' : Heap} {it : Addr} {i : Nat} {its : Array Value}
theorem SqB.at_ (I : Inv X pins σ H s) (q : SqB t X.K H a xs) : ∃ us : List Value, Vals xs us ∧ IsB t s.heap a us.toArray := by
  cases t
  · obtain ⟨us, rv, p, _⟩ := I.list (show SqL X.K H a xs from q)
    exact ⟨us, rv, p.isList⟩
  · obtain ⟨us, rv, p, _⟩ := I.tuple (show SqT X.K H a xs from q)
    exact ⟨us, rv, p⟩
theorem SqB.inj (I : Inv X pins σ H s) (q : SqB t X.K H a xs) (q' : SqB t X.K H a ys) : xs = ys := by
  cases t
  · exact I.list_inj (show SqL X.K H a xs from q) q'
  · exact I.tuple_inj (show SqT X.K H a xs from q) q'
theorem ItB.obj (p : ItB t h it a i) : ∃ o, h.get? it = some o ∧ o.cls = .type (if t then "tuple_iterator" else "list_iterator") ∧ ∀ v, o.data ≠ .cell v := by
  cases t
  · obtain ⟨o, h1, h2, h3⟩ := (show h.IsListIter it a i from p)
    exact ⟨o, h1, h2, fun v z => by rw [h3] at z; cases z⟩
  · obtain ⟨o, h1, h2, h3⟩ := (show h.IsTupleIter it a i from p)
    exact ⟨o, h1, h2, fun v z => by rw [h3] at z; cases z⟩
theorem ItB.at_ (p : ItB t h it a i) (k : ∀ o, h.get? it = some o → h'.get? it = some o) : ItB t h' it a i := by
  cases t
  · exact (show h.IsListIter it a i from p).at k
  · exact (show h.IsTupleIter it a i from p).at k
theorem IsB.obj (p : IsB t h a its) : ∃ o, h.get? a = some o ∧ o.cls = .type (if t then "tuple" else "list") := by
  cases t
  · obtain ⟨o, h1, h2, _⟩ := (show h.IsList a its from p)
    exact ⟨o, h1, h2⟩
  · obtain ⟨o, h1, h2, _⟩ := (show h.IsTuple a its from p)
    exact ⟨o, h1, h2⟩
theorem IsB.ne_it (p : IsB t h a its) {t' : Bool} {b : Addr} (q : ItB t' h it b i) : a ≠ it := fun e => by
  obtain ⟨o, h1, h2⟩ := p.obj
  obtain ⟨o', h3, h4, _⟩ := q.obj
  rw [e, h3] at h1
  cases h1
  rw [h2] at h4
  have h5 := Value.type.inj h4
  revert h5
  cases t <;> cases t' <;> decide
theorem drawsB {prog : Program} {w : World} {A : Around} (hh : A.handled = none) (hne : a ≠ it) : Draws prog w A it [it, a] its.size (fun i v => its[i]? = some v) (fun i h => ItB t h it a i ∧ IsB t h a its) := by
  cases t
  · exact Draws.list hh it a hne its
  · exact Draws.tuple hh it a hne its
def objB (t : Bool) (a : Addr) : Obj := if t then { cls := .type "tuple_iterator", data := .fields #[.ref a, .int 0 0] } else { cls := .type "list_iterator", data := .fields #[.ref a, .int 0 0] }
theorem beginsB : Begins (.ref a) (objB t a) fun h => IsB t h a its := by
  cases t
  · exact begins_list a its
  · exact begins_tuple a its
theorem itB_new (p : h.get? it = some (objB t a)) : ItB t h it a 0 := by
  cases t
  · exact ⟨_, p, rfl, rfl⟩
  · exact ⟨_, p, rfl, rfl⟩
end
/-! ### enumerate -/
open Sem (wp) in
theorem meets_enum1B {v : Value} {o : Obj} {H : Heap → Prop} (B : Begins v o H) :
    Meets (Builtin.«enumerate.__new__» ⟨[.type "enumerate", v], []⟩) (fun _ R s => H s.heap ∧
      R (.ok (.ret (.ref (s.heap.push o).objs.size))) { s with heap := (s.heap.push o).push { cls := .type "enumerate", data := .fields #[.none, .bool false, .ref s.heap.objs.size, rawInt 0, .none, .none] } }) :=
  .of_wp fun prog w A R s h => by
    obtain ⟨hp, g, d, tk, os⟩ := s; obtain ⟨h1, h⟩ := h
    have hsub := sub_enumerate
    have q1 : ∀ {A' : Around} {E : Value → Shared → Prop} {Q : Value → Shared → Prop}, Q (.ref hp.objs.size) ⟨hp.push o, g, d, tk, os⟩ → wpAny (model prog w) A' (pyIter v) Q E ⟨hp, g, d, tk, os⟩ :=
      fun q => B.iter prog w _ _ ⟨hp, g, d, tk, os⟩ _ h1 q
    wp_walk using q1
    refine wpAny_stack_any fun st => wpAny_pure ?_
    split
    · rename_i c _ _ _ _ _
      cases (c == Value.type "enumerate")
      · wp_walk using q1
        exact ⟨_, rfl, h⟩
      · wp_walk using q1
        exact ⟨_, rfl, h⟩
    · wp_walk using q1
      exact ⟨_, rfl, h⟩
theorem call_enumB {prog : Program} {w : World} {A : Around} {E : Value → Shared → Prop} {s : Shared} {v : Value} {o : Obj} {H : Heap → Prop} {Q : Value → Shared → Prop} (B : Begins v o H) (h1 : H s.heap)
    (h : ∀ h', IsEnum h' (s.heap.objs.size + 1) s.heap.objs.size 0 .none → h'.get? s.heap.objs.size = some o → h'.objs.size = s.heap.objs.size + 2 →
      (∀ b o, s.heap.get? b = some o → h'.get? b = some o) → Q (.ref (s.heap.objs.size + 1)) { s with heap := h' }) :
    wpAny (model prog w) A (call (.type "enumerate") [v]) Q E s := by
  refine callType_new F.called_enumerate (by decide) (F.typeCall_enumerate_1 _) (F.newCall_enumerate_1 _) (fun obj => F.args_object_init_2 obj _) F.entry_enumerate_new (meets_enum1B B) ⟨h1, ?_⟩
  have hz : (s.heap.push o).objs.size = s.heap.objs.size + 1 := Heap.size_push ..
  show _ ∧ _
  rw [hz]
  have he : IsEnum ((s.heap.push o).push { cls := .type "enumerate", data := .fields #[.none, .bool false, .ref s.heap.objs.size, rawInt 0, .none, .none] }) (s.heap.objs.size + 1) s.heap.objs.size 0 .none := by
    have e1 := Heap.get?_push_size (s.heap.push o) (o := { cls := .type "enumerate", data := .fields #[.none, .bool false, .ref s.heap.objs.size, rawInt 0, .none, .none] }) rfl
    rw [hz] at e1; exact e1
  exact ⟨⟨_, he, rfl⟩, h _ he (Heap.get?_push_of_some _ (Heap.get?_push_size _ B.free)) (by rw [Heap.size_push, hz]) fun b o x => Heap.get?_push_of_some _ (Heap.get?_push_of_some _ x)⟩
def IteB (t : Bool) (K : PySem.W.Frag) (a : Addr) : It :=
  ⟨fun i H => ∃ (xs : List V) (x : V), SqB t K H a xs ∧ xs[i]? = some x, fun i H v H' => ∃ T x, v = .ref T ∧ H T = none ∧ H' = upd H T (.tup [.int (i : Nat), x]) ∧ ∀ xs, SqB t K H a xs → xs[i]? = some x, fun i H => ∃ xs : List V, SqB t K H a xs ∧ xs.length = i⟩
theorem turn_enumB {P : Program} {w : World} {K : PySem.W.Frag} {elts : List Expr} {kk : Nat} {tpos : Pos} (t : Bool) (a e it : Addr) :
    Turn P w K (.Tuple elts kk tpos) (IteB t K a) [e, it] e (fun i h => (∃ old, IsEnum h e it ((i : Nat) : Int) old) ∧ ItB t h it a i ∧ e ≠ it) where
  mem := by simp
  obj := fun i h st b hb => by
    obtain ⟨⟨old, he⟩, hi, _⟩ := st
    obtain ⟨o, h1, _, h3⟩ := hi.obj
    have e' : b = e ∨ b = it := by simpa using hb
    rcases e' with z | z
    · rw [z]; exact ⟨_, he, fun v q => nomatch q⟩
    · rw [z]; exact ⟨o, h1, h3⟩
  keep := fun i h h' st k => let ⟨⟨old, he⟩, hi, hne⟩ := st; ⟨⟨old, k e (by simp) _ he⟩, hi.at_ fun o q => k it (by simp) o q, hne⟩
  item := by
    intro X hP hw hK hc i pins s σ H E I hf st hg
    subst hP hw hK
    obtain ⟨⟨old, he⟩, hit, hne⟩ := st
    obtain ⟨xs, x, hq, hx⟩ := hg
    obtain ⟨us, rv, p⟩ := hq.at_ I
    obtain ⟨u, hu, ru⟩ := rv.get hx
    have hel : e < s.heap.objs.size := Heap.lt_size he
    have hil : it < s.heap.objs.size := by obtain ⟨_, q, _⟩ := hit.obj; exact Heap.lt_size q
    have hai : a ≠ it := p.ne_it hit
    have hea : e ≠ a := fun z => by
      obtain ⟨o, h1, h2⟩ := p.obj
      rw [← z] at h1
      have h3 := h1.symm.trans he
      have h4 : o.cls = .type "enumerate" := by rw [Option.some.inj h3]
      have h5 := Value.type.inj (h2.symm.trans h4)
      revert h5
      cases t <;> decide
    have hlt : i < us.toArray.size := by
      have := (List.getElem?_eq_some_iff.mp hu).1
      simpa using this
    refine wpAny_pyNext_enum_itemD (drawsB (t := t) (A := X.A.in1) (by exact I.ok.hd hc) hai) he ⟨hit, p⟩ hlt hne (by simp [hne, hea]) fun y h' tk hP ho st' hT hsz hk => ?_
    have ey : y = u := by
      have hP' : us.toArray[i]? = some y := hP
      rw [List.getElem?_toArray] at hP'
      rw [hu] at hP'
      exact (Option.some.inj hP').symm
    subst ey
    refine ⟨_, rfl, wpAny_letOwnedTupleGo_enum (s := { s with heap := h', toks := tk + 1 }) ho fun h'' he' sb => ?_⟩
    have hT2 : h''.get? s.heap.objs.size = some { cls := .type "tuple", data := .seq #[.int i tk, y] } := (sb.2 _ (Nat.ne_of_gt hel)).trans hT
    have new : ObjOk X.prog X.w (upd H s.heap.objs.size (.tup [.int (i : Nat), x])) h'' s.heap.objs.size (.tup [.int (i : Nat), x]) :=
      ⟨by show 2 ≤ sizeLine; decide, [.int i tk, y], .cons ⟨_, rfl⟩ (.cons ru .nil), ⟨_, hT2, rfl, _, rfl⟩⟩
    have I1 : Inv X pins σ (upd H s.heap.objs.size (.tup [.int (i : Nat), x])) { s with heap := h'', toks := tk + 1 } :=
      I.turnedNew (ch := [e, it]) (fun b ob hb q => (sb.2 b (fun z => hb (by simp [z]))).trans (hk b ob (fun z => hb (by simp [z])) (fun z => hb (by simp [z])) q)) hf (Nat.le_refl _) new
    refine ⟨.ref s.heap.objs.size, _, I1, rfl, ⟨_, x, rfl, I.hok.fresh (Nat.le_refl _), rfl, fun ys hy => by rw [hy.inj I hq]; exact hx⟩, ⟨⟨y, ?_⟩, st'.1.at_ fun o q => (sb.2 it (Ne.symm hne)).trans q, hne⟩, fun b hb => ?_⟩
    · have e1 : ((i + 1 : Nat) : Int) = (i : Int) + 1 := by omega
      rw [e1]; exact he'
    · have hb' : b < s.heap.objs.size := by
        have e' : b = e ∨ b = it := by simpa using hb
        rcases e' with z | z
        · rw [z]; exact hel
        · rw [z]; exact hil
      rw [upd_ne (Nat.ne_of_lt hb')]
      exact (hf b hb).1
  done := by
    intro X hP hw hK hc i pins s σ H E I hf st hg
    subst hP hw hK
    obtain ⟨⟨old, he⟩, hit, hne⟩ := st
    obtain ⟨xs, hq, hx⟩ := hg
    obtain ⟨us, rv, p⟩ := hq.at_ I
    obtain ⟨f0, f1, f2, f3, f4, f5⟩ := hf it (by simp)
    have hl := rv.length
    have hai : a ≠ it := p.ne_it hit
    have hn : us.toArray.size = i := by simp; omega
    exact wpAny_pyNext_enum_endD (drawsB (t := t) (its := us.toArray) (A := X.A.in1) (by exact I.ok.hd hc) hai) he ⟨by rw [hn]; exact hit, p⟩ fun h' eb => ⟨rfl, I.turned (t' := s.toks) (fun b o hb q => eb b o hb q) f0 f1 f3 f4 f5⟩
  self := fun A i s Q E st h => let ⟨⟨_, he⟩, _⟩ := st; wpAny_pyIter_enum he h
def iEnumB (K : PySem.W.Frag) (ta : TA) : TI := fun σ H R => ta σ H fun vs H1 => ∃ (t : Bool) (a : Addr) (xs : List V), vs = [.ref a] ∧ SqB t K H1 a xs ∧ R (IteB t K a) H1
theorem pi_enumB {X : Cx} {e : Expr} {ta : TA} {p pos tpos : Pos} {elts : List Expr} {kk : Nat} (hg : Gl X "enumerate") (hm : X.mg "enumerate" = none) (ha : PA X [e] ta) (hs : starEach [e] X.env = [(false, eval e X.env)] := by rfl) :
    PI X (.Tuple elts kk tpos) (.Call (.Name "enumerate" p) [e] [] pos) (iEnumB X.K ta) := by
  refine ⟨fun pins s σ H R I h => ?_⟩
  refine Call_ (ld_blt I hg hm boot_enumerate (PyProof.Rows.callWith_type1 (thn (ha.run pos pins s σ H _ I h) fun us s1 ⟨vs, H1, I1, r1, q1⟩ => ?_) hs rfl))
  obtain ⟨t, a, xs, ex, hq, q⟩ := q1
  subst ex
  cases r1 with
  | cons r rr =>
    cases rr
    cases r
    obtain ⟨its, rv, p'⟩ := hq.at_ I1
    have fin : ∀ h' : Heap, IsEnum h' (s1.heap.objs.size + 1) s1.heap.objs.size 0 .none → ItB t h' s1.heap.objs.size a 0 → (∀ b o, s1.heap.get? b = some o → h'.get? b = some o) → wpAny (model X.prog X.w) X.A (pyIter (.ref (s1.heap.objs.size + 1))) (PIE X pins σ (.Tuple elts kk tpos) R) X.xe { s1 with heap := h' } := fun h' he hit hk => by
      refine wpAny_pyIter_enum he ?_
      have I2 : Inv X pins σ H1 { s1 with heap := h' } := I1.kept (t' := s1.toks) hk
      refine ⟨s1.heap.objs.size + 1, [s1.heap.objs.size + 1, s1.heap.objs.size], _, _, H1, rfl, I2, turn_enumB t a (s1.heap.objs.size + 1) s1.heap.objs.size, ⟨⟨.none, he⟩, hit, Nat.succ_ne_self _⟩, fun b hb => ?_, q⟩
      have e' : b = s1.heap.objs.size + 1 ∨ b = s1.heap.objs.size := by simpa using hb
      have hle : s1.heap.objs.size ≤ b := by
        rcases e' with z | z
        · rw [z]; exact Nat.le_add_right _ _
        · rw [z]; exact Nat.le_refl _
      exact I1.fpOk hle (I1.hok.fresh hle)
    exact call_enumB (beginsB (t := t)) p' fun h' he ho hsz hk => fin h' he (itB_new ho) hk
def enumL : Nat → List W → List W
  | _, [] => []
  | i, w :: ws => .itm [.int i, w] :: enumL (i + 1) ws
def mEnum (r : MA) : MI := fun ρ S => (r ρ S).bind fun ws S1 => match ws with
  | [.tup xs] => .ok ⟨enumL 0 xs, none⟩ S1
  | [.lst xs] => .ok ⟨enumL 0 xs, none⟩ S1
  | _ => .stuck
theorem enumL_get : ∀ (xs : List W) (k i : Nat) (w : W), (enumL k xs)[i]? = some w → ∃ x, xs[i]? = some x ∧ w = .itm [.int (k + i : Nat), x]
  | [], k, i, w, h => by unfold enumL at h; simp at h
  | x :: xs, k, 0, w, h => by unfold enumL at h; simp at h; exact ⟨x, rfl, h.symm⟩
  | x :: xs, k, i + 1, w, h => by
    unfold enumL at h
    have h' : (enumL (k + 1) xs)[i]? = some w := by simpa using h
    obtain ⟨y, h1, h2⟩ := enumL_get xs (k + 1) i w h'
    exact ⟨y, by simpa using h1, by rw [h2]; congr 3; omega⟩
theorem enumL_len : ∀ (xs : List W) (k : Nat), (enumL k xs).length = xs.length
  | [], _ => rfl
  | x :: xs, k => by unfold enumL; simp [enumL_len xs]
section
variable {X : Cx} {G : Glo} {E : XK} {e e2 : Expr} {mr : MA} {pos p tpos : Pos} {elts : List Expr} {kk : Nat}
/-- what stands still: a tuple, a frozen list -/
structure Stl (G : Glo) (t : Bool) (Z : Addr → Prop) (μ : List Addr) (H : Hp) (a : Addr) (ws : List W) (xs : List V) : Prop where
  q : ∀ (Z' : Addr → Prop) (μ' : List Addr) (H' : Hp) (S' : Sto), Grow Z μ H Z' μ' H' → Rel G Z' μ' H' S' → SqB t G.K H' a xs
  k : VRs G Z μ H ws xs
theorem stl_tup {Z : Addr → Prop} {μ : List Addr} {H : Hp} {S : Sto} {ws : List W} {v : V} (r : Rel G Z μ H S) (h : VR G Z μ H (.tup ws) v) : ∃ a xs, v = .ref a ∧ Stl G true Z μ H a ws xs := by
  obtain ⟨a, xs, rfl, q1, q2⟩ := i_tup h
  exact ⟨a, xs, rfl, fun Z' μ' H' S' g r' => (q1.keep (g.still r a)).sq, q2⟩
theorem stl_lst {Z : Addr → Prop} {μ : List Addr} {H : Hp} {S : Sto} {ws : List W} {v : V} (r : Rel G Z μ H S) (h : VR G Z μ H (.lst ws) v) : ∃ a xs, v = .ref a ∧ Stl G false Z μ H a ws xs := by
  obtain ⟨a, xs, rfl, q1, n1, q2⟩ := i_lst h
  exact ⟨a, xs, rfl, fun Z' μ' H' S' g r' => .inl (.inl (g.keep a _ q1 (fun z => n1 (r.mz a z)) rfl)), q2⟩
theorem itm_enum {t : Bool} {Z : Addr → Prop} {μ : List Addr} {H : Hp} {S : Sto} {a : Addr} {ws : List W} {xs : List V} (r : Rel G Z μ H S) (h : Stl G t Z μ H a ws xs) : ItM G Z μ H ⟨enumL 0 ws, none⟩ (IteB t G.K a) where
  go := fun Z' μ' H' S' g r' _ i w hw => by
    obtain ⟨y, h1, rfl⟩ := enumL_get ws 0 i w hw
    obtain ⟨v1, p1, p2⟩ := (VRs.mono r g h.k).get h1
    have q := h.q Z' μ' H' S' g r'
    refine ⟨⟨xs, v1, q, p1⟩, fun z H2 y => ?_⟩
    obtain ⟨T, z1, rfl, hT, rfl, f1⟩ := y
    have z1e := f1 xs q
    rw [p1] at z1e; cases z1e
    refine ⟨fun a o h => by rw [upd_ne (ne_of_none h hT)]; exact h, ?_⟩
    rw [Nat.zero_add]
    unfold VR
    exact ⟨T, [.int (i : Nat), v1], rfl, upd_same, VRs.mono r' (Grow.add hT) (VRs.cons (vr_int _ _ _) (VRs.cons p2 VRs.nil))⟩
  stop := fun Z' μ' H' S' g r' _ => ⟨xs, h.q Z' μ' H' S' g r', by show xs.length = (enumL 0 ws).length; rw [enumL_len]; exact h.k.length⟩
theorem im_enum (hK : X.K = G.K) (hg : Gl X "enumerate") (hm : X.mg "enumerate" = none) (ha : PA X [e] (tMA G E mr)) (hs : starEach [e] X.env = [(false, eval e X.env)] := by rfl) : PI X (.Tuple elts kk tpos) (.Call (.Name "enumerate" p) [e] [] pos) (tI G E (mEnum mr)) :=
  (pi_enumB hg hm ha hs).weak fun σ H Q ⟨ρ, S, Z, μ, r, er, af⟩ => ⟨ρ, S, Z, μ, r, er, Aft.imp (Aft.bind af) fun ws Z1 μ1 H1 S1 _ g1 r1 a1 vs hvs => by
    split at a1
    · obtain ⟨v, rfl, h1⟩ := one_of hvs
      obtain ⟨a, xs, rfl, st⟩ := stl_tup r1 h1
      exact ⟨true, a, xs, rfl, by rw [hK]; exact st.q _ _ _ _ Grow.refl r1, by rw [hK]; exact Aft.here (E := E) (P := PI' G Q) r1 a1 _ (itm_enum r1 st)⟩
    · obtain ⟨v, rfl, h1⟩ := one_of hvs
      obtain ⟨a, xs, rfl, st⟩ := stl_lst r1 h1
      exact ⟨false, a, xs, rfl, by rw [hK]; exact st.q _ _ _ _ Grow.refl r1, by rw [hK]; exact Aft.here (E := E) (P := PI' G Q) r1 a1 _ (itm_enum r1 st)⟩
    · exact a1.elim⟩
end
end Mo

set_option Elab.async false
set_option linter.all false
set_option maxRecDepth 100000
set_option autoImplicit false
/-! Mon16: zip over lists and tuples, mixed; setdefault; count. -/
namespace Mo
open PySem PySem.Spec L2
open PyProof.Rows hiding St

/-! ### zip -/
def ItzB (t t' : Bool) (K : PySem.W.Frag) (a b : Addr) : It :=
  ⟨fun i H => ∃ (xs ys : List V) (x y : V), SqB t K H a xs ∧ SqB t' K H b ys ∧ xs[i]? = some x ∧ ys[i]? = some y,
    fun i H v H' => ∃ T x y, v = .ref T ∧ H T = none ∧ H' = upd H T (.tup [x, y]) ∧ (∀ xs, SqB t K H a xs → xs[i]? = some x) ∧ ∀ ys, SqB t' K H b ys → ys[i]? = some y,
    fun i H => ∃ xs ys : List V, SqB t K H a xs ∧ SqB t' K H b ys ∧ i = min xs.length ys.length⟩
structure ZA (z TI TO i1 i2 : Addr) : Prop where
  nd : [z, TI, TO, i1, i2].Nodup
theorem zipSep {z TI TO i1 i2 a b : Addr} {h : Heap} {t t' : Bool} {xs ys : Array Value} {i : Nat} {u v : Value} (D : ZA z TI TO i1 i2) (hz : IsZip h z TI TO .none) (hTI : IsTupOf2 h TI (.ref i1) (.ref i2)) (hTO : IsTupOf2 h TO u v) (h1 : ItB t h i1 a i) (h2 : ItB t' h i2 b i) (p : IsB t h a xs) (p2 : IsB t' h b ys) (na : a ≠ TO) (nb : b ≠ TO) :
    ZipSep2 z TI TO i1 i2 [i1, a] [i2, b] := by
  have nd := D.nd
  simp only [List.nodup_cons, List.mem_cons, List.not_mem_nil, or_false, not_or] at nd
  obtain ⟨⟨z1, z2, z3, z4⟩, ⟨t1, t2, t3⟩, ⟨o1, o2⟩, n1, _⟩ := nd
  have za : ∀ {tt : Bool} {c : Addr} {its : Array Value}, IsB tt h c its → z ≠ c := fun {tt c its} q e => by
    obtain ⟨o, k1, k2⟩ := q.obj
    rw [← e] at k1
    have k3 := k1.symm.trans hz
    have k4 : o.cls = .type "zip" := by rw [Option.some.inj k3]
    have k5 := Value.type.inj (k2.symm.trans k4)
    revert k5
    cases tt <;> decide
  exact ⟨fun e => z1 e.symm, fun e => z2 e.symm, t1, t2, by simp, by simp [z3, za p], by simp [o1, Ne.symm na], t3, by simp, by simp [z4, za p2], by simp [o2, Ne.symm nb], by simp [n1, Ne.symm (p2.ne_it h1)], by simp [Ne.symm n1, Ne.symm (p.ne_it h2)]⟩
theorem turn_zipB {P : Program} {w : World} {K : PySem.W.Frag} {elts : List Expr} {kk : Nat} {tpos : Pos} {t t' : Bool} {a b z TI TO i1 i2 : Addr} (D : ZA z TI TO i1 i2) (na : a ≠ TO) (nb : b ≠ TO) :
    Turn P w K (.Tuple elts kk tpos) (ItzB t t' K a b) [z, TI, TO, i1, i2] z (fun i h => IsZip h z TI TO .none ∧ IsTupOf2 h TI (.ref i1) (.ref i2) ∧ (∃ x y, IsTupOf2 h TO x y) ∧ ItB t h i1 a i ∧ ItB t' h i2 b i) where
  mem := by simp
  obj := fun i h st c hc => by
    obtain ⟨hz, hTI, ⟨x, y, hTO⟩, h1, h2⟩ := st
    obtain ⟨o1, e1, _, d1⟩ := h1.obj
    obtain ⟨o2, e2, _, d2⟩ := h2.obj
    have e' : c = z ∨ c = TI ∨ c = TO ∨ c = i1 ∨ c = i2 := by simpa using hc
    rcases e' with q | q | q | q | q
    · rw [q]; exact ⟨_, hz, fun v q => nomatch q⟩
    · rw [q]; exact ⟨_, hTI, fun v q => nomatch q⟩
    · rw [q]; exact ⟨_, hTO, fun v q => nomatch q⟩
    · rw [q]; exact ⟨o1, e1, d1⟩
    · rw [q]; exact ⟨o2, e2, d2⟩
  keep := fun i h h' st k => by
    obtain ⟨hz, hTI, ⟨x, y, hTO⟩, h1, h2⟩ := st
    exact ⟨k z (by simp) _ hz, k TI (by simp) _ hTI, ⟨x, y, k TO (by simp) _ hTO⟩, h1.at_ fun o q => k i1 (by simp) o q, h2.at_ fun o q => k i2 (by simp) o q⟩
  item := by
    intro X hP hw hK hc i pins s σ H E I hf st hg
    subst hP hw hK
    obtain ⟨hz, hTI, ⟨x0, y0, hTO⟩, h1, h2⟩ := st
    obtain ⟨xs, ys, x, y, hqx, hqy, hx, hy⟩ := hg
    obtain ⟨its, rv, p⟩ := hqx.at_ I
    obtain ⟨its2, rv2, p2⟩ := hqy.at_ I
    obtain ⟨u, hu, ru⟩ := rv.get hx
    obtain ⟨u2, hu2, ru2⟩ := rv2.get hy
    have hzl : z < s.heap.objs.size := Heap.lt_size hz
    have S := zipSep D hz hTI hTO h1 h2 p p2 na nb
    have l1 : i < its.toArray.size := by
      have := (List.getElem?_eq_some_iff.mp hu).1
      simpa using this
    have l2 : i < its2.toArray.size := by
      have := (List.getElem?_eq_some_iff.mp hu2).1
      simpa using this
    refine wpAny_pyNext_zipD2_item S (drawsB (t := t) (A := X.A.in1) (by exact I.ok.hd hc) (p.ne_it h1)) (drawsB (t := t') (A := X.A.in1) (by exact I.ok.hd hc) (p2.ne_it h2)) hz hTI hTO ⟨h1, p⟩ ⟨h2, p2⟩ l1 l2 fun y1 y2 h' tk P1 P2 z' TO' st1 st2 hT hsz hk => ?_
    have e1 : y1 = u := by
      have P1' : its.toArray[i]? = some y1 := P1
      rw [List.getElem?_toArray, hu] at P1'
      exact (Option.some.inj P1').symm
    have e2 : y2 = u2 := by
      have P2' : its2.toArray[i]? = some y2 := P2
      rw [List.getElem?_toArray, hu2] at P2'
      exact (Option.some.inj P2').symm
    subst e1 e2
    refine ⟨_, rfl, wpAny_letOwnedTupleGo_zip (s := { s with heap := h', toks := tk }) z' fun h'' z'' sb => ?_⟩
    have hT2 : h''.get? s.heap.objs.size = some { cls := .type "tuple", data := .seq #[y1, y2] } := (sb.2 _ (Nat.ne_of_gt hzl)).trans hT
    have new : ObjOk X.prog X.w (upd H s.heap.objs.size (.tup [x, y])) h'' s.heap.objs.size (.tup [x, y]) :=
      ⟨by show 2 ≤ sizeLine; decide, [y1, y2], .cons ru (.cons ru2 .nil), ⟨_, hT2, rfl, _, rfl⟩⟩
    have I1 : Inv X pins σ (upd H s.heap.objs.size (.tup [x, y])) { s with heap := h'', toks := tk } :=
      I.turnedNew (t' := tk) (ch := [z, TI, TO, i1, i2]) (fun c o hb q => (sb.2 c (fun q' => hb (by simp [q']))).trans (hk c o (fun q' => hb (by simp [q'])) (fun q' => hb (by simp [q'])) (fun q' => hb (by simp [q'])) (fun q' => hb (by simp [q'])) q)) hf (Nat.le_refl _) new
    have nd := D.nd
    simp only [List.nodup_cons, List.mem_cons, List.not_mem_nil, or_false, not_or] at nd
    obtain ⟨⟨z1, z2, z3, z4⟩, ⟨t1, t2, t3⟩, ⟨o1, o2⟩, n1, _⟩ := nd
    refine ⟨.ref s.heap.objs.size, _, I1, rfl, ⟨_, x, y, rfl, I.hok.fresh (Nat.le_refl _), rfl, fun l hl => by rw [hl.inj I hqx]; exact hx, fun l hl => by rw [hl.inj I hqy]; exact hy⟩, ⟨z'', ?_, ⟨y1, y2, ?_⟩, ?_, ?_⟩, fun c hcm => ?_⟩
    · exact (sb.2 _ (fun e => z1 e.symm)).trans (hk _ _ (fun e => z1 e.symm) t1 t2 t3 hTI)
    · exact (sb.2 _ (fun e => z2 e.symm)).trans TO'
    · exact st1.1.at_ fun o q => (sb.2 _ (fun e => z3 e.symm)).trans q
    · exact st2.1.at_ fun o q => (sb.2 _ (fun e => z4 e.symm)).trans q
    · have hlt : c < s.heap.objs.size := by
        have e' : c = z ∨ c = TI ∨ c = TO ∨ c = i1 ∨ c = i2 := by simpa using hcm
        rcases e' with q | q | q | q | q
        · rw [q]; exact hzl
        · rw [q]; exact Heap.lt_size hTI
        · rw [q]; exact Heap.lt_size hTO
        · rw [q]; obtain ⟨_, e1, _⟩ := h1.obj; exact Heap.lt_size e1
        · rw [q]; obtain ⟨_, e2, _⟩ := h2.obj; exact Heap.lt_size e2
      rw [upd_ne (Nat.ne_of_lt hlt)]
      exact (hf c hcm).1
  done := by
    intro X hP hw hK hc i pins s σ H E I hf st hg
    subst hP hw hK
    obtain ⟨hz, hTI, ⟨x0, y0, hTO⟩, h1, h2⟩ := st
    obtain ⟨xs, ys, hqx, hqy, hend⟩ := hg
    obtain ⟨its, rv, p⟩ := hqx.at_ I
    obtain ⟨its2, rv2, p2⟩ := hqy.at_ I
    have l1 := rv.length
    have l2 := rv2.length
    have S := zipSep D hz hTI hTO h1 h2 p p2 na nb
    refine wpAny_pyNext_zipD2_end S (drawsB (t := t) (A := X.A.in1) (its := its.toArray) (by exact I.ok.hd hc) (p.ne_it h1)) (drawsB (t := t') (A := X.A.in1) (its := its2.toArray) (by exact I.ok.hd hc) (p2.ne_it h2)) hz hTI hTO ⟨h1, p⟩ ⟨h2, p2⟩ (by simp; omega) (by simp; omega) (by simp; omega) fun h' tk hk => ⟨rfl, I.turnedL (t' := tk) (ch := [z, TI, TO, i1, i2]) (fun c o hb q =>
      hk c o (fun q' => hb (by simp [q'])) (fun q' => hb (by simp [q'])) (fun q' => hb (by simp [q'])) (fun q' => hb (by simp [q'])) q) hf⟩
  self := fun A i s Q E st h => wpAny_pyIter_zip st.1 h
def iZipB (K : PySem.W.Frag) (ta : TA) : TI := fun σ H R => ta σ H fun vs H1 => ∃ (t t' : Bool) (a b : Addr) (xs ys : List V), vs = [.ref a, .ref b] ∧ SqB t K H1 a xs ∧ SqB t' K H1 b ys ∧ R (ItzB t t' K a b) H1
theorem pi_zipB {X : Cx} {e e2 : Expr} {ta : TA} {p pos tpos : Pos} {elts : List Expr} {kk : Nat} (hg : Gl X "zip") (hm : X.mg "zip" = none) (ha : PA X [e, e2] ta)
    (hs : starEach [e, e2] X.env = (false, eval e X.env) :: starEach [e2] X.env := by rfl) (hpl : (backTo pos (starEach [e2] X.env)).any (·.1) = false := by rfl) :
    PI X (.Tuple elts kk tpos) (.Call (.Name "zip" p) [e, e2] [] pos) (iZipB X.K ta) := by
  refine ⟨fun pins s σ H R I h => ?_⟩
  refine Call_ (ld_blt I hg hm PyProof.Rows.boot_zip (PyProof.Rows.callWith_type1 (thn (ha.run pos pins s σ H _ I h) fun us s1 ⟨vs, H1, I1, r1, q1⟩ => ?_) hs hpl))
  obtain ⟨t, t', a, b, xs, ys, ex, hqx, hqy, q⟩ := q1
  subst ex
  cases r1 with
  | cons r rr =>
    cases rr with
    | cons r' rr =>
      cases rr
      cases r
      cases r'
      have fresh5 : ∀ c, c ∈ [s1.heap.objs.size + 4, s1.heap.objs.size + 2, s1.heap.objs.size + 3, s1.heap.objs.size, s1.heap.objs.size + 1] → FpOk X pins H1 c := fun c hcm => by
        have e' : c = s1.heap.objs.size + 4 ∨ c = s1.heap.objs.size + 2 ∨ c = s1.heap.objs.size + 3 ∨ c = s1.heap.objs.size ∨ c = s1.heap.objs.size + 1 := by simpa using hcm
        have hle : s1.heap.objs.size ≤ c := by omega
        exact I1.fpOk hle (I1.hok.fresh hle)
      obtain ⟨its, rv, p1⟩ := hqx.at_ I1
      obtain ⟨its2, rv2, p2⟩ := hqy.at_ I1
      obtain ⟨o1, ho1, _⟩ := p1.obj
      obtain ⟨o2, ho2, _⟩ := p2.obj
      have la := Heap.lt_size ho1
      have lb := Heap.lt_size ho2
      refine zip_begins2 (beginsB (t := t)) (beginsB (t := t')) p1 p2 fun h' hz hTI hTO e1 e2 hsz hk => wpAny_pyIter_zip hz ?_
      have I2 : Inv X pins σ H1 { s1 with heap := h' } := I1.kept (t' := s1.toks) hk
      exact ⟨s1.heap.objs.size + 4, [s1.heap.objs.size + 4, s1.heap.objs.size + 2, s1.heap.objs.size + 3, s1.heap.objs.size, s1.heap.objs.size + 1], _, _, H1, rfl, I2, turn_zipB ⟨by simp⟩ (Nat.ne_of_lt (Nat.lt_of_lt_of_le la (Nat.le_add_right _ _))) (Nat.ne_of_lt (Nat.lt_of_lt_of_le lb (Nat.le_add_right _ _))), ⟨hz, hTI, ⟨_, _, hTO⟩, itB_new e1, itB_new e2⟩, fresh5, q⟩
def frzL : W → Option (Bool × List W)
  | .tup ws => some (true, ws)
  | .lst ws => some (false, ws)
  | _ => none
def mZipB (r : MA) : MI := fun ρ S => (r ρ S).bind fun ws S1 => match ws with
  | [x, y] => (match frzL x with
    | some (_, xs) => (match frzL y with
      | some (_, ys) => .ok ⟨zipL xs ys, none⟩ S1
      | none => .stuck)
    | none => .stuck)
  | _ => .stuck
section
variable {X : Cx} {G : Glo} {E : XK} {e e2 : Expr} {mr : MA} {pos p tpos : Pos} {elts : List Expr} {kk : Nat}
theorem stl_any {Z : Addr → Prop} {μ : List Addr} {H : Hp} {S : Sto} {w : W} {t : Bool} {ws : List W} {v : V} (r : Rel G Z μ H S) (e : frzL w = some (t, ws)) (h : VR G Z μ H w v) : ∃ a xs, v = .ref a ∧ Stl G t Z μ H a ws xs := by
  cases w <;> first | (cases e; done) | skip
  · unfold frzL at e; cases e; exact stl_tup r h
  · unfold frzL at e; cases e; exact stl_lst r h
theorem zipL_min : ∀ (xs ys : List W), (zipL xs ys).length = min xs.length ys.length
  | [], ys => by unfold zipL; simp
  | x :: xs, [] => by unfold zipL; simp
  | x :: xs, y :: ys => by
    unfold zipL
    simp only [List.length_cons, zipL_min xs ys]
    omega
theorem itm_zip {t t' : Bool} {Z : Addr → Prop} {μ : List Addr} {H : Hp} {S : Sto} {a b : Addr} {ws us : List W} {xs ys : List V} (r : Rel G Z μ H S) (h : Stl G t Z μ H a ws xs) (k : Stl G t' Z μ H b us ys) : ItM G Z μ H ⟨zipL ws us, none⟩ (ItzB t t' G.K a b) where
  go := fun Z' μ' H' S' g r' _ i w hw => by
    obtain ⟨x, y, e1, e2, rfl⟩ := zipL_get ws us i w hw
    obtain ⟨v1, p1, p2⟩ := (VRs.mono r g h.k).get e1
    obtain ⟨v2, p3, p4⟩ := (VRs.mono r g k.k).get e2
    have q := h.q Z' μ' H' S' g r'
    have q' := k.q Z' μ' H' S' g r'
    refine ⟨⟨xs, ys, v1, v2, q, q', p1, p3⟩, fun z H2 y => ?_⟩
    obtain ⟨T, z1, z2, rfl, hT, rfl, f1, f2⟩ := y
    have z1e := f1 xs q
    have z2e := f2 ys q'
    rw [p1] at z1e; cases z1e
    rw [p3] at z2e; cases z2e
    refine ⟨fun a o h => by rw [upd_ne (ne_of_none h hT)]; exact h, ?_⟩
    unfold VR
    exact ⟨T, [v1, v2], rfl, upd_same, VRs.mono r' (Grow.add hT) (VRs.cons p2 (VRs.cons p4 VRs.nil))⟩
  stop := fun Z' μ' H' S' g r' _ => ⟨xs, ys, h.q Z' μ' H' S' g r', k.q Z' μ' H' S' g r', by show (zipL ws us).length = _; rw [zipL_min, h.k.length, k.k.length]⟩
theorem im_zipB (hK : X.K = G.K) (hg : Gl X "zip") (hm : X.mg "zip" = none) (ha : PA X [e, e2] (tMA G E mr)) (hs : starEach [e, e2] X.env = (false, eval e X.env) :: starEach [e2] X.env := by rfl) (hs2 : (backTo pos (starEach [e2] X.env)).any (·.1) = false := by rfl) : PI X (.Tuple elts kk tpos) (.Call (.Name "zip" p) [e, e2] [] pos) (tI G E (mZipB mr)) :=
  (pi_zipB hg hm ha hs hs2).weak fun σ H Q ⟨ρ, S, Z, μ, r, er, af⟩ => ⟨ρ, S, Z, μ, r, er, Aft.imp (Aft.bind af) fun ws Z1 μ1 H1 S1 _ g1 r1 a1 vs hvs => by
    split at a1
    · obtain ⟨v, u, rfl, h1, h2⟩ := two_of hvs
      split at a1
      · rename_i ex
        split at a1
        · rename_i ey
          obtain ⟨a, xs, rfl, s1⟩ := stl_any r1 ex h1
          obtain ⟨b, ys, rfl, s2⟩ := stl_any r1 ey h2
          exact ⟨_, _, a, b, xs, ys, rfl, by rw [hK]; exact s1.q _ _ _ _ Grow.refl r1, by rw [hK]; exact s2.q _ _ _ _ Grow.refl r1, by rw [hK]; exact Aft.here (E := E) (P := PI' G Q) r1 a1 _ (itm_zip r1 s1 s2)⟩
        · exact a1.elim
      · exact a1.elim
    · exact a1.elim⟩
end
end Mo

set_option Elab.async false
set_option linter.all false
set_option maxRecDepth 100000
set_option autoImplicit false
/-! Mon17: sorted; setdefault; count. -/
namespace Mo
open PySem PySem.Spec L2
open PyProof.Rows hiding St

/-! ### a sort to compute with -/
section
variable {α : Type} (le : α → α → Bool)
def ins (a : α) : List α → List α
  | [] => [a]
  | b :: r => if le a b then a :: b :: r else b :: ins a r
def isort : List α → List α
  | [] => []
  | a :: r => ins le a (isort r)
theorem ins_perm (a : α) : ∀ l : List α, (ins le a l).Perm (a :: l)
  | [] => List.Perm.refl _
  | b :: r => by
    unfold ins
    split
    · exact List.Perm.refl _
    · exact ((ins_perm a r).cons b).trans (List.Perm.swap a b r)
theorem isort_perm : ∀ l : List α, (isort le l).Perm l
  | [] => List.Perm.refl _
  | a :: r => (ins_perm le a _).trans ((isort_perm r).cons a)
theorem ins_pw (tot : ∀ a b, le a b = true ∨ le b a = true) (tr : ∀ a b c, le a b = true → le b c = true → le a c = true) (a : α) : ∀ l : List α, l.Pairwise (fun x y => le x y = true) → (ins le a l).Pairwise (fun x y => le x y = true)
  | [], _ => List.pairwise_singleton _ _
  | b :: r, h => by
    obtain ⟨h1, h2⟩ := List.pairwise_cons.mp h
    unfold ins
    split
    · rename_i hab
      exact List.pairwise_cons.mpr ⟨fun x hx => by
        rcases List.mem_cons.mp hx with e | hx
        · rw [e]; exact hab
        · exact tr _ _ _ hab (h1 x hx), h⟩
    · rename_i hab
      have hba : le b a = true := (tot a b).resolve_left hab
      exact List.pairwise_cons.mpr ⟨fun x hx => by
        rcases List.mem_cons.mp ((ins_perm le a r).mem_iff.mp hx) with e | hx
        · rw [e]; exact hba
        · exact h1 x hx, ins_pw tot tr a r h2⟩
theorem isort_pw (tot : ∀ a b, le a b = true ∨ le b a = true) (tr : ∀ a b c, le a b = true → le b c = true → le a c = true) : ∀ l : List α, (isort le l).Pairwise (fun x y => le x y = true)
  | [] => List.Pairwise.nil
  | a :: r => ins_pw le tot tr a _ (isort_pw tot tr r)
theorem isort_eq (tot : ∀ a b, le a b = true ∨ le b a = true) (tr : ∀ a b c, le a b = true → le b c = true → le a c = true) (anti : ∀ a b, le a b = true → le b a = true → a = b) {l m : List α} (p : m.Perm l) (h : m.Pairwise (fun x y => le x y = true)) : m = isort le l :=
  List.Perm.eq_of_pairwise (fun x y _ _ h1 h2 => anti x y h1 h2) h (isort_pw le tot tr l) (p.trans (isort_perm le l).symm)
end
def leI (a b : Int) : Bool := decide (a ≤ b)
def sortI (l : List Int) : List Int := isort leI l
theorem sortI_eq {l m : List Int} (p : m.Perm l) (h : m.Pairwise (· ≤ ·)) : m = sortI l :=
  isort_eq leI (fun a b => by unfold leI; simp only [decide_eq_true_eq]; omega) (fun a b c h1 h2 => by unfold leI at *; simp only [decide_eq_true_eq] at *; omega) (fun a b h1 h2 => by unfold leI at *; simp only [decide_eq_true_eq] at *; omega) p (h.imp fun {a b} q => by unfold leI; exact decide_eq_true q)
def keysI : List (Key × W) → Option (List Int)
  | [] => some []
  | (.inl i, _) :: r => match keysI r with
    | some is => some (i :: is)
    | none => none
  | _ => none
/-- sorted(..) of ints: a list's, a dict's keys -/
def sortW (ws : List W) (S : Sto) : R W := match ws with
  | [.ref n] => (match S[n]? with
    | some (.dict kvs) => (match keysI kvs with
      | some is => if is.length < 64 then .ok (.lst ((sortI is).map .int)) S else .stuck
      | none => .stuck)
    | some (.lst xs) => (match intsW xs with
      | some is => .ok (.lst ((sortI is).map .int)) S
      | none => .stuck)
    | _ => .stuck)
  | [.lst xs] => (match intsW xs with
    | some is => .ok (.lst ((sortI is).map .int)) S
    | none => .stuck)
  | _ => .stuck
section
variable {X : Cx} {G : Glo} {E : XK} {Z : Addr → Prop} {μ : List Addr} {H : Hp} {S : Sto}
theorem keysI_v : ∀ {kvs : List (Key × W)} {es : List (Key × V)} {is : List Int}, keysI kvs = some is → KVR G Z μ H kvs es → es.map (·.1) = is.map Sum.inl
  | [], es, is, e, h => by unfold keysI at e; cases e; unfold KVR at h; subst h; rfl
  | (k, w) :: kvs, es, is, e, h => by
    unfold KVR at h
    obtain ⟨v, r, rfl, h1, h2⟩ := h
    cases k with
    | inr z => unfold keysI at e; cases e
    | inl i =>
      unfold keysI at e
      cases e1 : keysI kvs with
      | none => rw [e1] at e; cases e
      | some js =>
        rw [e1] at e; cases e
        simp [keysI_v e1 h2]
theorem ints_of_vrs : ∀ {xs : List W} {vs : List V} {is : List Int}, intsW xs = some is → VRs G Z μ H xs vs → vs = is.map V.int
  | [], vs, is, e, h => by unfold intsW at e; cases e; unfold VRs at h; subst h; rfl
  | w :: ws, vs, is, e, h => by
    unfold VRs at h
    obtain ⟨v, r, rfl, h1, h2⟩ := h
    cases w <;> first | (unfold intsW at e; cases e; done) | skip
    unfold intsW at e
    split at e
    · rename_i js e1
      cases e
      rw [ints_of_vrs e1 h2, i_int h1]
      rfl
    · cases e
theorem vrs_of_ints : ∀ (is : List Int), VRs G Z μ H (is.map W.int) (is.map V.int)
  | [] => VRs.nil
  | i :: is => VRs.cons (vr_int _ _ _) (vrs_of_ints is)
theorem c_sort (hK : X.K = G.K) (hc : X.calm = true) : CallR X (.builtin "sorted") (cM G E sortW) := by
  intro pins s σ H xs us Q I rv ⟨ws, S, Z, μ, r, hv, af⟩
  unfold sortW at af
  split at af
  · obtain ⟨v, rfl, h1⟩ := one_of hv
    split at af
    · rename_i kvs hs
      split at af
      · rename_i is hk
        split at af
        · rename_i hl
          obtain ⟨a, es, rfl, q0, q1, q2⟩ := r.dict h1 hs
          refine call_sortedDI hc pins s σ H _ us Q I rv ⟨a, es, is, rfl, .inl q1, keysI_v hk q2, hl, fun ys p h2 h3 hp => ?_⟩
          rw [sortI_eq h2 h3]
          exact end_lst r (vrs_of_ints _) af p hp
        · exact af.elim
      · exact af.elim
    · rename_i ys hs
      split at af
      · rename_i is hk
        obtain ⟨a, vs, rfl, q0, q1, q2⟩ := r.lst h1 hs
        refine cr_sortedI pins s σ H _ us Q I rv ⟨a, is, rfl, by rw [← ints_of_vrs hk q2]; exact .inl (.inl q1), fun ys p h2 h3 hp => ?_⟩
        rw [sortI_eq h2 h3]
        exact end_lst r (vrs_of_ints _) af p hp
      · exact af.elim
    · exact af.elim
  · obtain ⟨v, rfl, h1⟩ := one_of hv
    split at af
    · rename_i is hk
      obtain ⟨a, vs, rfl, q1, _, q2⟩ := i_lst h1
      refine cr_sortedI pins s σ H _ us Q I rv ⟨a, is, rfl, by rw [← ints_of_vrs hk q2]; exact .inl (.inl q1), fun ys p h2 h3 hp => ?_⟩
      rw [sortI_eq h2 h3]
      exact end_lst r (vrs_of_ints _) af p hp
    · exact af.elim
  · exact af.elim
end
/-! ### d.setdefault(k, v) -/
def isDict (S : Sto) : W → Bool
  | .ref n => match S[n]? with
    | some (.dict _) => true
    | _ => false
  | _ => false
def setdW (o k z : W) (S : Sto) : R W := match o with
  | .ref n => (match keyW k with
    | some kk => (match S[n]? with
      | some (.dict kvs) => if kvs.length < 100000 ∧ ukeys kvs = true then (match valW kvs kk with
        | some u => .ok u S
        | none => .ok z (S.set n (.dict (putW kvs kk z)))) else .stuck
      | _ => .stuck)
    | none => .stuck)
  | _ => .stuck
def mSetd (mo mk mz : ME) : ME := fun ρ S => (mo ρ S).bind fun o S1 => if isDict S1 o then (mk ρ S1).bind fun k S2 => (mz ρ S2).bind fun z S3 => setdW o k z S3 else .stuck
section
variable {X : Cx} {G : Glo} {E : XK} {o e f : Expr} {mo me mf : ME} {apos cpos : Pos}
theorem em_setd (ho : PE X o (tM G E mo)) (he : PE X e (tM G E me)) (hf : PE X f (tM G E mf)) (m : M2 X o "setdefault" apos e f cpos := by exact ⟨rfl, rfl, rfl, rfl⟩) : PE X (.Call (.Attribute o "setdefault" apos) [e, f] [] cpos) (tM G E (mSetd mo me mf)) :=
  (pe_dsetd ho he hf m).weak fun σ H Q ⟨ρ, S, Z, μ, r, er, af⟩ => by
    refine ⟨ρ, S, Z, μ, r, er, Aft.imp (Aft.bind af) fun ow Z1 μ1 H1 S1 _ g1 r1 a1 x hx => ?_⟩
    have er1 := er.mono r g1
    split at a1
    case isFalse => exact a1.elim
    rename_i hd
    have hd' : ∃ n kvs, ow = .ref n ∧ S1[n]? = some (.dict kvs) := by
      unfold isDict at hd
      split at hd
      · split at hd
        · rename_i e1
          exact ⟨_, _, rfl, e1⟩
        · cases hd
      · cases hd
    obtain ⟨n, kvs0, rfl, hs0⟩ := hd'
    obtain ⟨a, es0, rfl, p0, p1, p2⟩ := r1.dict hx hs0
    refine ⟨a, rfl, .inl ⟨_, .inl p1⟩, ρ, S1, Z1, μ1, r1, er1, Aft.imp (Aft.bind a1) fun kw Z2 μ2 H2 S2 _ g2 r2 a2 y hy => ?_⟩
    have er2 := er1.mono r1 g2
    refine ⟨ρ, S2, Z2, μ2, r2, er2, Aft.imp (Aft.bind a2) fun zw Z3 μ3 H3 S3 _ g3 r3 a3 z hz => ?_⟩
    have hx3 := (hx.mono r1 g2).mono r2 g3
    have hy3 := hy.mono r2 g3
    unfold setdW at a3
    dsimp only at a3
    split at a3
    · rename_i k hk
      split at a3
      · rename_i kvs hs
        split at a3
        · rename_i hl
          obtain ⟨a', es, e1, q0, q1, q2⟩ := r3.dict hx3 hs
          cases e1
          have hle : es.length < sizeLine := by rw [q2.length]; exact Nat.lt_of_lt_of_le hl.1 (by decide)
          have hv := q2.val (k := k)
          refine ⟨es, k, q1, keyW_v hk hy3, hle, fun v e2 => ?_, fun e2 => ?_⟩
          · split at a3
            · rename_i u hu
              rw [hu] at hv
              obtain ⟨v', k1, k2⟩ := hv
              rw [k1] at e2; cases e2
              exact end_val r3 k2 a3
            · rename_i hu
              rw [hu] at hv
              rw [show valV es k = none from hv] at e2; cases e2
          · split at a3
            · rename_i u hu
              rw [hu] at hv
              obtain ⟨v', k1, k2⟩ := hv
              rw [k1] at e2; cases e2
            · have g : Grow Z3 μ3 H3 Z3 μ3 (upd H3 a (.dK (putK es k z))) := Grow.put (List.mem_of_getElem? q0)
              exact a3 _ _ _ g (r3.put q0 ⟨rfl, rfl⟩ ⟨_, upd_same, KVR.mono r3 g (q2.put hz hl.2)⟩) _ (VR.mono r3 g hz)
        · exact a3.elim
      · exact a3.elim
    · exact a3.elim
end
end Mo

set_option Elab.async false
set_option linter.all false
set_option maxRecDepth 100000
set_option autoImplicit false
/-! Mon18: an exception caught and kept. -/
namespace Mo
open PySem PySem.Spec L2
open PyProof.Rows hiding St

section
variable {X : Cx} {pins : List (Addr × Obj)} {σ : L2.St} {H : Hp} {s : Shared} {a : Addr} {o : HO}
/-- an object of this frame that was not told of is told of from now on -/
theorem retrack (I : Inv X pins σ H s) (na : H a = none) (hex : X.ex = []) (n0 : X.s_0.heap.get? a = none) (nL : a ≠ X.env.locals) (nC : ∀ x c, X.env.cells.lookup x = some c → c ≠ a) (nP : ∀ p ∈ X.pn ++ pins, p.1 ≠ a) (new : ObjOk X.prog X.w (upd H a o) s.heap a o) : Inv X pins σ (upd H a o) s := by
  refine ⟨I.ok, I.os, I.bare, ⟨I.base.keep, I.base.slot, fun b ob e n hb => ?_, I.base.there, fun b xs e => ?_, fun b ob u e => ?_, fun b ps e => ?_⟩, I.loc, I.cell, ?_, fun x c e => ?_, fun p hp => ?_, I.hok.laidN (fun _ _ e => e) na new, I.len⟩
  · have ne : b ≠ a := fun z => by rw [z, n0] at e; cases e
    rw [upd_ne ne]
    exact I.base.free b ob e n hb
  · rw [upd_ne (ne_of_none (I.base.tups b xs e) na)]; exact I.base.tups b xs e
  · rw [upd_ne (ne_of_none (I.base.frzs b ob u e) na)]; exact I.base.frzs b ob u e
  · obtain ⟨m, h1⟩ := I.base.tbls b ps e
    exact ⟨m, by rw [upd_ne (ne_of_none h1 na)]; exact h1⟩
  · rw [upd_ne (Ne.symm nL)]; exact I.free
  · rw [upd_ne (nC x c e)]; exact I.freeC x c e
  · obtain ⟨h1, h2, h3⟩ := I.pin p hp
    exact ⟨h1, by rw [upd_ne (nP p hp)]; exact h2, h3⟩
end
/-- what the clause wishes, its exception kept: slot i is the clause's name's -/
def wKeep (K : PySem.W.Frag) (c : Value) (i : Nat) (ts : Addr → TS) (D : Ends) : WX := fun cls d σ H =>
  ∃ C, cls = .ref C ∧ d = none ∧ PySem.W.exmOne K cls c = some true ∧ ∀ a, H a = none → ts a { nx := fun σ' H' => H' a = none → D.nx (σ'.set i none) (upd H' a (ExO a C)), rt := fun _ _ => False, bk := fun _ _ => False, ct := fun _ _ => False } (σ.set i (some (.ref a))) H
section
variable {X : Cx} {x n : Str} {c : Value} {i : Nat} {body suite : List Stmt} {b₀ : Stmt} {np pos pos' : Pos} {tb : WX → TS} {ts : Addr → TS}
theorem ps_try_keep (hs : X.stack = X.env :: X.outer) (hf : X.env.frame = some X.env.locals) (hex : X.ex = []) (hN : X.N.Nodup) (hi : X.N[i]? = some n) (hln : X.env.kindOf n = some .local) (hc : Names X x c)
    (hb : ∀ (W : WX) (pn : List (Addr × Obj)) (xe : Value → Shared → Prop), Takes (X.tr pn xe) W → PassesOwn (model X.prog X.w) X.A X.env xe → PSs (X.tr pn xe) body (tb W))
    (hsu : ∀ (a : Addr) (oe : Obj) (pn : List (Addr × Obj)), (∃ vs, oe.data = .fields vs) → PSs (X.suite a ((a, oe) :: pn)) (b₀ :: suite) (ts a)) :
    PS X (.Try body [.ExceptHandler (some (.Name x np)) (some n) (b₀ :: suite) pos'] [] [] pos) (fun D σ H => tb (wKeep X.K c i ts D) D σ H) := by
  refine ⟨fun pins s σ H D I h => ?_⟩
  have ok := I.ok
  have hfr : X.A.frames = some (X.env :: X.outer) := by rw [ok.frames, hs]
  have hloc : Loc X.env.scope n := .inl hln
  refine wpAny_Try_except ?_
  refine wpAny_mono ((hb (wKeep X.K c i ts D) (X.pn ++ pins) (fun e s₁ => wpAny (model X.prog X.w) X.A (noteFrame e X.env) (fun _ s₂ => wpAny (model X.prog X.w) X.A (setFlight e none) (fun _ s₃ =>
    wpAny (model X.prog X.w) X.A (handleBy e X.env [.ExceptHandler (some (.Name x np)) (some n) (b₀ :: suite) pos']) (SP X pins D) X.xe s₃) X.xe s₂) X.xe s₁) (fun u s' xx => ?_) PassesOwn.looking).run [] s σ H D (I.toTry _) h) (fun f s1 hsp => ?_) (fun e s1 he => he)
  · obtain ⟨a, B, sI, pins', σ', H', cls, d, rfl, J', nb, up, sky, na, os, ag, C, rfl, rfl, hb1, hyes⟩ := xx
    have J : Inv X pins σ' H' sI := J'.ofTry ok
    have sky' : Sky B (X.env :: X.outer) a (Zc (.ref C) none) X.env.locals s'.heap := by rw [← hs]; exact sky
    show wpAny (model X.prog X.w) X.A (noteFrame (.ref a) X.env) _ _ _
    refine Sky.land Zc.steady hfr hf sky' fun h3 fl3 up3 => ?_
    have J3 : Inv X pins σ' H' { s' with heap := h3 } := J.landed nb fl3.1 (up.trans up3) os ag
    obtain ⟨oe3, vs3, he3, hz3, hd3⟩ := fl3.there
    have notFr : ∀ {h : Heap} {o : Obj} {vs : Array Value}, h.FunFrames B (X.env :: X.outer) → h.get? a = some o → o.data = .fields vs → a ∉ frs (X.env :: X.outer) := fun {h o vs} ff e dd hm => by
      obtain ⟨_, o', e', hnf⟩ := ff.mem hm
      rw [e] at e'; cases e'
      exact hnf _ dd
    have nfr := notFr fl3.2.2.1 he3 hd3
    have nL : a ≠ X.env.locals := fun z => nfr (List.mem_filterMap.mpr ⟨X.env, List.mem_cons_self, by rw [hf, z]⟩)
    have nF : a ∉ X.fs := fun hm => by
      obtain ⟨e, he, q⟩ := List.mem_filterMap.mp hm
      exact nfr (List.mem_filterMap.mpr ⟨e, List.mem_cons_of_mem _ he, q⟩)
    have nI : sI.heap.get? a = none := by
      cases q : sI.heap.get? a with
      | none => rfl
      | some ob =>
        have z := nb a ob q (by rw [hs]; exact nfr)
        rw [fl3.2.1] at z; cases z
    have n0 : X.s_0.heap.get? a = none := by
      cases q : X.s_0.heap.get? a with
      | none => rfl
      | some ob =>
        obtain ⟨o', z⟩ := J.base.there a ob q (by rw [hex]; exact List.not_mem_nil)
        rw [nI] at z; cases z
    have nP : ∀ p ∈ X.pn ++ pins, p.1 ≠ a := fun p hp z => by
      have q := (J.pin p hp).1
      rw [z, nI] at q; cases q
    have S3 := J3.suite he3 hd3 na nL nF
    refine wpAny_handleBy_cons (codeAny_handlers_test ?_) (by intro q; cases q)
    have LT : PySem.W.Looks (model X.prog X.w) h3 (typeOf (.ref a)) (.ref C) := fun A Q E s k q => wpAny_typeOf_ref (k _ _ he3) (by rw [hz3.1]; exact q)
    have LM := PySem.W.exm_one (M := model X.prog X.w) (J3.kIn) LT hb1
    have test : ∀ {Q : Value → Shared → Prop} {E : Value → Shared → Prop}, Q c { s' with heap := h3 } → wpAny (model X.prog X.w) (X.A.mark (some (.ref a))) (eval (.Name x np) X.env) Q E { s' with heap := h3 } := fun {Q E} q => by
      obtain ⟨hg, hdbg, hm | ⟨hm, hv, hnn⟩⟩ := hc
      · exact ld_glob (X := X.suite a ((a, oe3) :: (X.pn ++ pins))) S3 hg hm q hdbg
      · exact ld_blt (X := X.suite a ((a, oe3) :: (X.pn ++ pins))) S3 hg hm hv q hnn hdbg
    refine test (LM.here ?_)
    refine codeAny_handlers_suite_as ?_
    refine HandSPX.lands_againZ fl3 fun h4 fl4 up4 => ?_
    have J4 : Inv X pins σ' H' { s' with heap := h4 } := J.landed nb fl4.1 ((up.trans up3).trans up4) os ag
    obtain ⟨oe4, vs4, he4, hz4, hd4⟩ := fl4.there
    have S4 := J4.suite he4 hd4 na nL nF
    refine store_ok (X := X.suite a ((a, oe4) :: (X.pn ++ pins))) (v := .ref a) S4 hN hi hloc rfl (fun s5 S5 => ?_) (.inr hln)
    refine wpAny_mono ((hsu a oe4 (X.pn ++ pins) ⟨_, hd4⟩).run [] s5 _ H' _ S5 (hyes a na)) (fun f s6 hsp => ?_) (fun _ _ z => False.elim z)
    cases f with
    | next =>
      obtain ⟨σ6, H6, S6, q6⟩ := hsp
      obtain ⟨p1, p2, p3, p4, p5⟩ := S6.pin (a, oe4) (by simp)
      have I6 : Inv X pins σ6 H6 s6 := S6.unsuite ok
      have I6' : Inv X ((a, oe4) :: pins) σ6 H6 s6 := I6.pins_of fun p hp => by
        rcases List.mem_cons.mp hp with e | hp
        · rw [e]; exact ⟨p1, p2, nL, nF, p5⟩
        · exact I6.pin p (List.mem_append_right _ hp)
      show wpAny (model X.prog X.w) X.A (do bindName X.env n .none; unbindBehindTheSuite X.env n pos') _ X.xe s6
      refine gone_ok I6' hN hi hln fun s7 I7 => ?_
      have a7 : s7.heap.get? a = some oe4 := (I7.pin (a, oe4) (by simp)).1
      have I8 : Inv X pins (σ6.set i none) H6 s7 := I7.pins_of fun p hp => I7.pin p (List.mem_append_right _ (List.mem_cons_of_mem _ hp))
      have nC : ∀ y cc, X.env.cells.lookup y = some cc → cc ≠ a := fun y cc e z => by
        obtain ⟨v, oc, k1, k2⟩ := I8.cell y cc e
        rw [z, a7] at k1
        cases k1
        rw [hd4] at k2; cases k2
      refine ⟨σ6.set i none, upd H6 a (ExO a C), retrack I8 p2 hex n0 nL nC nP ?_, q6 p2⟩
      exact ⟨⟨oe4, a7, hz4, _, hd4⟩, ⟨oe4, a7⟩, fun h1 h2 ⟨oe, k1, k2, k3⟩ k => ⟨oe, k _ k1, k2, k3⟩⟩
    | brk =>
      obtain ⟨σ6, H6, S6, q6⟩ := hsp
      exact q6.elim
    | cont =>
      obtain ⟨σ6, H6, S6, q6⟩ := hsp
      exact q6.elim
    | ret u =>
      obtain ⟨v6, σ6, H6, S6, r6, q6⟩ := hsp
      exact q6.elim
  · cases f with
    | next =>
      obtain ⟨σ', H', J', q⟩ := hsp
      exact wpAny_execs_nil ⟨σ', H', J'.ofTry ok, q⟩
    | brk =>
      obtain ⟨σ', H', J', q⟩ := hsp
      exact ⟨σ', H', J'.ofTry ok, q⟩
    | cont =>
      obtain ⟨σ', H', J', q⟩ := hsp
      exact ⟨σ', H', J'.ofTry ok, q⟩
    | ret u =>
      obtain ⟨v, σ', H', J', r, q⟩ := hsp
      exact ⟨v, σ', H', J'.ofTry ok, r, q⟩
end
end Mo

set_option Elab.async false
set_option linter.all false
set_option maxRecDepth 100000
set_option autoImplicit false
/-! Mon19: try: x() except C as n: y = n; isinstance of what was kept. -/
namespace Mo
open PySem PySem.Spec L2
open PyProof.Rows hiding St

/-- calls what slot i holds; an exception of cs goes to slot j, the clause's own name's slot k is gone -/
def mTryK (ap : Ap) (i j k : Nat) (cs : List Str) : MS := fun ρ S => match mCallL ap i mNil ρ S with
  | .ok _ S' => .ok (.nx ρ) S'
  | .err c S' => if cs.contains c && decide (k < ρ.length) then .ok (.nx ((ρ.set j (some (.exc c))).set k none)) S' else .stuck
  | .stuck => .stuck
section
variable {X : Cx} {G : Glo} {E : XK} {x y n cn : Str} {p py np pn2 pa pos pos' ep cp : Pos} {kk i j k : Nat} {ap : Ap} {cs : List Str} {cv : Value}
theorem callL0_at {σ0 : L2.St} (C : CallC X.prog X.w X.K X.mg X.base G kk ap) (hr : Room kk X.A) (hx : PassesAt (L2.CX X.prog X.w) X σ0 E) (hN : X.N[i]? = some x) (hv : Vis X.env.scope x) (hdb : (x == ("__debug__" : Str)) = false := by decide) (hcd : (x == ("__classdict__" : Str)) = false := by decide) :
    PE X (.Call (.Name x p) [] [] pos) (fun σ H Q => σ = σ0 ∧ tM G E (mCallL ap i mNil) σ H Q) := by
  refine ⟨fun pins s σ H Q I h => ?_⟩
  obtain ⟨rfl, ρ, S, Z, μ, r, er, af⟩ := h
  unfold mCallL at af
  split at af
  case h_2 => exact af.elim
  rename_i g hg
  obtain ⟨v, hs, hvr⟩ := er.at_ i g hg
  cases hc : ap.ca g with
  | false => rw [hc, if_neg Bool.false_ne_true] at af; exact af.elim
  | true =>
    rw [hc, if_pos rfl] at af
    refine wpAny_Call_Name_kw (thn ((pe_var (pos := p) hN hv hdb hcd).run pins s σ H (fun v' H1 => v' = v ∧ H1 = H) I ⟨v, hs, rfl, rfl⟩) fun u s1 ⟨v', H1, I1, r1, q1⟩ => ?_)
    obtain ⟨ev, eH⟩ := q1
    subst ev
    rw [eH] at I1
    obtain ⟨a, rfl, fa⟩ := C.fn g v' s1 H Z μ hc I1.hok I1.kIn hvr
    obtain rfl : u = Value.ref a := r1
    refine PySem.W.callWith_F0 (first := []) fa (wpAny_call (codeAny_mono (C.run g a X.A X.stack s1 H [] [] [] Z μ S Q E hc hr I1.env0 r hvr VRs.nil .nil af) fun rr s' hq => ?_))
    cases rr with
    | error e => exact hx pins H s1 e s' I1 hq
    | ok fl =>
      cases fl with
      | ret u => exact I1.after hq
      | next => exact False.elim hq
      | brk => exact False.elim hq
      | cont => exact False.elim hq
theorem sm_tryK (C : CallC X.prog X.w X.K X.mg X.base G kk ap) (hr : Room kk X.A) (hGm : G.mg = X.mg) (hGe : ∀ (c : Str) (Ca a : Addr) (H : Hp), G.mg c = some (.ref Ca) → H a = some (ExO a Ca) → G.ex c a H) (hs : X.stack = X.env :: X.outer) (hf : X.env.frame = some X.env.locals) (hex : X.ex = []) (hN : X.N.Nodup)
    (hi : X.N[i]? = some x) (hv : Vis X.env.scope x) (hk : X.N[k]? = some n) (hln : X.env.kindOf n = some .local) (hvn : Vis X.env.scope n) (hj : X.N[j]? = some y) (hly : Loc X.env.scope y) (hjk : j ≠ k) (hc : Names X cn cv)
    (hcs : ∀ c ∈ cs, ∃ Ca, X.mg c = some (.ref Ca) ∧ PySem.W.exmOne X.K (.ref Ca) cv = some true) (hdb : (x == ("__debug__" : Str)) = false := by decide) (hcd : (x == ("__classdict__" : Str)) = false := by decide) (hdb2 : (n == ("__debug__" : Str)) = false := by decide) (hcd2 : (n == ("__classdict__" : Str)) = false := by decide)
    (hsw : swapsWith (.Call (.Name x p) [] [] cp) none ep.line X.env = pure false := by rfl) (hsw2 : swapsWith (.Name n pn2) (some (.Name y py)) pa.line X.env = pure false := by rfl) (hfy : X.fn y = true ∨ X.env.scope.names.lookup y = some .local := by first | exact .inl rfl | exact .inr rfl | assumption) :
    PS X (.Try [.Expr (.Call (.Name x p) [] [] cp) ep] [.ExceptHandler (some (.Name cn np)) (some n) [.Assign [.Name y py] (.Name n pn2) pa] pos'] [] [] pos) (tS G E (mTryK ap i j k cs)) := by
  have T := ps_try_keep (pos := pos) (pos' := pos') (np := np) (i := k) (n := n) (x := cn) (c := cv) (body := [.Expr (.Call (.Name x p) [] [] cp) ep]) (b₀ := .Assign [.Name y py] (.Name n pn2) pa) (suite := []) (tb := fun W D σ H => tM G (WE W σ) (mCallL ap i mNil) σ H fun _ H' => D.nx σ H') (ts := fun _ => tAsg (tVar k) (gName j)) hs hf hex hN hk hln hc ?_ ?_
  · refine T.weak fun D σ H ⟨ρ, S, Z, μ, r, er, af⟩ => ?_
    refine ⟨ρ, S, Z, μ, r, er, ?_⟩
    unfold mTryK at af
    cases e1 : mCallL ap i mNil ρ S with
    | stuck => rw [e1] at af; exact af.elim
    | ok w S' =>
      rw [e1] at af
      exact fun Z' μ' H' g r' v hw => af Z' μ' H' g r' σ (er.mono r g)
    | err c S' =>
      rw [e1] at af
      dsimp only at af
      split at af
      case isFalse => exact af.elim
      rename_i hcc
      obtain ⟨hcc, hkl⟩ := Bool.and_eq_true_iff.mp hcc
      have hkl := of_decide_eq_true hkl
      obtain ⟨Ca, h1, h2⟩ := hcs c (by simpa using hcc)
      refine fun Z' μ' H' g r' => ⟨Ca, by rw [hGm]; exact h1, Ca, rfl, rfl, h2, fun a na => ?_⟩
      have er' := er.mono r g
      refine ⟨.ref a, by rw [List.getElem?_set_self (by rw [er'.len]; exact hkl)], fun na' => ?_⟩
      have gn : Grow Z' μ' H' Z' μ' (upd H' a (ExO a Ca)) := Grow.add na'
      refine af Z' μ' _ (Grow.trans r' g gn) (r'.add na') _ ?_
      have er2 := er'.mono r' gn
      have hv : VR G Z' μ' (upd H' a (ExO a Ca)) (.exc c) (.ref a) := by
        unfold VR
        exact ⟨a, rfl, hGe c Ca a _ (by rw [hGm]; exact h1) upd_same⟩
      have er3 := er2.set hv j
      refine ⟨by simp [er3.len, er2.len], fun m u hm => ?_⟩
      by_cases hmk : m = k
      · subst hmk
        rw [List.getElem?_set_self (by rw [List.length_set]; exact hkl)] at hm
        cases hm
      · rw [List.getElem?_set_ne (Ne.symm hmk)] at hm
        obtain ⟨v, q1, q2⟩ := er3.at_ m u hm
        refine ⟨v, ?_, q2⟩
        rw [List.getElem?_set_ne (Ne.symm hmk)]
        by_cases hmj : m = j
        · subst hmj
          rw [List.getElem?_set] at q1 ⊢
          simpa using q1
        · rw [List.getElem?_set_ne (Ne.symm hmj)] at q1 ⊢
          rw [List.getElem?_set_ne (Ne.symm hmk)]
          exact q1
  · intro W pn xe tk hp
    refine ⟨fun pins s σ H D I h => ?_⟩
    have hx : PassesAt (L2.CX X.prog X.w) (X.tr pn xe) σ (WE W σ) := passAt tk σ
    exact (pss_one (ps_expr (X := X.tr pn xe) (callL0_at (X := X.tr pn xe) (E := WE W σ) (σ0 := σ) C hr hx hi hv hdb hcd) hsw)).run pins s σ H D I ⟨rfl, h⟩
  · intro a oe pn hd
    exact pss_one (ps_set (X := X.suite a ((a, oe) :: pn)) hN hj hly (pe_var (X := X.suite a ((a, oe) :: pn)) hk hvn hdb2 hcd2) hsw2 hfy)
end
end Mo

set_option Elab.async false
set_option linter.all false
set_option maxRecDepth 100000
set_option autoImplicit false
/-! Mon20: isinstance of a kept exception. -/
namespace Mo
open PySem PySem.Spec L2
open PyProof.Rows hiding St

def isxW (xs : List Str) (tb : Str → Str → Bool) (ws : List W) (S : Sto) : R W := match ws with
  | [.exc c, .glob d] => if xs.contains c && xs.contains d then .ok (.bl (tb c d)) S else .stuck
  | [.exc c, .ty n] => if xs.contains c && (n == "ValueError") then .ok (.bl true) S else .stuck
  | [.non, .glob d] => if xs.contains d then .ok (.bl false) S else .stuck
  | [.non, .ty n] => if n == "ValueError" then .ok (.bl false) S else isiW [.non, .ty n] S
  | ws => isiW ws S
structure ExT (K : PySem.W.Frag) (mg : Str → Option Value) (xs : List Str) (tb : Str → Str → Bool) : Prop where
  exc : ∀ c ∈ xs, ∀ C : Addr, mg c = some (.ref C) → ExcC K C ∧ PySem.W.kitOne K (.ref C) (.type "ValueError") = some true
  sub : ∀ c ∈ xs, ∀ d ∈ xs, ∀ C D : Addr, mg c = some (.ref C) → mg d = some (.ref D) → PySem.W.kitOne K (.ref C) (.ref D) = some (tb c d)
  non : ∀ d ∈ xs, ∀ D : Addr, mg d = some (.ref D) → PySem.W.kitOne K (.type "NoneType") (.ref D) = some false
  nve : PySem.W.kitOne K (.type "NoneType") (.type "ValueError") = some false
section
variable {X : Cx} {G : Glo} {E : XK} {Z : Addr → Prop} {μ : List Addr} {H : Hp} {S : Sto}
theorem exO_at {pins : List (Addr × Obj)} {σ : L2.St} {s : Shared} {a C : Addr} (I : Inv X pins σ H s) (h : H a = some (ExO a C)) : ∃ ox, PySem.W.InstAt s.heap a ox C none := by
  obtain ⟨⟨oe, hget, hz, vs, hv⟩, _, _⟩ := I.hok a _ h
  obtain ⟨oc, od, oda, osl⟩ := oe
  obtain ⟨h1, h2⟩ := hz
  dsimp only at h1 h2 hv
  subst h1 h2 hv
  exact ⟨_, hget, rfl, rfl, trivial⟩
theorem c_isx (hK : X.K = G.K) {xs : List Str} {tb : Str → Str → Bool} (T : ExT X.K X.mg xs tb) (hm : G.mg = X.mg) (hGe : ∀ (c : Str) (a : Addr) (H : Hp), G.ex c a H → ∃ C, G.mg c = some (.ref C) ∧ H a = some (ExO a C)) : CallR X (.builtin "isinstance") (cM G E (isxW xs tb)) := by
  intro pins s σ H vs us Q I rv ⟨ws, S, Z, μ, r, hv, af⟩
  have exv : ∀ {c : Str} {v : V}, VR G Z μ H (.exc c) v → ∃ a C, v = .ref a ∧ X.mg c = some (.ref C) ∧ H a = some (ExO a C) := fun {c v} h => by
    unfold VR at h
    obtain ⟨a, rfl, h⟩ := h
    obtain ⟨C, h1, h2⟩ := hGe _ _ _ h
    exact ⟨a, C, rfl, by rw [← hm]; exact h1, h2⟩
  have glv : ∀ {d : Str} {v : V}, VR G Z μ H (.glob d) v → ∃ D, v = .ref D ∧ X.mg d = some (.ref D) := fun {d v} h => by
    unfold VR at h
    obtain ⟨D, h1, rfl⟩ := h
    exact ⟨D, rfl, by rw [← hm]; exact h1⟩
  unfold isxW at af
  split at af
  · rename_i c d
    split at af
    case isFalse => exact af.elim
    rename_i hc
    obtain ⟨hc1, hc2⟩ := Bool.and_eq_true_iff.mp hc
    have hc1 : c ∈ xs := by simpa using hc1
    have hc2 : d ∈ xs := by simpa using hc2
    obtain ⟨v, u, rfl, h1, h2⟩ := two_of hv
    obtain ⟨a, C, rfl, m1, q1⟩ := exv h1
    obtain ⟨D, rfl, m2⟩ := glv h2
    obtain ⟨u1, u2, rfl, r1, r2⟩ := vals2 rv
    cases r1; cases r2
    obtain ⟨ox, J⟩ := exO_at I q1
    obtain ⟨Ce, _⟩ := T.exc c hc1 C m1
    exact PySem.W.kia_one (PySem.W.handS_kitx_exc Ce.hg Ce.hk Ce.hs Ce.hd Ce.ha Ce.hn Ce.ht Ce.hm) I.kIn J (T.sub c hc1 d hc2 C D m1 m2) (fun z => nomatch z) fun tk => ⟨.bl (tb c d), H, I.kept (t' := tk) fun _ _ z => z, rfl, end_val r (vr_bl _ _ _) af⟩
  · rename_i c n
    split at af
    case isFalse => exact af.elim
    rename_i hc
    obtain ⟨hc1, hc2⟩ := Bool.and_eq_true_iff.mp hc
    have hc1 : c ∈ xs := by simpa using hc1
    have hc2 : n = "ValueError" := by simpa using hc2
    subst hc2
    obtain ⟨v, u, rfl, h1, h2⟩ := two_of hv
    obtain ⟨a, C, rfl, m1, q1⟩ := exv h1
    have e2 := i_ty h2
    subst e2
    obtain ⟨u1, u2, rfl, r1, r2⟩ := vals2 rv
    cases r1; cases r2
    obtain ⟨ox, J⟩ := exO_at I q1
    obtain ⟨Ce, hve⟩ := T.exc c hc1 C m1
    exact PySem.W.kia_one (PySem.W.handS_kitx_exc Ce.hg Ce.hk Ce.hs Ce.hd Ce.ha Ce.hn Ce.ht Ce.hm) I.kIn J hve (fun z => nomatch z) fun tk => ⟨.bl true, H, I.kept (t' := tk) fun _ _ z => z, rfl, end_val r (vr_bl _ _ _) af⟩
  · rename_i d
    split at af
    case isFalse => exact af.elim
    rename_i hc
    have hc2 : d ∈ xs := by simpa using hc
    obtain ⟨v, u, rfl, h1, h2⟩ := two_of hv
    have e1 := i_non h1
    subst e1
    obtain ⟨D, rfl, m2⟩ := glv h2
    obtain ⟨u1, u2, rfl, r1, r2⟩ := vals2 rv
    cases r1; cases r2
    exact PySem.W.kia_one PySem.W.kitx_none I.kIn trivial (T.non d hc2 D m2) (fun z => nomatch z) fun tk => ⟨.bl false, H, I.kept (t' := tk) fun _ _ z => z, rfl, end_val r (vr_bl _ _ _) af⟩
  · rename_i n
    split at af
    · rename_i hc
      have hc2 : n = "ValueError" := by simpa using hc
      subst hc2
      obtain ⟨v, u, rfl, h1, h2⟩ := two_of hv
      have e1 := i_non h1
      subst e1
      have e2 := i_ty h2
      subst e2
      obtain ⟨u1, u2, rfl, r1, r2⟩ := vals2 rv
      cases r1; cases r2
      exact PySem.W.kia_one PySem.W.kitx_none I.kIn trivial T.nve (fun z => nomatch z) fun tk => ⟨.bl false, H, I.kept (t' := tk) fun _ _ z => z, rfl, end_val r (vr_bl _ _ _) af⟩
    · exact c_isi hK pins s σ H vs us Q I rv ⟨_, S, Z, μ, r, hv, af⟩
  · exact c_isi hK pins s σ H vs us Q I rv ⟨_, S, Z, μ, r, hv, af⟩
end
end Mo

set_option Elab.async false
set_option linter.all false
set_option maxRecDepth 100000
set_option autoImplicit false
/-! Mon21: closures of the maker's frame, handed to a def within a comprehension of it. -/
namespace Mo
open PySem PySem.Spec L2
open PyProof.Rows hiding St
open LamX (CodeO TabS Tabs ExtN TabB)
section
variable {X : Cx}
theorem lc_coreK {pins : List (Addr × Obj)} {s : Shared} {σ : St} {H : Hp} {Q : VK} {elt tg iter : Expr} {ifs : List Expr} {scope : Scope} {own : List (Str × Nat)} {pos pos' : Pos} {wi : TI} {g : TG} {tt : TT} {te : TE} {use : Option (Value → Sem Unit)} {Qf : Value → Shared → Prop}
    (hc : X.calm = true) (hN : X.N.Nodup) (I : Inv X pins σ H s) (hi : PI X tg iter wi) (ok : BlkOk X.N X.env.scope scope own)
    (hg : ∀ (s : Shared) (H : Hp) (C : Addr) (cl : List (Str × Addr)) (fp : List Addr), PG (X.blk s H scope (compEnvC scope cl C X.env) fp) tg g) (ht : ∀ (s : Shared) (H : Hp) (C : Addr) (cl : List (Str × Addr)) (fp : List Addr), PTs (X.blk s H scope (compEnvC scope cl C X.env) fp) ifs tt)
    (he : ∀ (s : Shared) (H : Hp) (C : Addr) (cl : List (Str × Addr)) (fp : List Addr), Inv X pins σ H s → (∀ b ∈ fp, FpOk X pins H b) → PE (X.blk s H scope (compEnvC scope cl C X.env) fp) elt (fun σ8 H8 Q => L2.wipe σ8 (own.map (·.2)) = L2.wipe σ (own.map (·.2)) ∧ te σ8 H8 Q)) (hs : ∀ x, foldedSetIterable iter X.env x = pure x)
    (h : tLc wi g tt te (own.map (·.2)) σ H Q)
    (hRR : ∀ D C s' m H', Inv X pins σ H' s' → Q (.ref D) H' → s'.heap.Ns C m → FpOk X pins H' C → compPost (model X.prog X.w) X.A X.xe use Qf (.ref D) C (.ok .next) s') :
    wpAny (model X.prog X.w) X.A (comprehension (.ListComp elt [⟨tg, iter, ifs, 0⟩] scope pos) scope X.env pos' (newList []) false (eval iter X.env) use) Qf X.xe s := by
  have hfree : ∀ y ∈ scope.names, y.2 = .free → ∃ c, X.env.cells.lookup y.1 = some c := fun y hy e => by
    rcases ok.free y hy e with k | k
    · exact I.ok.has _ (.inl k)
    · exact I.ok.has _ (.inr k)
  refine wpAny_comprehension_free (use := use) rfl hs (closure_ok hfree) ok.kind (fun y hy e => by rw [ok.uniq y hy, e])
    (thn (hi.run pins s σ H _ I h) fun xv s1 hx => thn hx fun itv s2 h2 => ?_)
  obtain ⟨it, fp, tn, J, H2, e, I2, T, st2, f2, q⟩ := h2
  subst e
  refine wpAny_newObj_type (newEnv_comp ?_) (by show 0 ≤ sizeLine; decide)
  generalize hD : s2.heap.objs.size = D
  have hDn : H2 D = none := I2.hok.fresh (Nat.le_of_eq hD)
  obtain ⟨W, ⟨m0, w0⟩, turn⟩ := q D hDn
  -- the new list
  generalize hs3 : ({ s2 with heap := s2.heap.push { cls := .type "list", data := .seq ([] : List Value).toArray } } : Shared) = s3
  have I3 : Inv X pins σ (upd H2 D (.lst [])) s3 := by
    rw [← hs3]
    refine I2.laid (t' := s2.toks) (fun b o e => Heap.get?_push_of_some _ e) (Nat.le_of_eq hD) ⟨Nat.zero_le _, [], 0, .nil, ?_⟩
    rw [← hD]
    exact Heap.get?_push_size _ rfl
  have h3 : s3.heap = s2.heap.push { cls := .type "list", data := .seq ([] : List Value).toArray } := by rw [← hs3]
  have sz : ∀ b ∈ fp, b < s2.heap.objs.size := fun b hb => by
    obtain ⟨o, e, _⟩ := T.obj _ _ st2 b hb
    exact Heap.lt_size e
  have f3 : ∀ b ∈ fp, FpOk X pins (upd H2 D (.lst [])) b ∧ b < s3.heap.objs.size := fun b hb => by
    have hlt := sz b hb
    refine ⟨⟨?_, (f2 b hb).2⟩, by rw [h3, Heap.size_push]; exact Nat.lt_succ_of_lt hlt⟩
    rw [upd_ne (by rw [← hD]; exact Nat.ne_of_lt hlt)]
    exact (f2 b hb).1
  have st3 : tn 0 s3.heap := T.keep _ _ _ st2 fun b _ o e => by rw [h3]; exact Heap.get?_push_of_some _ e
  have I4 := block_start I3 ok hN f3
  have pg := hg s3 (upd H2 D (.lst [])) s3.heap.objs.size (cellsFrom (s3.heap.objs.size + 1) scope.names (cloFrom X.env.cells scope.names [])) fp
  have pt := ht s3 (upd H2 D (.lst [])) s3.heap.objs.size (cellsFrom (s3.heap.objs.size + 1) scope.names (cloFrom X.env.cells scope.names [])) fp
  have pe := he s3 (upd H2 D (.lst [])) s3.heap.objs.size (cellsFrom (s3.heap.objs.size + 1) scope.names (cloFrom X.env.cells scope.names [])) fp I3 (fun b hb => (f3 b hb).1)
  show codeAny _ _ (.compStart (.ListComp elt [⟨tg, iter, ifs, 0⟩] scope pos) 0 (.ref it) (.ref D) (compEnvC scope (cellsFrom (s3.heap.objs.size + 1) scope.names (cloFrom X.env.cells scope.names [])) s3.heap.objs.size X.env)) (compPost (model X.prog X.w) X.A X.xe use Qf (.ref D) s3.heap.objs.size) { s3 with heap := pushCells (s3.heap.push { cls := .type "dict", data := .dict #[] }) scope.names }
  have nfp : ∀ b ∈ fp, (upd H2 D (.lst [])) b = none := fun b hb => (f3 b hb).1.1
  generalize hce : compEnvC scope (cellsFrom (s3.heap.objs.size + 1) scope.names (cloFrom X.env.cells scope.names [])) s3.heap.objs.size X.env = ce at I4 pg pt pe ⊢
  have cL : ce.locals = s3.heap.objs.size := by subst hce; rfl
  generalize hH3 : upd H2 D (.lst []) = H3 at I3 I4 pg pt pe w0 nfp f3
  generalize hs4 : ({ s3 with heap := pushCells (s3.heap.push { cls := .type "dict", data := .dict #[] }) scope.names } : Shared) = s4 at I4 ⊢
  have st4 : tn 0 s4.heap := T.keep _ _ _ st3 fun b _ o e => by rw [← hs4]; exact pushCells_keeps _ _ _ _ (Heap.get?_push_of_some _ e)
  have stat : ∀ {σ' : St} {H' : Hp} {s' : Shared}, Inv (X.blk s3 H3 scope ce fp) [] σ' H' s' → (∀ b ∈ fp, H' b = none) → ∀ b ∈ fp, FpOk (X.blk s3 H3 scope ce fp) [] H' b := fun {σ' H' s'} I' hn b hb =>
    ⟨hn b hb, (I'.ok.exf b hb).1, I'.ok.exfs b hb, .inl hb, fun x c e => (I'.ok.exf b hb).2 x c e, fun p hp => absurd (show p ∈ ([] : List (Addr × Obj)) ++ [] from hp) (by simp)⟩
  have loop : codeAny (model X.prog X.w) X.A (.compLoop (.ListComp elt [⟨tg, iter, ifs, 0⟩] scope pos) 0 (.ref it) (.ref D) ce) (compPost (model X.prog X.w) X.A X.xe use Qf (.ref D) s3.heap.objs.size) s4 := by
    refine compLoop_any (fun n s' => ∃ i H', Inv (X.blk s3 H3 scope ce fp) [] (L2.wipe σ (own.map (·.2))) H' s' ∧ tn i s'.heap ∧ (∀ b ∈ fp, H' b = none) ∧ W i n H') ?_ m0 ⟨0, H3, I4, st4, nfp, w0⟩
    rintro n s5 ⟨i, H5, I5, st5, n5, w5⟩
    rcases turn i n H5 w5 with ⟨stop, qq⟩ | ⟨go, Nx, hNx, step⟩
    · have td := T.done (X.blk s3 H3 scope ce fp) rfl rfl rfl hc i [] s5 _ H5 (fun _ _ => False) I5 (stat I5 n5) st5 stop
      refine thnF td fun r s6 ⟨hr, I6⟩ => ?_
      subst hr
      -- back in the def's context
      have I7 : Inv X pins σ H5 s6 := I3.call' (ch := fp) I6.os I6.base I6.hok I6.bare fun b hb => ⟨(f3 b hb).1.2.2.2.1, (f3 b hb).1.2.1, (f3 b hb).1.2.2.2.2.1, (f3 b hb).1.2.2.2.2.2⟩
      have nC : H5 s3.heap.objs.size = none := by
        have z : H5 ce.locals = none := I6.free
        rw [cL] at z
        exact z
      obtain ⟨m, hn, _⟩ := I6.loc
      have hn : s6.heap.Ns ce.locals m := hn
      rw [cL] at hn
      exact hRR D s3.heap.objs.size s6 m H5 I7 qq hn (I3.fpOk (Nat.le_refl _) nC)
    · have ti := T.item (X.blk s3 H3 scope ce fp) rfl rfl rfl hc i [] s5 _ H5 (fun _ _ => False) I5 (stat I5 n5) st5 go
      refine thnF ti fun r s6 ⟨u, hr, h6⟩ => ?_
      subst hr
      refine thnF h6 fun _ s7 ⟨x, H7, I7, r7, y7, st7, n7⟩ => ?_
      have I7' := I7.pinned (stat I7 n7) (T.obj _ _ st7)
      refine thnF (pg.run _ s7 _ H7 x u _ I7' r7 (step x H7 y7)) fun _ s8 ⟨σ8, H8, I8, hw8, q8⟩ => ?_
      refine thnF (pt.run _ s8 σ8 H8 _ I8 q8) fun b s9 ⟨H9, I9, q9⟩ => ?_
      -- the turn's end
      have fin : ∀ {s' : Shared} {H' : Hp}, Inv (X.blk s3 H3 scope ce fp) ([] ++ pinsAt fp s7.heap) σ8 H' s' → Nx H' → ∃ m, m < n ∧ ∃ i H', Inv (X.blk s3 H3 scope ce fp) [] (L2.wipe σ (own.map (·.2))) H' s' ∧ tn i s'.heap ∧ (∀ b ∈ fp, H' b = none) ∧ W i m H' := fun {s' H'} I' nx => by
        obtain ⟨m', hm, w'⟩ := hNx H' nx
        have pin' : ∀ b ∈ fp, ∀ o, s7.heap.get? b = some o → s'.heap.get? b = some o ∧ H' b = none := fun b hb o e =>
          let z := I'.pin (b, o) (List.mem_append_right _ (List.mem_append_right _ (mem_pinsAt hb e)))
          ⟨z.1, z.2.1⟩
        have hl : (L2.wipe σ (own.map (·.2))).length = σ8.length := by rw [← hw8, L2.wipe_length]
        refine ⟨m', hm, i + 1, H', (I'.unpinned (pins := [])).weak hl (fun j v e => ?_), T.keep _ _ _ st7 fun b hb o e => (pin' b hb o e).1, fun b hb => ?_, w'⟩
        · rw [← hw8] at e
          exact (L2.wipe_some e).1
        · obtain ⟨o, e, _⟩ := T.obj _ _ st7 b hb
          exact (pin' b hb o e).2
      cases b with
      | false =>
        simp only [Bool.false_eq_true, if_false] at q9 ⊢
        exact fin I9 q9
      | true =>
        simp only [if_true] at q9 ⊢
        refine thnF (pe.run _ s9 σ8 H9 _ I9 ⟨hw8, q9⟩) fun z s10 ⟨yv, H10, I10, r10, acc, hD10, hz10, nx⟩ => ?_
        exact app_ok (X := X.blk s3 H3 scope ce fp) I10 hD10 hz10 r10 fun s11 I11 => fin I11 nx
  exact codeAny_compStart_list loop (T.self X.A 0 _ _ _ st4 loop)
theorem pe_lcK {elt tg iter : Expr} {ifs : List Expr} {scope : Scope} {own : List (Str × Nat)} {pos : Pos} {wi : TI} {g : TG} {tt : TT} {te : TE} (hc : X.calm = true) (hN : X.N.Nodup) (hi : PI X tg iter wi) (ok : BlkOk X.N X.env.scope scope own)
    (hg : ∀ (s : Shared) (H : Hp) (C : Addr) (cl : List (Str × Addr)) (fp : List Addr), PG (X.blk s H scope (compEnvC scope cl C X.env) fp) tg g) (ht : ∀ (s : Shared) (H : Hp) (C : Addr) (cl : List (Str × Addr)) (fp : List Addr), PTs (X.blk s H scope (compEnvC scope cl C X.env) fp) ifs tt)
    (he : ∀ (pins : List (Addr × Obj)) (σ : L2.St) (s : Shared) (H : Hp) (C : Addr) (cl : List (Str × Addr)) (fp : List Addr), Inv X pins σ H s → (∀ b ∈ fp, FpOk X pins H b) → PE (X.blk s H scope (compEnvC scope cl C X.env) fp) elt (fun σ8 H8 Q => L2.wipe σ8 (own.map (·.2)) = L2.wipe σ (own.map (·.2)) ∧ te σ8 H8 Q)) (hs : ∀ x, foldedSetIterable iter X.env x = pure x := by intro _; rfl) :
    PE X (.ListComp elt [⟨tg, iter, ifs, 0⟩] scope pos) (tLc wi g tt te (own.map (·.2))) := by
  refine ⟨fun pins s σ H Q I h => ?_⟩
  rw [eval_ListComp]
  refine lc_coreK hc hN I hi ok hg ht (he pins σ) hs h fun D C s' m H' I' q hn f => ⟨m, hn, fun h'' sb => ?_⟩
  obtain ⟨f0, f1, f2, f3, f4, f5⟩ := f
  exact ⟨.ref D, H', I'.turned (t' := s'.toks) (fun b o hb e => (sb.2 b hb).trans e) f0 f1 f3 f4 f5, rfl, q⟩
end
section
variable {X : Cx} {G : Glo} {E : XK} {elt tg iter : Expr} {ifs : List Expr} {scope : Scope} {mi : MI} {mt : MT} {me : ME} {pos spos : Pos} {g : TG} {t : MG} {is : List Nat} {own : List (Str × Nat)}
theorem em_lcK (hg : GM G is g t) (his : ∀ i ∈ is, i ∈ own.map (·.2)) (hc : X.calm = true) (hN : X.N.Nodup) (hi : PI X tg iter (tI G E mi)) (ok : BlkOk X.N X.env.scope scope own)
    (hp : ∀ (s : Shared) (H : Hp) (C : Addr) (cl : List (Str × Addr)) (fp : List Addr), PG (X.blk s H scope (compEnvC scope cl C X.env) fp) tg g) (ht : ∀ (s : Shared) (H : Hp) (C : Addr) (cl : List (Str × Addr)) (fp : List Addr), PTs (X.blk s H scope (compEnvC scope cl C X.env) fp) ifs (tMT G E0' mt))
    (he : ∀ (pins : List (Addr × Obj)) (σ : L2.St) (s : Shared) (H : Hp) (C : Addr) (cl : List (Str × Addr)) (fp : List Addr), Inv X pins σ H s → (∀ b ∈ fp, FpOk X pins H b) → PE (X.blk s H scope (compEnvC scope cl C X.env) fp) elt (fun σ8 H8 Q => L2.wipe σ8 (own.map (·.2)) = L2.wipe σ (own.map (·.2)) ∧ tM G E0' me σ8 H8 Q)) (hs : ∀ x, foldedSetIterable iter X.env x = pure x := by intro _; rfl) :
    PE X (.ListComp elt [⟨tg, iter, ifs, 0⟩] scope pos) (tM G E (mLc mi (own.map (·.2)) t mt me)) := (pe_lcK hc hN hi ok hp ht he hs).weak fun σ H Q h => lc_frozen hg his h
end
/-! ### the base in the block -/
section
variable {X : Cx} {pins pins1 : List (Addr × Obj)} {σ σ1 : L2.St} {H3 H1 : Hp} {s3 s1 : Shared} {scope : Scope} {ce : Env} {fp : List Addr}
theorem cell_nofr (I : Inv X pins σ H3 s3) (hfn : ∀ x, X.fn x = true) {b : Addr} (k : isCellOf X.env.cells b = true) : b ∉ frs X.stack := fun hL => by
  obtain ⟨y, hy⟩ := isCellOf_of k
  rcases List.mem_cons.mp (I.stkSub b hL) with e | e
  · exact I.cne y b hy e
  · obtain ⟨_, oL, hoL, _⟩ := I.ok.funs.mem e
    exact Nat.lt_irrefl _ (Nat.lt_of_lt_of_le (Heap.lt_size hoL) (I.ok.cab y b (hfn y) hy))
theorem env0_plusB (I : Inv X pins σ H3 s3) (hfn : ∀ x, X.fn x = true) (hfp : ∀ b ∈ fp, FpOk X pins H3 b) (I1 : Inv (X.blk s3 H3 scope ce fp) pins1 σ1 H1 s1) : Env0 X.prog X.w X.K X.mg (baseP X s3) X.A X.stack s1 H1 := by
  have e0 : Env0 X.prog X.w X.K X.mg X.base X.A X.stack s1 H1 := I1.env0
  have bb : ∀ b o, X.base.get? b = some o → (baseP X s3).get? b = some o := fun b o h => baseP_base I h
  refine ⟨e0.frames, ⟨fun a o h => bb a o (e0.mod.kin a o h), e0.mod.glob.keeps bb, ?_, e0.mod.nolimit.keeps bb⟩, fun b o h => ?_, ?_, ?_, e0.frf, e0.hok, e0.bare⟩
  · obtain ⟨mb, h1, h2⟩ := e0.mod.blt
    exact ⟨mb, h1.keeps bb, h2⟩
  · obtain ⟨h1, h2⟩ := baseP_of h
    rcases h2 with h2 | h2
    · obtain ⟨o', ho⟩ := Option.isSome_iff_exists.mp h2
      have q := (I.bs b o' ho).1
      rw [h1] at q
      cases q
      exact e0.bs b o ho
    · obtain ⟨y, hy⟩ := isCellOf_of h2
      have n3 := I.freeC y b hy
      have nfp : b ∉ fp := fun hb => (hfp b hb).2.2.2.2.1 y b hy rfl
      exact ⟨I1.base.keep b o h1 n3 (cell_nofr I hfn h2) nfp, I1.base.free b o h1 n3 nfp⟩
  · exact Nat.le_trans (Nat.le_of_eq (PySem.W.hideAll_size _ _)) I1.sz
  · refine L2.funFrames_none e0.funs fun L hL => ?_
    cases q : (baseP X s3).get? L with
    | none => rfl
    | some o =>
      obtain ⟨h1, h2⟩ := baseP_of q
      obtain ⟨k1, o', ho, hd⟩ := e0.funs.mem hL
      rcases h2 with h2 | h2
      · rw [k1] at h2; cases h2
      · exact absurd hL (cell_nofr I hfn h2)
end
end Mo

set_option Elab.async false
set_option linter.all false
set_option maxRecDepth 100000
set_option autoImplicit false
/-! Mon22: a def called with closures in a block of the maker's. -/
namespace Mo
open PySem PySem.Spec L2
open PyProof.Rows hiding St
open LamX (CodeO TabS Tabs ExtN TabB)
def mCallCB (n : Nat) (m : MD) (ms : List LamM) (own : List Nat) (r : MA) : ME := fun ρ S => (r ρ S).bind fun ws S1 => gCallC n m ms (wipeW ρ own) ws S1
section
variable {X : Cx} {T : List (Addr × Str)} {lams : List LamD} {ms : List LamM} {gs : List (Str × Nat × MD)} {E : XK}
theorem capOf_ok2 {pins : List (Addr × Obj)} {σ : L2.St} {H0 H : Hp} {s : Shared} {Z : Addr → Prop} {μ : List Addr} {ρ : Env'} {G G' : Glo} (hK : G'.K = G.K) (hm : G'.mg = G.mg) (he : G'.ex = G.ex) (I : Inv X pins σ H0 s) (er : ∀ (j : Nat) (u : W), ρ[j]? = some (some u) → ∃ v : V, σ[j]? = some (some v) ∧ VR G Z μ H u v) : ∀ (js : List Nat) (fr : List Str) (us : List W), capOf ρ js = some us → js.length = fr.length → (∀ (i : Nat) (y : Str), fr[i]? = some y → ∃ j : Nat, js[i]? = some j ∧ X.N[j]? = some y ∧ X.env.scope.names.lookup y = some .cell) →
    ∃ vs, VRs G' Z [] H us vs ∧ vs.length = fr.length ∧ ∀ (i : Nat) (y : Str), fr[i]? = some y → ∃ (c : Addr) (oc : Obj) (u : Value) (v : V), X.env.cells.lookup y = some c ∧ (baseP X s).get? c = some oc ∧ oc.data = .cell (some u) ∧ vs[i]? = some v ∧ RelV v u
  | [], [], us, e, _, _ => by
    unfold capOf at e; cases e
    exact ⟨[], VRs.nil, rfl, fun i y h => by simp at h⟩
  | j :: js, y :: fr, us, e, hl, hat => by
    unfold capOf at e
    split at e
    · rename_i u hu
      split at e
      · rename_i hn
        have hn' := Bool.and_eq_true_iff.mp hn
        split at e
        · rename_i us' e2
          cases e
          obtain ⟨vs, h1, h2, h3⟩ := capOf_ok2 hK hm he I er js fr us' e2 (by simpa using hl) fun i y h => by simpa using hat (i + 1) y (by simpa using h)
          obtain ⟨j', k1, k2, k3⟩ := hat 0 y rfl
          simp at k1
          subst k1
          obtain ⟨v, q1, q2⟩ := er j u hu
          obtain ⟨m, _, hl'⟩ := I.loc
          obtain ⟨uv, ru, lk⟩ := hl' j y v k2 q1 (.inr (.inl k3))
          refine ⟨v :: vs, VRs.cons (VR.reG hK hm he hn'.2 (VR.nr (fun _ h => h) hn'.1 q2)) h1, by simp [h2], fun i z hz => ?_⟩
          cases i with
          | zero =>
            simp at hz
            subst hz
            rcases lk with ⟨lk, _⟩ | ⟨_, c, hc, oc, ho, hd⟩
            · have lk' : X.env.scope.names.lookup y = some .local := lk
              rw [k3] at lk'; cases lk'
            · exact ⟨c, oc, uv, v, hc, baseP_at ho (.inr (isCellOf_lookup hc)), hd, rfl, ru⟩
          | succ i =>
            obtain ⟨c, oc, u2, v2, p1, p2, p3, p4, p5⟩ := h3 i z (by simpa using hz)
            exact ⟨c, oc, u2, v2, p1, p2, p3, by simpa using p4, p5⟩
        · cases e
      · cases e
    · cases e
  | [], _ :: _, _, _, hl, _ => by simp at hl
  | _ :: _, [], _, _, hl, _ => by simp at hl
theorem cvt_ok2 {pins : List (Addr × Obj)} {σ : L2.St} {H0 H : Hp} {s : Shared} {Z : Addr → Prop} {μ : List Addr} {ρ : Env'} (I : Inv X pins σ H0 s) (er : ∀ (j : Nat) (u : W), ρ[j]? = some (some u) → ∃ v : V, σ[j]? = some (some v) ∧ VR (gloM X T lams fun _ vs => vs = []) Z μ H u v) (hcap : ∀ (k : Nat) (L : LamD) (M : LamM), lams[k]? = some L → ms[k]? = some M → Capt X L M) :
    ∀ (w u : W) (v : V), cvt ms ρ w = some u → VR (gloM X T lams fun _ vs => vs = []) Z μ H w v → VR (gloM X T lams fun k vs => ∃ L, lams[k]? = some L ∧ CV (baseP X s) X.env.cells L vs) Z [] H u v := fun w u v e h => by
  unfold cvt at e
  split at e
  · rename_i k
    split at e
    · rename_i M eM
      split at e
      · rename_i us eu
        cases e
        unfold VR at h ⊢
        obtain ⟨a, vs, rfl, ⟨L, c', h1, h2, h3⟩, h4, h5⟩ := h
        have cp := hcap k L M h1 eM
        rw [cp.js] at eu
        obtain ⟨cs, k1, k2, k3⟩ := capOf_ok2 (G := gloM X T lams fun _ vs => vs = []) (G' := gloM X T lams fun k vs => ∃ L, lams[k]? = some L ∧ CV (baseP X s) X.env.cells L vs) rfl rfl rfl I er L.js L.fr us eu cp.len cp.at_
        exact ⟨a, cs, rfl, ⟨L, c', h1, h2, h3⟩, ⟨L, h1, k2, k3⟩, k1⟩
      · cases e
    · cases e
  · split at e
    · rename_i hn
      have hn' := Bool.and_eq_true_iff.mp hn
      cases e
      exact VR.reG (G := gloM X T lams fun _ vs => vs = []) (G' := gloM X T lams fun k vs => ∃ L, lams[k]? = some L ∧ CV (baseP X s) X.env.cells L vs) rfl rfl rfl hn'.2 (VR.nr (fun _ h => h) hn'.1 h)
    · cases e
theorem tabB_keep {h h' : Heap} {mg : Str → Option Value} {c P : Addr} (k : ∀ b o, h.get? b = some o → h'.get? b = some o) (t : LamX.TabB h mg c P) : LamX.TabB h' mg c P := by
  obtain ⟨⟨o, vs, file, tf, flags, tg, inF, text, tt, e, r⟩, ⟨bm, ob, b1, b2, b3, b4, b5, b6⟩, gP⟩ := t
  exact ⟨⟨o, vs, file, tf, flags, tg, inF, text, tt, k _ _ e, r⟩, ⟨bm, ob, b1, b2, b3, b4, k _ _ b5, b6⟩, gP⟩
/-- f(e, ..) in a block of the maker's -/
theorem em_callCB {pins : List (Addr × Obj)} {σ : L2.St} {H3 : Hp} {s3 : Shared} {scope : Scope} {ce : Env} {fp : List Addr} {own : List Nat} {kf kk n : Nat} {f : Addr} {x : Str} {p pos : Pos} {e : Expr} {es : List Expr} {mr : MA} {m : MD}
    (I3 : Inv X pins σ H3 s3) (hfp : ∀ b ∈ fp, FpOk X pins H3 b) (hfn : ∀ x, X.fn x = true) (hlen : lams.length = ms.length) (hcap : ∀ (k : Nat) (L : LamD) (M : LamM), lams[k]? = some L → ms[k]? = some M → Capt X L M)
    (hl : ∀ (B : Heap) (cv : Nat → List V → Prop) (k : Nat) (L : LamD) (M : LamM), lams[k]? = some L → ms[k]? = some M → X.Ok → (∀ (c P : Addr), LamX.TabB X.base X.mg c P → LamX.TabB B X.mg c P) → LamOk X.prog X.w X.K X.mg B (gloM X T lams cv) kk (X.env.qual ++ "<lambda>") X.env.cells L M)
    (hgl : ∀ (B : Heap) (cv : Nat → List V → Prop) (x : Str) (n : Nat) (m : MD), gs.lookup x = some (n, m) → GlobOk X.prog X.w X.K X.mg B (gloM X T lams cv) (kk + 1) x n m)
    (F : ∀ (B : Heap) (cv : Nat → List V → Prop), CallC X.prog X.w X.K X.mg B (gloM X T lams cv) (kk + 1) (apM ms gs) → FG X.prog X.w X.K X.mg B (gloM X T lams cv) x kf n m)
    (hr : Room kf X.A) (hg : Gl (X.blk s3 H3 scope ce fp) x) (hm : X.mg x = some (.ref f)) (hk : PySem.W.keepIn X.K (.ref f) = true)
    (ha : PA (X.blk s3 H3 scope ce fp) (e :: es) (tMA (gloM X T lams fun _ vs => vs = []) E0' mr)) (hdb : (x == ("__debug__" : Str)) = false := by decide) (he : starEach (e :: es) ce = (false, eval e ce) :: starEach es ce := by rfl) (hpl : (backTo pos (starEach es ce)).any (·.1) = false := by rfl) :
    PE (X.blk s3 H3 scope ce fp) (.Call (.Name x p) (e :: es) [] pos) (fun σ8 H8 Q => L2.wipe σ8 own = L2.wipe σ own ∧ tM (gloM X T lams fun _ vs => vs = []) E0' (mCallCB n m ms own mr) σ8 H8 Q) := by
  refine ⟨fun pins1 s σ8 H Q I h => ?_⟩
  obtain ⟨hw8, ρ, S, Z, μ, r, er, af⟩ := h
  refine wpAny_Call_Name_kw (ld_glob I hg hm ?_ hdb)
  refine PySem.W.callWith_K (h₀ := X.base) I.ok.mod.kin hk (thn (ha.run pos pins1 s σ8 H (fun vs H1 => ∃ ws S1 Z1 μ1, Rel (gloM X T lams fun _ vs => vs = []) Z1 μ1 H1 S1 ∧ ER (gloM X T lams fun _ vs => vs = []) Z1 μ1 H1 ρ σ8 ∧ VRs (gloM X T lams fun _ vs => vs = []) Z1 μ1 H1 ws vs ∧ Aft (gloM X T lams fun _ vs => vs = []) E0' Z1 μ1 H1 (gCallC n m ms (wipeW ρ own) ws S1) (PQ (gloM X T lams fun _ vs => vs = []) Q)) I ?_) fun us s1 ⟨vs, H1, I1, rv, q⟩ => ⟨I1.kIn, ?_⟩) he hpl
  · exact ⟨ρ, S, Z, μ, r, er, Aft.imp (Aft.bind af) fun ws Z1 μ1 H1 S1 _ g1 r1 a1 vs hvs => ⟨ws, S1, Z1, μ1, r1, er.mono r g1, hvs, a1⟩⟩
  · obtain ⟨ws, S1, Z1, μ1, r1, er1, hvs, a1⟩ := q
    have e0 := env0_plusB I3 hfn hfp I1
    have C : CallC X.prog X.w X.K X.mg (baseP X s3) (gloM X T lams fun k vs => ∃ L, lams[k]? = some L ∧ CV (baseP X s3) X.env.cells L vs) (kk + 1) (apM ms gs) :=
      callC_of I3.ok.inj (fun k vs ⟨L, h1, h2⟩ L' h3 => by rw [h1] at h3; cases h3; exact h2) hlen (fun k L M h1 h2 => hl _ _ k L M h1 h2 I3.ok fun c P => tabB_keep fun b o h => baseP_base I3 h) (fun x n m h => hgl _ _ x n m h)
    obtain ⟨f', fd, ps, g1, _, Fn, hb, _, _⟩ := (F _ _ C).ex
    have ef := g1.symm.trans hm
    cases ef
    have er' : ∀ (j : Nat) (u : W), (wipeW ρ own)[j]? = some (some u) → ∃ v : V, σ[j]? = some (some v) ∧ VR (gloM X T lams fun _ vs => vs = []) Z1 μ1 H1 u v := fun j u hu => by
      obtain ⟨v, q1, q2⟩ := (er1.wipe own).at_ j u hu
      rw [hw8] at q1
      exact ⟨v, (L2.wipe_some q1).1, q2⟩
    have hsp : spM (gloM X T lams fun k vs => ∃ L, lams[k]? = some L ∧ CV (baseP X s3) X.env.cells L vs) n m vs H1 Q E0' := by
      unfold gCallC at a1
      split at a1
      case isFalse => exact a1.elim
      rename_i hn
      refine ⟨by rw [hvs.length]; exact hn, ?_⟩
      cases e1 : mapO (cvt ms (wipeW ρ own)) ws with
      | none => rw [e1] at a1; exact a1.elim
      | some us' =>
        rw [e1] at a1
        dsimp only at a1
        have fin : ∀ {Z' : Addr → Prop} {μ' : List Addr} {H' : Hp}, Grow Z1 [] H1 Z' μ' H' → Tabs T H' → Rel (gloM X T lams fun _ vs => vs = []) Z1 μ1 H' S1 ∧ Grow Z1 μ1 H1 Z1 μ1 H' := fun g hi => r1.extN (fun a o q ht => g.keep a o q (by simp) ht) g.th hi
        refine ⟨us', [], Z1, [], ⟨rfl, List.nodup_nil, fun a (h : a ∈ []) => (List.not_mem_nil h).elim, r1.zm, r1.inv, fun n a o h => by simp at h⟩, mapO_vr2 (G := gloM X T lams fun _ vs => vs = []) (fun w u v q1 q2 => cvt_ok2 I3 er' hcap w u v q1 q2) e1 hvs, ?_⟩
        cases e2 : m us' [] with
        | stuck => rw [e2] at a1; exact a1.elim
        | err c S' =>
          rw [e2] at a1
          exact fun Z' μ' H' g r' => a1 Z1 μ1 H' (fin g r'.inv).2 (fin g r'.inv).1
        | ok w S' =>
          rw [e2] at a1
          dsimp only at a1
          cases e3 : fz S' 6 w with
          | none => rw [e3] at a1; exact a1.elim
          | some w' =>
            rw [e3] at a1
            dsimp only at a1
            split at a1
            case isFalse => exact a1.elim
            rename_i hnc
            intro Z' μ' H' g r' v hw
            refine a1 Z1 μ1 H' (fin g r'.inv).2 (fin g r'.inv).1 v (VR.reG (G := gloM X T lams fun k vs => ∃ L, lams[k]? = some L ∧ CV (baseP X s3) X.env.cells L vs) (G' := gloM X T lams fun _ vs => vs = []) rfl rfl rfl hnc (fz_vr r' g.zk (fun a ha => ?_) 6 w w' v e3 hw))
            obtain ⟨e, rfl, fe⟩ := g.mu
            exact r1.fresh (fe a (by simpa using ha))
    have hl' : (us ++ [] : List Value).length = ps.length := by rw [List.append_nil, ← rv.length]; exact Fn.len _ _ _ _ hsp
    have hb' := hb s1 us I1.kIn hl'
    rw [List.append_nil] at hb'
    refine wpAny_call (codeAny_mono (Fn.run X.A X.stack s1 H1 ⟨us, []⟩ us vs Q E0' hr e0 hb' rv hsp) fun r s' hq => ?_)
    cases r with
    | error e => exact passL pins1 σ8 H1 s1 e s' I1 hq
    | ok fl =>
      cases fl with
      | ret u => exact I1.after hq
      | next => exact False.elim hq
      | brk => exact False.elim hq
      | cont => exact False.elim hq
/-- f(e, ..) in the maker's own frame -/
theorem em_callCF {kf kk n : Nat} {f : Addr} {x : Str} {p pos : Pos} {e : Expr} {es : List Expr} {mr : MA} {m : MD} (hfn : ∀ x, X.fn x = true) (hlen : lams.length = ms.length) (hcap : ∀ (k : Nat) (L : LamD) (M : LamM), lams[k]? = some L → ms[k]? = some M → Capt X L M)
    (hl : ∀ (B : Heap) (cv : Nat → List V → Prop) (k : Nat) (L : LamD) (M : LamM), lams[k]? = some L → ms[k]? = some M → X.Ok → (∀ (c P : Addr), LamX.TabB X.base X.mg c P → LamX.TabB B X.mg c P) → LamOk X.prog X.w X.K X.mg B (gloM X T lams cv) kk (X.env.qual ++ "<lambda>") X.env.cells L M)
    (hgl : ∀ (B : Heap) (cv : Nat → List V → Prop) (x : Str) (n : Nat) (m : MD), gs.lookup x = some (n, m) → GlobOk X.prog X.w X.K X.mg B (gloM X T lams cv) (kk + 1) x n m)
    (F : ∀ (B : Heap) (cv : Nat → List V → Prop), CallC X.prog X.w X.K X.mg B (gloM X T lams cv) (kk + 1) (apM ms gs) → FG X.prog X.w X.K X.mg B (gloM X T lams cv) x kf n m)
    (hr : Room kf X.A) (hg : Gl X x) (hm : X.mg x = some (.ref f)) (hk : PySem.W.keepIn X.K (.ref f) = true)
    (hx : Passes (L2.CX X.prog X.w) X E) (ha : PA X (e :: es) (tMA (gloM X T lams fun _ vs => vs = []) E mr)) (hdb : (x == ("__debug__" : Str)) = false := by decide) (he : starEach (e :: es) X.env = (false, eval e X.env) :: starEach es X.env := by rfl) (hpl : (backTo pos (starEach es X.env)).any (·.1) = false := by rfl) :
    PE X (.Call (.Name x p) (e :: es) [] pos) (tM (gloM X T lams fun _ vs => vs = []) E (mCallC n m ms mr)) := by
  refine ⟨fun pins s σ H Q I h => ?_⟩
  obtain ⟨ρ, S, Z, μ, r, er, af⟩ := h
  refine wpAny_Call_Name_kw (ld_glob I hg hm ?_ hdb)
  refine PySem.W.callWith_K (h₀ := X.base) I.ok.mod.kin hk (thn (ha.run pos pins s σ H (fun vs H1 => ∃ ws S1 Z1 μ1, Rel (gloM X T lams fun _ vs => vs = []) Z1 μ1 H1 S1 ∧ ER (gloM X T lams fun _ vs => vs = []) Z1 μ1 H1 ρ σ ∧ VRs (gloM X T lams fun _ vs => vs = []) Z1 μ1 H1 ws vs ∧ Aft (gloM X T lams fun _ vs => vs = []) E Z1 μ1 H1 (gCallC n m ms ρ ws S1) (PQ (gloM X T lams fun _ vs => vs = []) Q)) I ?_) fun us s1 ⟨vs, H1, I1, rv, q⟩ => ⟨I1.kIn, ?_⟩) he hpl
  · exact ⟨ρ, S, Z, μ, r, er, Aft.imp (Aft.bind af) fun ws Z1 μ1 H1 S1 _ g1 r1 a1 vs hvs => ⟨ws, S1, Z1, μ1, r1, er.mono r g1, hvs, a1⟩⟩
  · obtain ⟨ws, S1, Z1, μ1, r1, er1, hvs, a1⟩ := q
    have e0 := env0_plus I1 hfn
    have C : CallC X.prog X.w X.K X.mg (baseP X s1) (gloM X T lams fun k vs => ∃ L, lams[k]? = some L ∧ CV (baseP X s1) X.env.cells L vs) (kk + 1) (apM ms gs) :=
      callC_of I1.ok.inj (fun k vs ⟨L, h1, h2⟩ L' h3 => by rw [h1] at h3; cases h3; exact h2) hlen (fun k L M h1 h2 => hl _ _ k L M h1 h2 I1.ok fun c P => tabB_keep fun b o h => baseP_base I1 h) (fun x n m h => hgl _ _ x n m h)
    obtain ⟨f', fd, ps, g1, _, Fn, hb, _, _⟩ := (F _ _ C).ex
    have ef := g1.symm.trans hm
    cases ef
    have hsp : spM (gloM X T lams fun k vs => ∃ L, lams[k]? = some L ∧ CV (baseP X s1) X.env.cells L vs) n m vs H1 Q E := by
      unfold gCallC at a1
      split at a1
      case isFalse => exact a1.elim
      rename_i hn
      refine ⟨by rw [hvs.length]; exact hn, ?_⟩
      cases e1 : mapO (cvt ms ρ) ws with
      | none => rw [e1] at a1; exact a1.elim
      | some us' =>
        rw [e1] at a1
        dsimp only at a1
        have fin : ∀ {Z' : Addr → Prop} {μ' : List Addr} {H' : Hp}, Grow Z1 [] H1 Z' μ' H' → Tabs T H' → Rel (gloM X T lams fun _ vs => vs = []) Z1 μ1 H' S1 ∧ Grow Z1 μ1 H1 Z1 μ1 H' := fun g hi => r1.extN (fun a o q ht => g.keep a o q (by simp) ht) g.th hi
        refine ⟨us', [], Z1, [], ⟨rfl, List.nodup_nil, fun a (h : a ∈ []) => (List.not_mem_nil h).elim, r1.zm, r1.inv, fun n a o h => by simp at h⟩, mapO_vr2 (G := gloM X T lams fun _ vs => vs = []) (fun w u v q1 q2 => cvt_ok I1 er1 hcap w u v q1 q2) e1 hvs, ?_⟩
        cases e2 : m us' [] with
        | stuck => rw [e2] at a1; exact a1.elim
        | err c S' =>
          rw [e2] at a1
          exact fun Z' μ' H' g r' => a1 Z1 μ1 H' (fin g r'.inv).2 (fin g r'.inv).1
        | ok w S' =>
          rw [e2] at a1
          dsimp only at a1
          cases e3 : fz S' 6 w with
          | none => rw [e3] at a1; exact a1.elim
          | some w' =>
            rw [e3] at a1
            dsimp only at a1
            split at a1
            case isFalse => exact a1.elim
            rename_i hnc
            intro Z' μ' H' g r' v hw
            refine a1 Z1 μ1 H' (fin g r'.inv).2 (fin g r'.inv).1 v (VR.reG (G := gloM X T lams fun k vs => ∃ L, lams[k]? = some L ∧ CV (baseP X s1) X.env.cells L vs) (G' := gloM X T lams fun _ vs => vs = []) rfl rfl rfl hnc (fz_vr r' g.zk (fun a ha => ?_) 6 w w' v e3 hw))
            obtain ⟨e, rfl, fe⟩ := g.mu
            exact r1.fresh (fe a (by simpa using ha))
    have hl' : (us ++ [] : List Value).length = ps.length := by rw [List.append_nil, ← rv.length]; exact Fn.len _ _ _ _ hsp
    have hb' := hb s1 us I1.kIn hl'
    rw [List.append_nil] at hb'
    refine wpAny_call (codeAny_mono (Fn.run X.A X.stack s1 H1 ⟨us, []⟩ us vs Q E hr e0 hb' rv hsp) fun r s' hq => ?_)
    cases r with
    | error e => exact hx pins σ H1 s1 e s' I1 hq
    | ok fl =>
      cases fl with
      | ret u => exact I1.after hq
      | next => exact False.elim hq
      | brk => exact False.elim hq
      | cont => exact False.elim hq
end
end Mo

set_option Elab.async false
set_option linter.all false
set_option maxRecDepth 100000
set_option autoImplicit false
/-! Mon23: the head's facts for these rules. -/
namespace Mo
open PySem PySem.Spec L2
open PyProof.Rows hiding St
open LamX (CodeO TabS Tabs ExtN TabB)
/-- a class of the module that may be raised -/
structure XC (K : PySem.W.Frag) (mg : Str → Option Value) (x : Str) : Prop where
  at_ : mg x = some (.ref (He.ga K x))
  ein : PySem.W.excIn K (He.ga K x) He.veBase "ValueError.__new__" = true
  kp : PySem.W.keepIn K (.ref (He.ga K x)) = true
  sub : PySem.W.subIn K (.ref (He.ga K x)) (.type "BaseException") = some true
  ty : PySem.W.typeIn K (.ref (He.ga K x)) = some (.type "type")
section
variable {X : Cx} {G : Glo} {E : XK} {P : Program} {w : World} {K : PySem.W.Frag} {mg : Str → Option Value}
theorem sm_raiseX {x m : Str} {j : Nat} {p p2 pos pos' : Pos} (c : XC X.K X.mg x) (hG : G.mg = X.mg) (tk : Takes X (fun cls d _ H => E cls d H)) (hc : X.calm = true := by rfl) (hg : Gl X x := by rfl) (hdb : (x == ("__debug__" : Str)) = false := by decide) :
    PS X (.Raise (some (.Call (.Name x p) [.Constant (.str m) j p2] [] pos)) none pos') (tS G E (mRaise x)) :=
  sm_raise hc tk (fun _ _ _ _ h => h) (pmk_own PySem.F.excBase_ValueError c.ein c.at_ c.kp (raises_own c.sub c.ty) hg hdb) (by rw [hG]; exact c.at_)
theorem tk_of {base : Heap} {N : List Str} {qual : Str} {scope : Scope} {f : Addr} {cd : Value} {A : Around} {outer : List Env} {s : Shared} {H : Hp} : Takes (cxOf (L2.CX P w) P w K mg base N qual scope f cd A outer s H E) (fun cls d _ H => E cls d H) := takes_of rfl rfl rfl rfl
theorem pas_ncx {base : Heap} {N : List Str} {F : NdefX.NF} {f : Addr} {A : Around} {outer : List Env} {s : Shared} {H : Hp} : Passes (L2.CX P w) (NdefX.ncx (L2.CX P w) P w K mg base N F f A outer s H E) E :=
  passes_call (takes_of rfl rfl rfl rfl) fun _ _ _ _ h => h
end
/-! ### isinstance's facts, told by a Bool -/
def fndB (K : PySem.W.Frag) (C : Addr) (m : Str) (o : Option Value) : Bool := decide (PySem.W.findIn K (.ref C) m = some o)
def excCB (K : PySem.W.Frag) (D : Addr) : Bool :=
  fndB K D "__getattribute__" (some (.builtin "BaseException.__getattribute__")) && (fndB K D "__getattr__" none && (decide (PySem.W.subIn K (.ref D) (.type "BaseException") = some true) && (PySem.W.hasDictIn K D &&
    (fndB K D "__class__" (some (.builtin "object.__class__")) && (decide (PySem.W.specialIn K (.builtin "object.__class__") "__get__" = some (some (.builtin "getset_descriptor.__get__"))) && (decide (PySem.W.takesIn K (.builtin "object.__class__") = some true) && decide (PySem.W.mroIn K D (.type "object") = some true)))))))
theorem excCB_ok {K : PySem.W.Frag} {D : Addr} (h : excCB K D = true) : ExcC K D := by
  unfold excCB fndB at h
  simp only [Bool.and_eq_true, decide_eq_true_eq] at h
  exact ⟨h.1, h.2.1, h.2.2.1, h.2.2.2.1, h.2.2.2.2.1, h.2.2.2.2.2.1, h.2.2.2.2.2.2.1, h.2.2.2.2.2.2.2⟩
def extB (xs : List Str) (tb : Str → Str → Bool) (K : PySem.W.Frag) : Bool :=
  xs.all (fun c => excCB K (He.ga K c) && (decide (PySem.W.kitOne K (.ref (He.ga K c)) (.type "ValueError") = some true) && (decide (PySem.W.kitOne K (.type "NoneType") (.ref (He.ga K c)) = some false) && xs.all fun d => decide (PySem.W.kitOne K (.ref (He.ga K c)) (.ref (He.ga K d)) = some (tb c d))))) &&
    decide (PySem.W.kitOne K (.type "NoneType") (.type "ValueError") = some false)
theorem extB_ok {xs : List Str} {tb : Str → Str → Bool} {K : PySem.W.Frag} {mg : Str → Option Value} (h : extB xs tb K = true) (hm : ∀ c ∈ xs, mg c = some (.ref (He.ga K c))) : ExT K mg xs tb := by
  unfold extB at h
  simp only [Bool.and_eq_true, List.all_eq_true, decide_eq_true_eq] at h
  obtain ⟨h1, h2⟩ := h
  refine ⟨fun c hc C e => ?_, fun c hc d hd C D e1 e2 => ?_, fun d hd D e => ?_, h2⟩
  · rw [hm c hc] at e; cases e
    exact ⟨excCB_ok (h1 c hc).1, (h1 c hc).2.1⟩
  · rw [hm c hc] at e1; cases e1
    rw [hm d hd] at e2; cases e2
    exact (h1 c hc).2.2.2 d hd
  · rw [hm d hd] at e; cases e
    exact (h1 d hd).2.2.1
/-! ### the law's call -/
theorem law_sp {G : Glo} {m : MD} {H : Hp} {a : Addr} {ns : List Int} (hi : G.inv H) (hS : SqL G.K H a (ns.map V.int)) (h : m [.scr ns] [] = .ok (.bl true) []) : spM G 1 m [.ref a] H (fun v _ => v = .bl true) fun _ _ _ => False := by
  refine ⟨rfl, [.scr ns], [], fun _ => False, [], ⟨rfl, List.nodup_nil, fun a (h : a ∈ []) => (List.not_mem_nil h).elim, fun a h => h.elim, hi, fun n a o h => by simp at h⟩, VRs.cons ?_ VRs.nil, ?_⟩
  · unfold VR
    refine ⟨a, rfl, ?_⟩
    rcases hS with h1 | h1
    · exact .inl ⟨h1, fun z => z⟩
    · exact .inr fun H' => .inr h1
  · rw [h]
    intro Z' μ' H' g r' v hv
    exact vr_bl_of hv
theorem hCX0 {P : Program} {w : World} {H : Hp} {s : Shared} {e : Value} {s' : Shared} (h : L2.CX P w [] H s (fun _ _ _ => False) e s') : False := by
  obtain ⟨_, _, _, _, _, _, _, _, _, _, _, _, z⟩ := h
  exact z
end Mo

set_option Elab.async false
set_option linter.all false
set_option maxRecDepth 100000
set_option autoImplicit false
/-! Mon24: where a lambda stands; what its maker's frame tells of it. -/
namespace Mo
open PySem PySem.Spec L2
open PyProof.Rows hiding St
open LamX (CodeO TabS Tabs ExtN TabB)
def noS : Stmt := .Pass ⟨0, 0, 0, 0⟩
def noE : Expr := .Constant .none 0 ⟨0, 0, 0, 0⟩
def sB (st : Stmt) (i : Nat) : Stmt := (match st with
  | .For _ _ b _ _ => b
  | .If _ b _ _ => b
  | .While _ b _ _ => b
  | _ => []).getD i noS
def sO (st : Stmt) (i : Nat) : Stmt := (match st with
  | .If _ _ b _ => b
  | _ => []).getD i noS
def sV (st : Stmt) : Expr := match st with
  | .Assign _ v _ => v
  | .Return (some v) _ => v
  | .Expr v _ => v
  | _ => noE
def sT (st : Stmt) : Expr := match st with
  | .If t _ _ _ => t
  | .While t _ _ _ => t
  | .For _ t _ _ _ => t
  | _ => noE
def eC (e : Expr) (i : Nat) : Expr := match e with
  | .List es _ => es.getD i noE
  | .Call _ es _ _ => es.getD i noE
  | .Tuple es _ _ => es.getD i noE
  | .BoolOp _ es _ => es.getD i noE
  | .UnaryOp _ a _ => a
  | .Compare a _ es _ => (a :: es).getD i noE
  | .BinOp a _ b _ => [a, b].getD i noE
  | .IfExp t a b _ => [t, a, b].getD i noE
  | _ => noE
def laP : Expr → Arguments → Arguments
  | .Lambda a _ _ _, _ => a
  | _, a => a
def laB : Expr → Expr
  | .Lambda _ b _ _ => b
  | e => e
def laS : Expr → Scope → Scope
  | .Lambda _ _ s _, _ => s
  | _, s => s
theorem lookup1 {β : Type} {g x : Str} {p q : β} (h : [(g, p)].lookup x = some q) : x = g ∧ p = q := by
  unfold List.lookup at h
  cases e : x == g with
  | true => rw [e] at h; cases h; exact ⟨beq_iff_eq.mp e, rfl⟩
  | false => rw [e] at h; cases h
theorem Df.kp {K : PySem.W.Frag} {mg : Str → Option Value} {d : He.DefD} (D : Df K mg d) : PySem.W.keepIn K (.ref (He.fAd K d.at_)) = true := D.ex.elim fun _ F => F.kp
theorem Df.fgs {P : Program} {w : World} {K : PySem.W.Frag} {mg : Str → Option Value} {base : Heap} {G : Glo} {d : He.DefD} {ps : List Str} {k : Nat} (D : Df K mg d) (hb : ∀ (kV doc pm : Value) (an : Option Addr) (cdv ct : Value) (us : List Value), us.length = ps.length → bindArgs (PySem.W.fnOf d.name d.qual d.params d.body d.scope .none kV doc pm an cdv ct) ⟨us, []⟩ = pure (ps.zip us)) :
    FG P w K mg base G d.name k ps.length (fun _ _ => .stuck) := by
  obtain ⟨fd, F⟩ := D.ex
  have e := F.ex
  obtain ⟨oc, od, dV, kV, doc, pm, an, cdv, ct, osl, efd, lk, _⟩ := e
  exact ⟨_, fd, ps, D.at_, rfl, fn_stuck, F.bindsN hb, F.kp, oc, od, osl, lk⟩
section
variable {P : Program} {w : World} {K : PySem.W.Frag} {mg : Str → Option Value} {base : Heap} {G : Glo} {d : He.DefD} {N ps : List Str} {k : Nat} {mb : MS} {T : List (Addr × Str)} {lams lams' : List LamD} {q : Str} {cells : List (Str × Addr)} {cv : Nat → List V → Prop} {fd : FuncData}
theorem fgFn (F : FunD K d.name d.qual d.params d.body d.scope [] [] (He.fAd K d.at_) fd) (S : FnScope N ps d.scope)
    (hbody : ∀ (cdv : Value) (A : Around) (outer : List Env) (s : Shared) (H : Hp) (E : XK), Room k (A.deeper (envOfC d.qual d.scope s.heap.objs.size (He.fAd K d.at_) cdv)) → PSs (cxOf (L2.CX P w) P w K mg base N d.qual d.scope (He.fAd K d.at_) cdv A outer s H E) d.body (tS G E mb)) :
    FnOk P w K mg base (L2.CX P w) (k + 1) (He.fAd K d.at_) fd ps (spM G ps.length (mDef N.length mb)) := fn_ok F S hbody
theorem mkFn (F : FunD K d.name d.qual d.params d.body d.scope [] [] (He.fAd K d.at_) fd) (S : FnScope N ps d.scope)
    (hbody : ∀ (A : Around) (outer : List Env) (s : Shared) (H : Hp) (E : XK), Room k (A.deeper (envOfC d.qual d.scope s.heap.objs.size (He.fAd K d.at_) (.ref (He.cT K d.at_).1))) →
      PSs (cxOf (L2.CX P w) P w K mg base N d.qual d.scope (He.fAd K d.at_) (.ref (He.cT K d.at_).1) A outer s H E) d.body (tS (gloM (cxOf (L2.CX P w) P w K mg base N d.qual d.scope (He.fAd K d.at_) (.ref (He.cT K d.at_).1) A outer s H E) T lams fun _ vs => vs = []) E mb)) :
    FnOk P w K mg base (L2.CX P w) (k + 1) (He.fAd K d.at_) fd ps (spM (glo K mg T q lams' cells cv) ps.length (mkM N.length mb)) := by
  have e := F.ex
  obtain ⟨oc, od, dV, kV, doc, pm, an, cdv, ct, osl, efd, lk, _⟩ := e
  refine fn_mk (lams := lams) F S fun c A outer s H E ec hr => ?_
  have e2 : (He.cT K d.at_).1 = c := He.codeOf_eq lk ec
  rw [← e2] at hr ⊢
  exact hbody A outer s H E hr
theorem df_of {h : Heap} {fa : List He.Fa} {fn : List He.DefD} (X : K.In h) (G : h.Ns mainGlobals mg) (c : He.SaysD fa fn K) (hd : d ∈ fn) (hf : He.Fa.glo d.name ∈ fa) (h1 : d.at_ = (d.name, none)) (h2 : d.dfl = []) (h3 : d.kwd = []) : Df K mg d := by
  obtain ⟨fd, F⟩ := c.defs hd
  have e1 : d.dvs K = [] := by unfold He.DefD.dvs; rw [h2]; rfl
  have e2 : d.kws K = [] := by unfold He.DefD.kws; rw [h3]; rfl
  rw [e1, e2] at F
  refine ⟨?_, fd, F⟩
  rw [h1]
  exact He.glo_ok X G (c.facts hf)
theorem xc_of {h : Heap} {fa : List He.Fa} {fn : List He.DefD} {x : Str} (X : K.In h) (G : h.Ns mainGlobals mg) (c : He.SaysD fa fn K) (h1 : He.Fa.glo x ∈ fa) (h2 : He.Fa.exc x ∈ fa) : XC K mg x := by
  obtain ⟨k1, k2, k3, k4⟩ := He.exc_ok (c.facts h2)
  exact ⟨He.glo_ok X G (c.facts h1), k1, k2, k3, k4⟩
end
section
variable {X : Cx}
theorem capt_of {L : LamD} {M : LamM} (hj : M.js = L.js) (hl : L.js.length = L.fr.length) (h : ∀ p ∈ L.fr.zip L.js, X.N[p.2]? = some p.1 ∧ X.env.scope.names.lookup p.1 = some .cell) : Capt X L M := by
  refine ⟨hj, hl, fun i y hy => ?_⟩
  have hi : i < L.js.length := by rw [hl]; exact (List.getElem?_eq_some_iff.mp hy).1
  have hz : (L.fr.zip L.js)[i]? = some (y, L.js[i]) := by
    rw [List.getElem?_zip_eq_some]
    exact ⟨hy, List.getElem?_eq_getElem hi⟩
  obtain ⟨h1, h2⟩ := h _ (List.mem_of_getElem? hz)
  exact ⟨L.js[i], List.getElem?_eq_getElem hi, h1, h2⟩
end
end Mo

set_option Elab.async false
set_option linter.all false
set_option maxRecDepth 100000
set_option autoImplicit false
/-! Mon25: plain laws: loops, calls. -/
namespace Mo
open PySem PySem.Spec L2
theorem for_inv {g : MG} {body : MS} {wi : Its'} (hw : wi.at_ = none) (Iv : Nat → Env' → Sto → Prop) : ∀ (ws : List W) (k : Nat) (ρ : Env') (S : Sto), Iv k ρ S →
    (∀ (j : Nat) (w : W) (ρ : Env') (S : Sto), ws[j]? = some w → Iv (k + j) ρ S → ∃ ρ1 ρ2 S2, g w ρ = some ρ1 ∧ body ρ1 S = .ok (.nx ρ2) S2 ∧ Iv (k + j + 1) ρ2 S2) → ∃ ρ' S', forGo g body wi ws ρ S = .ok (.nx ρ') S' ∧ Iv (k + ws.length) ρ' S'
  | [], k, ρ, S, h, _ => ⟨ρ, S, by unfold forGo Its'.stays; rw [hw]; rfl, h⟩
  | w :: ws, k, ρ, S, h, step => by
    obtain ⟨ρ1, ρ2, S2, e1, e2, h2⟩ := step 0 w ρ S rfl h
    obtain ⟨ρ', S', e3, h3⟩ := for_inv hw Iv ws (k + 1) ρ2 S2 h2 fun j w ρ S hj hi => by
      have := step (j + 1) w ρ S (by simpa using hj) (by rw [← Nat.add_assoc, Nat.add_right_comm]; exact hi)
      rw [← Nat.add_assoc, Nat.add_right_comm k j 1] at this
      exact this
    refine ⟨ρ', S', ?_, by rw [List.length_cons, Nat.add_comm ws.length 1, ← Nat.add_assoc]; exact h3⟩
    unfold forGo
    have st : wi.stays S = true := by unfold Its'.stays; rw [hw]
    rw [st, if_pos rfl, e1]
    dsimp only
    rw [e2]
    exact e3
theorem rng_inv {g : MG} {body : MS} {r : MA} {ρ : Env'} {S : Sto} {n : Nat} (Iv : Nat → Env' → Sto → Prop) (hr : r ρ S = .ok [.int n] S) (hn : n < 100000) (h0 : Iv 0 ρ S)
    (step : ∀ (j : Nat) (ρ : Env') (S : Sto), j < n → Iv j ρ S → ∃ ρ1 ρ2 S2, g (.int j) ρ = some ρ1 ∧ body ρ1 S = .ok (.nx ρ2) S2 ∧ Iv (j + 1) ρ2 S2) : ∃ ρ' S', mFor (mRng1 r) g body ρ S = .ok (.nx ρ') S' ∧ Iv n ρ' S' := by
  have hl := rangeW_len n 0
  obtain ⟨ρ', S', e, h⟩ := for_inv (g := g) (body := body) (wi := ⟨rangeW 0 n, none⟩) rfl Iv (rangeW 0 n) 0 ρ S h0 fun j w ρ S hj hi => by
    obtain ⟨rfl, hlt⟩ := rangeW_get n 0 j w hj
    rw [Nat.zero_add] at hi ⊢
    rw [Int.zero_add]
    exact step j ρ S hlt hi
  rw [hl, Nat.zero_add] at h
  refine ⟨ρ', S', ?_, h⟩
  unfold mFor mRng1
  rw [hr]
  rw [R.bind_ok]
  dsimp only
  rw [if_pos ⟨by omega, by omega⟩, Int.toNat_natCast, R.bind_ok]
  exact e
theorem lc_go {g : MG} {me : ME} {ρ : Env'} {wi : Its'} {S : Sto} (hw : wi.at_ = none) : ∀ (ws us : List W), ws.length = us.length → (∀ (j : Nat) (w : W), ws[j]? = some w → ∃ ρ1 u, g w ρ = some ρ1 ∧ me ρ1 S = .ok u S ∧ us[j]? = some u) → lcGo g tYesM me ρ wi ws S = .ok us S
  | [], us, hl, _ => by
    have : us = [] := List.eq_nil_of_length_eq_zero (by simpa using hl.symm)
    subst this
    unfold lcGo Its'.stays
    rw [hw]; rfl
  | w :: ws, [], hl, _ => by simp at hl
  | w :: ws, u :: us, hl, h => by
    obtain ⟨ρ1, u', e1, e2, e3⟩ := h 0 w rfl
    cases e3
    have ih := lc_go (g := g) (me := me) (ρ := ρ) (wi := wi) (S := S) hw ws us (by simpa using hl) fun j w hj => by simpa using h (j + 1) w (by simpa using hj)
    unfold lcGo
    have st : wi.stays S = true := by unfold Its'.stays; rw [hw]
    rw [st, if_pos rfl, e1]
    dsimp only
    show R.bind (R.ok true S) _ = _
    rw [R.bind_ok]
    dsimp only
    rw [e2, R.bind_ok, ih, R.bind_ok]
theorem lc_rng {g : MG} {me : ME} {r : MA} {ρ : Env'} {S : Sto} {own : List Nat} {n : Nat} (us : List W) (hr : r ρ S = .ok [.int n] S) (hn : n < 100000) (hl : us.length = n) (h : ∀ j : Nat, j < n → ∃ ρ1 u, g (.int j) (wipeW ρ own) = some ρ1 ∧ me ρ1 S = .ok u S ∧ us[j]? = some u) :
    mLc (mRng1 r) own g tYesM me ρ S = .ok (.lst us) S := by
  have hl2 := rangeW_len n 0
  have e := lc_go (g := g) (me := me) (ρ := wipeW ρ own) (wi := ⟨rangeW 0 n, none⟩) (S := S) rfl (rangeW 0 n) us (by rw [hl2, hl]) fun j w hj => by
    obtain ⟨rfl, hlt⟩ := rangeW_get n 0 j w hj
    rw [Int.zero_add]
    exact h j hlt
  unfold mLc mLcI mRng1
  rw [hr, R.bind_ok]
  dsimp only
  rw [if_pos ⟨by omega, by omega⟩, Int.toNat_natCast, R.bind_ok]
  dsimp only
  rw [if_pos (by rw [hl2]; omega), e]
  rfl
theorem gPure_nr {n : Nat} {m : MD} {ws : List W} {S S' : Sto} {w : W} (h : m ws [] = .ok w S') (hl : ws.length = n) (hn : nrs ws = true) (hw : w.nr = true) : gPure n m ws S = .ok w S := by
  unfold gPure
  rw [if_pos hl, fz_nr hn]
  dsimp only
  rw [h]
  dsimp only
  have e : fz S' 6 w = some w := by unfold fz; rw [if_pos hw]
  rw [e]
  dsimp only
  rw [hn]
  rfl
theorem gPure_err {n : Nat} {m : MD} {ws : List W} {S S' : Sto} {c : Str} (h : m ws [] = .err c S') (hl : ws.length = n) (hn : nrs ws = true) : gPure n m ws S = .err c S := by
  unfold gPure
  rw [if_pos hl, fz_nr hn]
  dsimp only
  rw [h]
end Mo

set_option Elab.async false
set_option linter.all false
set_option maxRecDepth 100000
set_option autoImplicit false
/-! Mon26: plain readings: typed values, expressions by equations, statements by wishes. -/
namespace Mo
open PySem PySem.Spec L2

/-! ### typed values -/
section
variable {α β γ : Type}
def eT (e : α → W) (xs : List α) : W := .tup (xs.map e)
def eL (e : α → W) (xs : List α) : W := .lst (xs.map e)
def eP (e : α → W) (f : β → W) (p : α × β) : W := .tup [e p.1, f p.2]
/-- what zip and enumerate hand out -/
def eI (e : α → W) (f : β → W) (p : α × β) : W := .itm [e p.1, f p.2]
def eO (e : α → W) : Option α → W
  | none => .non
  | some a => e a
def eU (_ : Unit) : W := .non
class Fro {α : Type} (e : α → W) : Prop where
  nr : ∀ a, (e a).nr = true
  nc : ∀ a, (e a).nc = true
theorem nrs_map {e : α → W} (h : ∀ a, (e a).nr = true) : ∀ xs : List α, nrs (xs.map e) = true
  | [] => rfl
  | x :: xs => by
    rw [List.map_cons]
    unfold nrs
    rw [h x, nrs_map h xs]; rfl
theorem ncs_map {e : α → W} (h : ∀ a, (e a).nc = true) : ∀ xs : List α, ncs (xs.map e) = true
  | [] => rfl
  | x :: xs => by
    rw [List.map_cons]
    unfold ncs
    rw [h x, ncs_map h xs]; rfl
instance : Fro W.int := ⟨fun _ => rfl, fun _ => rfl⟩
instance : Fro W.bl := ⟨fun _ => rfl, fun _ => rfl⟩
instance : Fro W.str := ⟨fun _ => rfl, fun _ => rfl⟩
instance : Fro eU := ⟨fun _ => rfl, fun _ => rfl⟩
instance {e : α → W} [h : Fro e] : Fro (eT e) := ⟨fun xs => by unfold eT W.nr; exact nrs_map h.nr xs, fun xs => by unfold eT W.nc; exact ncs_map h.nc xs⟩
instance {e : α → W} [h : Fro e] : Fro (eL e) := ⟨fun xs => by unfold eL W.nr; exact nrs_map h.nr xs, fun xs => by unfold eL W.nc; exact ncs_map h.nc xs⟩
instance {e : α → W} {f : β → W} [h : Fro e] [k : Fro f] : Fro (eP e f) := ⟨fun p => by simp [eP, W.nr, nrs, h.nr, k.nr], fun p => by simp [eP, W.nc, ncs, h.nc, k.nc]⟩
instance {e : α → W} [h : Fro e] : Fro (eO e) := ⟨fun p => by cases p <;> simp [eO, W.nr, h.nr], fun p => by cases p <;> simp [eO, W.nc, h.nc]⟩
theorem nrs_nil : nrs [] = true := rfl
theorem nrs_cons {w : W} {ws : List W} (h : w.nr = true) (k : nrs ws = true) : nrs (w :: ws) = true := by unfold nrs; rw [h, k]; rfl

/-- data: what == tells -/
class Dat {α : Type} (e : α → W) where
  d : α → PyData
  k : Nat
  data : ∀ a, (e a).data = some (d a)
  can : ∀ a, (d a).canLay0 = true
  dep : ∀ a, (d a).depth ≤ k
  eqv : ∀ a b, PyData.eqv (d a) (d b) = true ↔ a = b
theorem datas_map {e : α → W} {d : α → PyData} (h : ∀ a, (e a).data = some (d a)) : ∀ xs : List α, datas (xs.map e) = some (xs.map d)
  | [] => rfl
  | x :: xs => by
    rw [List.map_cons]
    unfold datas
    rw [h x, datas_map h xs]; rfl
theorem can_map {d : α → PyData} (h : ∀ a, (d a).canLay0 = true) : ∀ xs : List α, PyData.canLayAll0 (xs.map d) = true
  | [] => by simp [PyData.canLayAll0]
  | x :: xs => by simp [PyData.canLayAll0, h x, can_map h xs]
theorem dep_map {d : α → PyData} {k : Nat} (h : ∀ a, (d a).depth ≤ k) : ∀ xs : List α, PyData.depthAll (xs.map d) ≤ k
  | [] => by simp [PyData.depthAll]
  | x :: xs => by simp [PyData.depthAll, h x, dep_map h xs, Nat.max_le]
theorem eqv_map {d : α → PyData} (h : ∀ a b, PyData.eqv (d a) (d b) = true ↔ a = b) : ∀ xs ys : List α, PyData.eqvAll (xs.map d) (ys.map d) = true ↔ xs = ys
  | [], [] => by simp [PyData.eqvAll]
  | [], _ :: _ => by simp [PyData.eqvAll]
  | _ :: _, [] => by simp [PyData.eqvAll]
  | x :: xs, y :: ys => by simp [PyData.eqvAll, h x y, eqv_map h xs ys]
instance : Dat W.int := ⟨.int, 0, fun _ => rfl, fun _ => by simp [PyData.canLay0], fun _ => by simp [PyData.depth], fun a b => by simp [PyData.eqv]⟩
instance : Dat W.bl := ⟨.bool, 0, fun _ => rfl, fun _ => by simp [PyData.canLay0], fun _ => by simp [PyData.depth], fun a b => by simp [PyData.eqv]⟩
instance {e : α → W} [h : Dat e] : Dat (eT e) := ⟨fun xs => .tuple (xs.map h.d), h.k + 1, fun xs => by simp only [eT, W.data, datas_map h.data], fun xs => by simp [PyData.canLay0, can_map h.can],
  fun xs => by simp [PyData.depth, dep_map h.dep], fun xs ys => by simp [PyData.eqv, eqv_map h.eqv]⟩
instance {e : α → W} [h : Dat e] : Dat (eL e) := ⟨fun xs => .list (xs.map h.d), h.k + 1, fun xs => by simp only [eL, W.data, datas_map h.data], fun xs => by simp [PyData.canLay0, can_map h.can],
  fun xs => by simp [PyData.depth, dep_map h.dep], fun xs ys => by simp [PyData.eqv, eqv_map h.eqv]⟩
instance {e : α → W} {f : β → W} [h : Dat e] [k : Dat f] : Dat (eP e f) := ⟨fun p => .tuple [h.d p.1, k.d p.2], max h.k k.k + 1, fun p => by simp only [eP, W.data, datas, h.data, k.data],
  fun p => by simp [PyData.canLay0, PyData.canLayAll0, h.can, k.can], fun p => by
    have h1 := h.dep p.1
    have h2 := k.dep p.2
    simp [PyData.depth, PyData.depthAll]
    omega, fun p q => by simp [PyData.eqv, PyData.eqvAll, h.eqv, k.eqv, Prod.ext_iff]⟩
theorem dataS_of {S : Sto} {w : W} {d : PyData} (h : w.data = some d) : dataS S w = some d := by
  cases w <;> first | exact h | (unfold W.data at h; cases h)
theorem eqD_dat {e : α → W} [h : Dat e] (hk : h.k ≤ 64) [DecidableEq α] (a b : α) (S : Sto) : eqD (e a) (e b) S = some (decide (a = b)) := by
  have s : ∀ x, SeqAt.shaped (h.d x) = true := fun x => by
    unfold SeqAt.shaped
    rw [h.can x, decide_eq_true (Nat.le_trans (h.dep x) hk)]; rfl
  unfold eqD
  rw [dataS_of (h.data a), dataS_of (h.data b)]
  dsimp only
  rw [s a, s b]
  show some (PyData.eqv (h.d a) (h.d b)) = _
  congr 1
  have := h.eqv a b
  cases q : PyData.eqv (h.d a) (h.d b)
  · exact (decide_eq_false fun z => by rw [this.mpr z] at q; cases q).symm
  · exact (decide_eq_true (this.mp q)).symm
theorem eq_dat {e : α → W} [h : Dat e] [DecidableEq α] (a b : α) (S : Sto) (hk : h.k ≤ 64 := by decide) : eqW (e a) (e b) S = .ok (.bl (decide (a = b))) S := by
  unfold eqW; rw [eqD_dat hk]
theorem ne_dat {e : α → W} [h : Dat e] [DecidableEq α] (a b : α) (S : Sto) (hk : h.k ≤ 64 := by decide) : neW (e a) (e b) S = .ok (.bl (!decide (a = b))) S := by
  unfold neW; rw [eqD_dat hk]
end

/-! ### expressions by equations -/
section
variable {a b c : ME} {t u : MT} {r : MA} {ρ : Env'} {S S1 S2 S3 : Sto} {x y z w : W} {ws : List W}
theorem q_bin {f : W → W → Sto → R W} (ha : a ρ S = .ok x S1) (hb : b ρ S1 = .ok y S2) (hf : f x y S2 = .ok z S3) : mBin f a b ρ S = .ok z S3 := by
  unfold mBin; rw [ha, R.bind_ok, hb, R.bind_ok, hf]
theorem q_un {f : W → Sto → R W} (ha : a ρ S = .ok x S1) (hf : f x S1 = .ok z S2) : mUn f a ρ S = .ok z S2 := by
  unfold mUn; rw [ha, R.bind_ok, hf]
theorem q_nil : mNil ρ S = .ok [] S := rfl
theorem q_cons (ha : a ρ S = .ok x S1) (hr : r ρ S1 = .ok ws S2) : mCons a r ρ S = .ok (x :: ws) S2 := by
  unfold mCons; rw [ha, R.bind_ok, hr, R.bind_ok]
theorem q_ap {f : List W → Sto → R W} (hr : r ρ S = .ok ws S1) (hf : f ws S1 = .ok w S2) : mAp f r ρ S = .ok w S2 := by
  unfold mAp; rw [hr, R.bind_ok, hf]
theorem q_isT {k : Bool} (ha : a ρ S = .ok (.bl k) S1) : mIsT a ρ S = .ok k S1 := by
  unfold mIsT; rw [ha, R.bind_ok]
theorem q_notT {k : Bool} (ha : t ρ S = .ok k S1) : mNotT t ρ S = .ok (!k) S1 := by
  unfold mNotT; rw [ha, R.bind_ok]
theorem q_andT {k l : Bool} (ha : t ρ S = .ok k S) (hb : k = true → u ρ S = .ok l S) : mAndT t u ρ S = .ok (k && l) S := by
  unfold mAndT; rw [ha, R.bind_ok]
  cases k
  · rfl
  · exact hb rfl
theorem q_orT {k l : Bool} (ha : t ρ S = .ok k S) (hb : k = false → u ρ S = .ok l S) : mOrT t u ρ S = .ok (k || l) S := by
  unfold mOrT; rw [ha, R.bind_ok]
  cases k
  · exact hb rfl
  · rfl
theorem q_and {k l : Bool} (ha : a ρ S = .ok (.bl k) S) (hb : k = true → b ρ S = .ok (.bl l) S) : mAnd a b ρ S = .ok (.bl (k && l)) S := by
  unfold mAnd; rw [ha, R.bind_ok]
  cases k
  · rfl
  · exact hb rfl
theorem q_or {k l : Bool} (ha : a ρ S = .ok (.bl k) S) (hb : k = false → b ρ S = .ok (.bl l) S) : mOr a b ρ S = .ok (.bl (k || l)) S := by
  unfold mOr; rw [ha, R.bind_ok]
  cases k
  · exact hb rfl
  · rfl
theorem q_not {k : Bool} (ha : a ρ S = .ok (.bl k) S1) : mNot a ρ S = .ok (.bl (!k)) S1 := by
  unfold mNot; rw [ha, R.bind_ok]
theorem q_if {α : Type} {d : α → W} {k : Bool} {p q : α} (ht : t ρ S = .ok k S) (ha : k = true → a ρ S = .ok (d p) S) (hb : k = false → b ρ S = .ok (d q) S) : mIf t a b ρ S = .ok (d (if k then p else q)) S := by
  unfold mIf; rw [ht, R.bind_ok]
  cases k
  · exact hb rfl
  · exact ha rfl
theorem q_chain {f g : W → W → Sto → R W} {k l : Bool} (ha : a ρ S = .ok x S) (hb : b ρ S = .ok y S) (hf : f x y S = .ok (.bl k) S) (hc : k = true → c ρ S = .ok z S) (hg : k = true → g y z S = .ok (.bl l) S) : mChain f g a b c ρ S = .ok (.bl (k && l)) S := by
  unfold mChain; rw [ha, R.bind_ok, hb, R.bind_ok, hf, R.bind_ok]
  cases k
  · rfl
  · dsimp only; rw [hc rfl, R.bind_ok, hg rfl]; rfl
end

/-! ### operations on typed values -/
section
variable {α β γ : Type} {S : Sto}
theorem f_mul {i j : Int} (h : small i = true ∨ small j = true) : mulW (.int i) (.int j) S = .ok (.int (i * j)) S := by
  unfold mulW; dsimp only; rw [if_pos (by rcases h with h | h <;> simp [h])]
theorem f_mod {i j : Int} (h : j ≠ 0) : modW (.int i) (.int j) S = .ok (.int (i.fmod j)) S := by
  unfold modW; dsimp only; rw [if_pos h]
theorem log_small {j : Int} (h : j.natAbs < 1073741824) : j.natAbs.log2 < 9000 := by
  by_cases h0 : j.natAbs = 0
  · rw [h0]; decide +kernel
  · have h30 : j.natAbs.log2 < 30 := (Nat.log2_lt h0).mpr h
    omega
theorem f_divL {i j : Int} (h : j ≠ 0 ∧ j.natAbs.log2 < 9000) : fdivW (.int i) (.int j) S = .ok (.int (i.fdiv j)) S := by
  unfold fdivW; dsimp only; rw [if_pos (by simp [h])]
theorem f_div {i j : Int} (h : j ≠ 0 ∧ j.natAbs < 1073741824) : fdivW (.int i) (.int j) S = .ok (.int (i.fdiv j)) S := f_divL ⟨h.1, log_small h.2⟩
theorem f_mulX {i j : Int} (h : i.natAbs.log2 + j.natAbs.log2 < 1000000) : mulW (.int i) (.int j) S = .ok (.int (i * j)) S := by
  unfold mulW; dsimp only; rw [if_pos (by simp [h])]
theorem f_addT {e : α → W} {xs ys : List α} (h : xs.length + ys.length ≤ 100000) : addW (eT e xs) (eT e ys) S = .ok (eT e (xs ++ ys)) S := by
  unfold addW eT; dsimp only; rw [if_pos (by simpa using h), List.map_append]
theorem f_addL {e : α → W} {xs ys : List α} (h : xs.length + ys.length ≤ 100000) : addW (eL e xs) (eL e ys) S = .ok (eL e (xs ++ ys)) S := by
  unfold addW eL; dsimp only; rw [if_pos (by simpa using h), List.map_append]
theorem repL_map {e : α → W} {k : Nat} {xs : List α} : repL k (xs.map e) = (repL k xs).map e := by
  unfold repL; simp
theorem f_mulL {e : α → W} {xs : List α} {k : Int} (h : -100000 < k ∧ k < 100000 ∧ xs.length * k.toNat ≤ 100000) : mulW (eL e xs) (.int k) S = .ok (eL e (repL k.toNat xs)) S := by
  unfold mulW eL; dsimp only; rw [if_pos (by simp; exact ⟨⟨h.1, h.2.1⟩, h.2.2⟩), repL_map]
theorem f_mulT {e : α → W} {xs : List α} {k : Int} (h : -1000 ≤ k ∧ k ≤ 1000 ∧ xs.length ≤ 1000) : mulW (eT e xs) (.int k) S = .ok (eT e (repL k.toNat xs)) S := by
  unfold mulW eT; dsimp only; rw [if_pos (by simp; exact ⟨⟨h.1, h.2.1⟩, h.2.2⟩), repL_map]
theorem f_len {ws : List W} : lenW [.tup ws] S = .ok (.int ws.length) S := rfl
theorem f_lenT {e : α → W} {xs : List α} : lenW [eT e xs] S = .ok (.int xs.length) S := by
  unfold lenW eT; dsimp only; rw [List.length_map]
theorem f_lenL {e : α → W} {xs : List α} : lenW [eL e xs] S = .ok (.int xs.length) S := by
  unfold lenW eL itemsL; dsimp only; rw [List.length_map]
/-- x[i], i from 0 on -/
def gI [Inhabited α] (xs : List α) (i : Int) : α := xs.getD i.toNat default
theorem atI_natE {ws : List W} {j : Nat} (h : j < ws.length) : L2.atI ws (j : Int) = ws[j]? := by
  unfold L2.atI L2.ixN
  simp [h]
theorem atI_map [Inhabited α] {e : α → W} {xs : List α} {i : Int} (h : 0 ≤ i ∧ i < xs.length) : L2.atI (xs.map e) i = some (e (gI xs i)) := by
  have h1 : i.toNat < xs.length := by omega
  have e1 : (i.toNat : Int) = i := Int.toNat_of_nonneg h.1
  have e2 : L2.atI (xs.map e) i = (xs.map e)[i.toNat]? := by
    rw [show L2.atI (xs.map e) i = L2.atI (xs.map e) (i.toNat : Int) by rw [e1], atI_natE (by simpa using h1)]
  rw [e2]
  unfold gI
  rw [List.getElem?_map, List.getD_eq_getElem?_getD, List.getElem?_eq_getElem h1]
  rfl
theorem f_idxT [Inhabited α] {e : α → W} {xs : List α} {i : Int} (h : 0 ≤ i ∧ i < xs.length) : idxW (eT e xs) (.int i) S = .ok (e (gI xs i)) S := by
  unfold idxW eT; dsimp only; rw [atI_map h]
theorem f_idxL [Inhabited α] {e : α → W} {xs : List α} {i : Int} (h : 0 ≤ i ∧ i < xs.length) : idxW (eL e xs) (.int i) S = .ok (e (gI xs i)) S := by
  unfold idxW eL itemsL; dsimp only; rw [atI_map h]
theorem f_fst {e : α → W} {f : β → W} {p : α × β} : idxW (eP e f p) (.int 0) S = .ok (e p.1) S := rfl
theorem f_snd {e : α → W} {f : β → W} {p : α × β} : idxW (eP e f p) (.int 1) S = .ok (f p.2) S := rfl
theorem bools_map : ∀ xs : List Bool, bools (xs.map W.bl) = some xs
  | [] => rfl
  | x :: xs => by rw [List.map_cons]; unfold bools; rw [bools_map xs]
theorem intsW_map : ∀ xs : List Int, intsW (xs.map W.int) = some xs
  | [] => rfl
  | x :: xs => by rw [List.map_cons]; unfold intsW; rw [intsW_map xs]
theorem f_all {xs : List Bool} : allW [eL W.bl xs] S = .ok (.bl (xs.all id)) S := by
  unfold allW onList eL itemsL; dsimp only; rw [bools_map]
theorem f_any {xs : List Bool} : anyW [eL W.bl xs] S = .ok (.bl (xs.any id)) S := by
  unfold anyW onList eL itemsL; dsimp only; rw [bools_map]
theorem f_sum {xs : List Int} : sumW [eL W.int xs] S = .ok (.int xs.sum) S := by
  unfold sumW onList eL itemsL; dsimp only; rw [intsW_map]
theorem f_max {xs : List Int} (h : xs ≠ []) : maxW [eL W.int xs] S = .ok (.int (maxI xs)) S := by
  unfold maxW onList eL itemsL nonempty; dsimp only; rw [intsW_map]
  cases xs
  · exact absurd rfl h
  · rfl
theorem f_min {xs : List Int} (h : xs ≠ []) : minW [eL W.int xs] S = .ok (.int (minI xs)) S := by
  unfold minW onList eL itemsL nonempty; dsimp only; rw [intsW_map]
  cases xs
  · exact absurd rfl h
  · rfl
theorem f_sortI {xs : List Int} : sortW [eL W.int xs] S = .ok (eL W.int (sortI xs)) S := by
  unfold sortW eL; dsimp only; rw [intsW_map]
theorem f_intB {k : Bool} : intW [.bl k] S = .ok (.int (if k then 1 else 0)) S := rfl
theorem f_tupL {e : α → W} {xs : List α} : tupleW [eL e xs] S = .ok (eT e xs) S := rfl
theorem f_tupT {e : α → W} {xs : List α} : tupleW [eT e xs] S = .ok (eT e xs) S := rfl
theorem f_lstT {e : α → W} {xs : List α} : listW [eT e xs] S = .ok (eL e xs) S := rfl
theorem f_lstL {e : α → W} {xs : List α} : listW [eL e xs] S = .ok (eL e xs) S := rfl
/-- x[lo:hi], lo and hi from 0 on -/
theorem f_in {e : α → W} (v : α → V) [DecidableEq α] (he : ∀ a, flW (e a) = some (v a)) (hi : ∀ (a : α) (xs : List α), L2.inV (v a) (xs.map v) = decide (a ∈ xs)) {x : α} {xs : List α} {t : Bool} : inW false (e x) (if t then eT e xs else eL e xs) S = .ok (.bl (decide (x ∈ xs))) S := by
  have h : ∀ xs : List α, flWs (xs.map e) = some (xs.map v) := fun xs => by
    induction xs with
    | nil => rfl
    | cons x xs ih => rw [List.map_cons]; unfold flWs; rw [he x, ih]; rfl
  unfold inW
  cases t <;> simp [he, anyL, eT, eL, itemsL, h, hi]
end
/-! ### what is walked -/
section
variable {α β : Type}
def rg (n : Int) : List Int := (List.range n.toNat).map Int.ofNat
def rg2 (lo hi : Int) : List Int := (List.range (hi - lo).toNat).map fun (i : Nat) => lo + (i : Int)
theorem rangeW_map : ∀ (n : Nat) (lo : Int), rangeW lo n = ((List.range n).map fun (i : Nat) => lo + (i : Int)).map W.int
  | 0, lo => rfl
  | n + 1, lo => by
    unfold rangeW
    rw [rangeW_map n (lo + 1), List.range_succ_eq_map]
    simp only [List.map_cons, List.map_map]
    congr 1
    · simp
    · refine List.map_congr_left fun i _ => ?_
      simp only [Function.comp]
      congr 1
      simp only [Nat.succ_eq_add_one, Int.natCast_add]
      omega
def enm (xs : List α) : List (Int × α) := xs.zipIdx.map fun p => ((p.2 : Int), p.1)
theorem enumL_map {e : α → W} : ∀ (xs : List α) (i : Nat), enumL i (xs.map e) = ((xs.zipIdx i).map fun p => ((p.2 : Int), p.1)).map (eI W.int e)
  | [], i => rfl
  | x :: xs, i => by
    rw [List.map_cons]
    unfold enumL
    rw [enumL_map xs (i + 1)]
    rfl
theorem zipL_map {e : α → W} {f : β → W} : ∀ (xs : List α) (ys : List β), zipL (xs.map e) (ys.map f) = (xs.zip ys).map (eI e f)
  | [], ys => by simp [zipL]
  | _ :: _, [] => by simp [zipL]
  | x :: xs, y :: ys => by
    rw [List.map_cons, List.map_cons]
    unfold zipL
    rw [zipL_map xs ys]
    rfl
variable {a : ME} {r : MA} {ρ : Env'} {S : Sto}
theorem i_T {e : α → W} {xs : List α} (h : a ρ S = .ok (eT e xs) S) : mItV a ρ S = .ok ⟨xs.map e, none⟩ S := by
  unfold mItV; rw [h]; rfl
theorem i_L {e : α → W} {xs : List α} (h : a ρ S = .ok (eL e xs) S) : mItV a ρ S = .ok ⟨xs.map e, none⟩ S := by
  unfold mItV; rw [h]; rfl
theorem i_R {n : Nat} {ws : List W} (h : a ρ S = .ok (.ref n) S) (hn : S[n]? = some (.lst ws)) : mItV a ρ S = .ok ⟨ws, some n⟩ S := by
  unfold mItV; rw [h, R.bind_ok]; dsimp only; rw [hn]
theorem i_rng1 {n : Int} (h : r ρ S = .ok [.int n] S) (hn : -100000 < n ∧ n < 100000) : mRng1 r ρ S = .ok ⟨(rg n).map W.int, none⟩ S := by
  unfold mRng1; rw [h, R.bind_ok]; dsimp only; rw [if_pos ⟨hn.2, hn.1⟩, rangeW_map]
  congr 2
  unfold rg
  simp
theorem i_rng2 {m n : Int} (h : r ρ S = .ok [.int m, .int n] S) (hn : (-100000 < m ∧ m < 100000) ∧ -100000 < n ∧ n < 100000) : mRng2 r ρ S = .ok ⟨(rg2 m n).map W.int, none⟩ S := by
  unfold mRng2; rw [h, R.bind_ok]; dsimp only; rw [if_pos ⟨hn.2.2, hn.2.1, hn.1.2, hn.1.1⟩, rangeW_map]
  rfl
theorem i_enumT {e : α → W} {xs : List α} (h : r ρ S = .ok [eT e xs] S) : mEnum r ρ S = .ok ⟨(enm xs).map (eI W.int e), none⟩ S := by
  unfold mEnum; rw [h, R.bind_ok]; unfold eT; dsimp only; rw [enumL_map]; rfl
theorem i_enumL {e : α → W} {xs : List α} (h : r ρ S = .ok [eL e xs] S) : mEnum r ρ S = .ok ⟨(enm xs).map (eI W.int e), none⟩ S := by
  unfold mEnum; rw [h, R.bind_ok]; unfold eL; dsimp only; rw [enumL_map]; rfl
theorem frz_T {e : α → W} {xs : List α} : frzL (eT e xs) = some (true, xs.map e) := rfl
theorem frz_L {e : α → W} {xs : List α} : frzL (eL e xs) = some (false, xs.map e) := rfl
theorem i_zip {e : α → W} {f : β → W} {xs : List α} {ys : List β} {x y : W} {s t : Bool} (h : r ρ S = .ok [x, y] S) (hx : frzL x = some (s, xs.map e)) (hy : frzL y = some (t, ys.map f)) : mZipB r ρ S = .ok ⟨(xs.zip ys).map (eI e f), none⟩ S := by
  unfold mZipB; rw [h, R.bind_ok]; dsimp only; rw [hx]; dsimp only; rw [hy]; dsimp only; rw [zipL_map]
theorem f_lrng {n : Int} (hn : -100000 < n ∧ n < 100000) : lrngW [.int n] S = .ok (eL W.int (rg n)) S := by
  unfold lrngW; dsimp only; rw [if_pos ⟨hn.2, hn.1⟩, rangeW_map]
  congr 2
  unfold rg
  simp
theorem f_lrng2 {m n : Int} (hn : (-100000 < m ∧ m < 100000) ∧ -100000 < n ∧ n < 100000) : lrng2W [.int m, .int n] S = .ok (eL W.int (rg2 m n)) S := by
  unfold lrng2W; dsimp only; rw [if_pos ⟨hn.2.2, hn.2.1, hn.1.2, hn.1.1⟩, rangeW_map]
  rfl
mutual
theorem beq_refl : ∀ w : W, W.beq w w = true
  | .non => rfl
  | .bl _ => by simp [W.beq]
  | .int _ => by simp [W.beq]
  | .str _ => by simp [W.beq]
  | .ty _ => by simp [W.beq]
  | .tup ws => by simp [W.beq, beqs_refl ws]
  | .lst ws => by simp [W.beq, beqs_refl ws]
  | .ref _ => by simp [W.beq]
  | .glob _ => by simp [W.beq]
  | .exc _ => by simp [W.beq]
  | .clo _ ws => by simp [W.beq, beqs_refl ws]
  | .scr _ => by simp [W.beq]
  | .ed => by simp [W.beq]
  | .itm ws => by simp [W.beq, beqs_refl ws]
theorem beqs_refl : ∀ ws : List W, beqs ws ws = true
  | [] => rfl
  | w :: ws => by simp [beqs, beq_refl w, beqs_refl ws]
end
end
/-! ### comprehensions -/
section
variable {α β : Type} {it : MI} {own : List Nat} {g : MG} {t : MT} {me : ME} {ρ : Env'} {S : Sto} {e : α → W} {d : β → W} {f : α → β} {p : α → Bool}
theorem lcGo_map {wi : Its'} {ρ : Env'} (hst : wi.stays S = true) : ∀ xs : List α, (∀ x ∈ xs, ∃ ρ1, g (e x) ρ = some ρ1 ∧ t ρ1 S = .ok (p x) S ∧ (p x = true → me ρ1 S = .ok (d (f x)) S)) → lcGo g t me ρ wi (xs.map e) S = .ok (((xs.filter p).map f).map d) S
  | [], _ => by rw [List.map_nil]; unfold lcGo; rw [if_pos hst]; rfl
  | x :: xs, h => by
    obtain ⟨ρ1, h1, h2, h3⟩ := h x (List.mem_cons_self)
    have ih := lcGo_map hst xs fun y hy => h y (List.mem_cons_of_mem _ hy)
    rw [List.map_cons]
    unfold lcGo
    rw [if_pos hst, h1]
    dsimp only
    rw [h2, R.bind_ok]
    cases hp : p x
    · dsimp only
      rw [ih, List.filter_cons_of_neg (by simp [hp])]
    · dsimp only
      rw [h3 hp, R.bind_ok, ih, R.bind_ok, List.filter_cons_of_pos hp]
      rfl
theorem lcI_map {xs : List α} {at_ : Option Nat} (hi : it ρ S = .ok ⟨xs.map e, at_⟩ S) (hst : (Its'.mk (xs.map e) at_).stays S = true) (hl : xs.length ≤ 100000) (h : ∀ x ∈ xs, ∃ ρ1, g (e x) (wipeW ρ own) = some ρ1 ∧ t ρ1 S = .ok (p x) S ∧ (p x = true → me ρ1 S = .ok (d (f x)) S)) :
    mLcI it own g t me ρ S = .ok (((xs.filter p).map f).map d) S := by
  unfold mLcI
  rw [hi, R.bind_ok]
  dsimp only
  rw [if_pos (by rw [List.length_map]; exact hl), lcGo_map hst xs h]
  rfl
theorem q_lcf {xs : List α} (hi : it ρ S = .ok ⟨xs.map e, none⟩ S) (hl : xs.length ≤ 100000) (h : ∀ x ∈ xs, ∃ ρ1, g (e x) (wipeW ρ own) = some ρ1 ∧ t ρ1 S = .ok (p x) S ∧ (p x = true → me ρ1 S = .ok (d (f x)) S)) :
    mLc it own g t me ρ S = .ok (eL d ((xs.filter p).map f)) S := by
  unfold mLc; rw [lcI_map hi rfl hl h]; rfl
theorem q_lc {xs : List α} (hi : it ρ S = .ok ⟨xs.map e, none⟩ S) (hl : xs.length ≤ 100000) (h : ∀ x ∈ xs, ∃ ρ1, g (e x) (wipeW ρ own) = some ρ1 ∧ me ρ1 S = .ok (d (f x)) S) :
    mLc it own g tYesM me ρ S = .ok (eL d (xs.map f)) S := by
  have := q_lcf (it := it) (own := own) (g := g) (t := tYesM) (me := me) (ρ := ρ) (S := S) (e := e) (d := d) (f := f) (p := fun _ => true) hi hl fun x hx => by
    obtain ⟨ρ1, h1, h2⟩ := h x hx
    exact ⟨ρ1, h1, rfl, fun _ => h2⟩
  rw [this, List.filter_eq_self.mpr fun _ _ => rfl]
theorem stays_of {n : Nat} {ws : List W} (h : S[n]? = some (.lst ws)) : (Its'.mk ws (some n)).stays S = true := by
  unfold Its'.stays; dsimp only; rw [h]; exact beqs_refl ws
theorem q_lcfR {xs : List α} {n : Nat} (hi : it ρ S = .ok ⟨xs.map e, some n⟩ S) (hn : S[n]? = some (.lst (xs.map e))) (hl : xs.length ≤ 100000) (h : ∀ x ∈ xs, ∃ ρ1, g (e x) (wipeW ρ own) = some ρ1 ∧ t ρ1 S = .ok (p x) S ∧ (p x = true → me ρ1 S = .ok (d (f x)) S)) :
    mLc it own g t me ρ S = .ok (eL d ((xs.filter p).map f)) S := by
  unfold mLc; rw [lcI_map hi (stays_of hn) hl h]; rfl
theorem q_lcR {xs : List α} {n : Nat} (hi : it ρ S = .ok ⟨xs.map e, some n⟩ S) (hn : S[n]? = some (.lst (xs.map e))) (hl : xs.length ≤ 100000) (h : ∀ x ∈ xs, ∃ ρ1, g (e x) (wipeW ρ own) = some ρ1 ∧ me ρ1 S = .ok (d (f x)) S) :
    mLc it own g tYesM me ρ S = .ok (eL d (xs.map f)) S := by
  have := q_lcfR (it := it) (own := own) (g := g) (t := tYesM) (me := me) (ρ := ρ) (S := S) (e := e) (d := d) (f := f) (p := fun _ => true) hi hn hl fun x hx => by
    obtain ⟨ρ1, h1, h2⟩ := h x hx
    exact ⟨ρ1, h1, rfl, fun _ => h2⟩
  rw [this, List.filter_eq_self.mpr fun _ _ => rfl]
theorem q_lcN {ys : List W} (h : mLc it own g t me ρ S = .ok (.lst ys) S) : mLcN it own g t me ρ S = .ok (.ref S.length) (S ++ [.lst ys]) := by
  unfold mLc at h
  unfold mLcN
  revert h
  cases mLcI it own g t me ρ S with
  | ok xs S' => intro h; cases h; rfl
  | err c S' => intro h; cases h
  | stuck => intro h; cases h
end
/-! ### the store's own parts -/
def Own (S : Sto) (L : List (Nat × O)) : Prop := (L.map Prod.fst).Nodup ∧ ∀ p ∈ L, S[p.1]? = some p.2
section
variable {α : Type} {S : Sto} {L : List (Nat × O)} {n i : Nat} {o o' : O}
theorem own_nil : Own S [] := ⟨List.nodup_nil, fun _ h => absurd h List.not_mem_nil⟩
theorem own_get (h : Own S L) (i : Nat) (hi : L[i]? = some (n, o)) : S[n]? = some o := h.2 _ (List.mem_of_getElem? hi)
theorem own_set (h : Own S L) (i : Nat) (hi : L[i]? = some (n, o)) (o' : O) : Own (S.set n o') (L.set i (n, o')) := by
  have hl : i < L.length := (List.getElem?_eq_some_iff.mp hi).1
  have hlen : n < S.length := (List.getElem?_eq_some_iff.mp (own_get h i hi)).1
  have e1 : (L.set i (n, o')).map Prod.fst = L.map Prod.fst := by
    rw [List.map_set]
    refine List.ext_getElem? fun j => ?_
    by_cases hj : i = j
    · subst hj
      rw [List.getElem?_set_self (by simpa using hl), List.getElem?_map, hi]; rfl
    · rw [List.getElem?_set_ne hj]
  refine ⟨by rw [e1]; exact h.1, fun p hp => ?_⟩
  obtain ⟨j, hj⟩ := List.mem_iff_getElem?.mp hp
  by_cases hij : i = j
  · subst hij
    rw [List.getElem?_set_self hl] at hj
    cases hj
    exact List.getElem?_set_self hlen
  · rw [List.getElem?_set_ne hij] at hj
    have hne : n ≠ p.1 := fun z => by
      have a1 : (L.map Prod.fst)[i]? = some n := by rw [List.getElem?_map, hi]; rfl
      have a2 : (L.map Prod.fst)[j]? = some n := by rw [List.getElem?_map, hj, z]; rfl
      exact hij ((List.getElem?_inj (by simpa using hl) h.1).mp (a1.trans a2.symm))
    rw [List.getElem?_set_ne hne]
    exact h.2 p (List.mem_of_getElem? hj)
theorem own_new (h : Own S L) (o : O) : Own (S ++ [o]) (L ++ [(S.length, o)]) := by
  refine ⟨?_, fun p hp => ?_⟩
  · rw [List.map_append, List.nodup_append]
    refine ⟨h.1, by simp, fun a ha b hb z => ?_⟩
    simp at hb
    subst hb
    obtain ⟨p, hp, rfl⟩ := List.mem_map.mp ha
    have := (List.getElem?_eq_some_iff.mp (h.2 p hp)).1
    omega
  · rcases List.mem_append.mp hp with hp | hp
    · have := (List.getElem?_eq_some_iff.mp (h.2 p hp)).1
      rw [List.getElem?_append_left this]
      exact h.2 p hp
    · simp at hp
      subst hp
      simp
theorem own_drop (h : Own S L) (i : Nat) : Own S (L.eraseIdx i) :=
  ⟨h.1.sublist ((List.eraseIdx_sublist L i).map _), fun p hp => h.2 p (List.mem_of_mem_eraseIdx hp)⟩
theorem own_len (h : Own S L) (i : Nat) (hi : L[i]? = some (n, o)) : n < S.length := (List.getElem?_eq_some_iff.mp (own_get h i hi)).1
end
/-! ### statements by wishes -/
@[irreducible] def Ws (r : R Fl) (Qn : Env' → Sto → Prop) (Qr : W → Sto → Prop) (Qe : Str → Prop) : Prop := match r with
  | .ok (.nx ρ) S => Qn ρ S
  | .ok (.ret w) S => Qr w S
  | .err c _ => Qe c
  | _ => False
section
variable {α : Type} {A B : MS} {a : ME} {t : MT} {it : MI} {g : MG} {body : MS} {ρ : Env'} {S S1 : Sto} {w : W} {Qn : Env' → Sto → Prop} {Qr : W → Sto → Prop} {Qe : Str → Prop}
theorem w_seq (h : Ws (A ρ S) (fun ρ1 S1 => Ws (B ρ1 S1) Qn Qr Qe) Qr Qe) : Ws (mSeq A B ρ S) Qn Qr Qe := by
  unfold mSeq
  revert h
  unfold Ws
  cases A ρ S with
  | ok f S1 => cases f <;> exact id
  | err c S1 => exact id
  | stuck => exact id
theorem w_skip (h : Qn ρ S) : Ws (mSkip ρ S) Qn Qr Qe := by unfold Ws; exact h
theorem w_set {i : Nat} (ha : a ρ S = .ok w S1) (h : Qn (ρ.set i (some w)) S1) : Ws (mSet i a ρ S) Qn Qr Qe := by
  unfold mSet Ws; rw [ha]; exact h
theorem w_do (ha : a ρ S = .ok w S1) (h : Qn ρ S1) : Ws (mDo a ρ S) Qn Qr Qe := by
  unfold mDo Ws; rw [ha]; exact h
theorem w_doE {c : Str} (ha : a ρ S = .err c S1) (h : Qe c) : Ws (mDo a ρ S) Qn Qr Qe := by
  unfold mDo Ws; rw [ha]; exact h
theorem w_ret (ha : a ρ S = .ok w S1) (h : Qr w S1) : Ws (mRet a ρ S) Qn Qr Qe := by
  unfold mRet Ws; rw [ha]; exact h
theorem w_raise {c : Str} (h : Qe c) : Ws (mRaise c ρ S) Qn Qr Qe := by unfold Ws; exact h
theorem w_asg {ρ1 : Env'} (ha : a ρ S = .ok w S1) (hg : g w ρ = some ρ1) (h : Qn ρ1 S1) : Ws (mAsg g a ρ S) Qn Qr Qe := by
  unfold mAsg Ws; rw [ha, R.bind_ok, hg]; exact h
theorem w_par {i j : Nat} {r : MA} {v u : W} (ha : r ρ S = .ok [v, u] S1) (h : Qn ((ρ.set i (some v)).set j (some u)) S1) : Ws (mPar i j r ρ S) Qn Qr Qe := by
  unfold mPar Ws; rw [ha]; exact h
theorem w_if {k : Bool} (ht : t ρ S = .ok k S1) (hA : k = true → Ws (A ρ S1) Qn Qr Qe) (hB : k = false → Ws (B ρ S1) Qn Qr Qe) : Ws (mCond t A B ρ S) Qn Qr Qe := by
  unfold mCond; rw [ht, R.bind_ok]
  cases k
  · exact hB rfl
  · exact hA rfl
theorem Ws.imp {r : R Fl} {Qn' : Env' → Sto → Prop} {Qr' : W → Sto → Prop} (h : Ws r Qn Qr Qe) (h1 : ∀ ρ S, Qn ρ S → Qn' ρ S) (h2 : ∀ w S, Qr w S → Qr' w S) : Ws r Qn' Qr' Qe := by
  revert h
  unfold Ws
  split
  · exact h1 _ _
  · exact h2 _ _
  · exact id
  · exact id
theorem forGo_ws {wi : Its'} {xs : List α} {e : α → W} (I : List α → Env' → Sto → Prop) (hst : ∀ pre ρ S, I pre ρ S → wi.stays S = true) (step : ∀ pre x post ρ S, xs = pre ++ x :: post → I pre ρ S → ∃ ρ1, g (e x) ρ = some ρ1 ∧ Ws (body ρ1 S) (fun ρ2 S2 => I (pre ++ [x]) ρ2 S2) Qr Qe) :
    ∀ (post pre : List α) (ρ : Env') (S : Sto), xs = pre ++ post → I pre ρ S → Ws (forGo g body wi (post.map e) ρ S) (fun ρ S => I xs ρ S) Qr Qe
  | [], pre, ρ, S, hx, hi => by
    rw [List.map_nil]
    unfold forGo
    rw [if_pos (hst _ _ _ hi)]
    rw [List.append_nil] at hx
    subst hx
    unfold Ws
    exact hi
  | x :: post, pre, ρ, S, hx, hi => by
    obtain ⟨ρ1, h1, h2⟩ := step pre x post ρ S hx hi
    rw [List.map_cons]
    unfold forGo
    rw [if_pos (hst _ _ _ hi), h1]
    dsimp only
    revert h2
    cases body ρ1 S with
    | ok f S2 =>
      cases f with
      | nx ρ2 => exact fun h2 => forGo_ws I hst step post (pre ++ [x]) ρ2 S2 (by rw [hx]; simp) (by unfold Ws at h2; exact h2)
      | ret w => unfold Ws; exact fun h2 => h2
      | brk ρ2 => unfold Ws; exact fun h2 => h2.elim
      | cnt ρ2 => unfold Ws; exact fun h2 => h2.elim
    | err c S2 => unfold Ws; exact fun h2 => h2
    | stuck => unfold Ws; exact fun h2 => h2
theorem w_for {xs : List α} {e : α → W} (I : List α → Env' → Sto → Prop) (hi : it ρ S = .ok ⟨xs.map e, none⟩ S1) (h0 : I [] ρ S1) (step : ∀ pre x post ρ S, xs = pre ++ x :: post → I pre ρ S → ∃ ρ1, g (e x) ρ = some ρ1 ∧ Ws (body ρ1 S) (fun ρ2 S2 => I (pre ++ [x]) ρ2 S2) Qr Qe)
    (hn : ∀ ρ S, I xs ρ S → Qn ρ S) : Ws (mFor it g body ρ S) Qn Qr Qe := by
  unfold mFor
  rw [hi, R.bind_ok]
  exact (forGo_ws (e := e) I (fun _ _ _ _ => rfl) step xs [] ρ S1 rfl h0).imp hn fun _ _ => id
theorem w_forR {xs : List α} {e : α → W} {n : Nat} (I : List α → Env' → Sto → Prop) (hi : it ρ S = .ok ⟨xs.map e, some n⟩ S1) (h0 : I [] ρ S1) (hst : ∀ pre ρ S, I pre ρ S → S[n]? = some (.lst (xs.map e)))
    (step : ∀ pre x post ρ S, xs = pre ++ x :: post → I pre ρ S → ∃ ρ1, g (e x) ρ = some ρ1 ∧ Ws (body ρ1 S) (fun ρ2 S2 => I (pre ++ [x]) ρ2 S2) Qr Qe)
    (hn : ∀ ρ S, I xs ρ S → Qn ρ S) : Ws (mFor it g body ρ S) Qn Qr Qe := by
  unfold mFor
  rw [hi, R.bind_ok]
  exact (forGo_ws (e := e) I (fun pre ρ S h => stays_of (hst pre ρ S h)) step xs [] ρ S1 rfl h0).imp hn fun _ _ => id
theorem mem_mid {xs pre post : List α} {x : α} (h : xs = pre ++ x :: post) : x ∈ xs := by rw [h]; simp
theorem foldl_snoc {β : Type} (f : β → α → β) (s : β) (pre : List α) (x : α) : (pre ++ [x]).foldl f s = f (pre.foldl f s) x := by simp
theorem find_snoc {β : Type} {f : α → Option β} {pre : List α} {x : α} (h : pre.findSome? f = none) (k : f x = none) : (pre ++ [x]).findSome? f = none := by
  rw [List.findSome?_append, h]
  simp [k]
theorem find_mid {β : Type} {f : α → Option β} {xs pre post : List α} {x : α} {r : β} (e : xs = pre ++ x :: post) (h : pre.findSome? f = none) (k : f x = some r) : xs.findSome? f = some r := by
  rw [e, List.findSome?_append, h]
  simp [k]
/-! calls -/
theorem fz_of {S : Sto} {w : W} (h : w.nr = true) : fz S 6 w = some w := by unfold fz; rw [if_pos h]
theorem fz_fro {β : Type} {e : β → W} [h : Fro e] (S : Sto) {x y : β} (k : x = y) : fz S 6 (e x) = some (e y) := by rw [k]; exact fz_of (h.nr y)
theorem mapO_fz {S : Sto} {k : Nat} (hk : 0 < k) : ∀ {ws : List W}, nrs ws = true → mapO (fz S k) ws = some ws
  | [], _ => rfl
  | w :: ws, h => by
    unfold nrs at h
    have h' := Bool.and_eq_true_iff.mp h
    unfold mapO
    have e : fz S k w = some w := by
      cases k with
      | zero => omega
      | succ k => unfold fz; rw [if_pos h'.1]
    rw [e, mapO_fz hk h'.2]
theorem fz_ref {β : Type} {e : β → W} [h : Fro e] {S : Sto} {n : Nat} {xs ys : List β} (hn : S[n]? = some (.lst (xs.map e))) (k : xs = ys) : fz S 6 (.ref n) = some (eL e ys) := by
  subst k
  unfold fz
  rw [if_neg (by simp [W.nr])]
  dsimp only
  rw [hn]
  dsimp only
  rw [mapO_fz (by decide) (nrs_map h.nr xs)]
  rfl
theorem gp {n L : Nat} {b : MS} {ws : List W} {S : Sto} (hl : ws.length = n) (hn : nrs ws = true) (h : Ws (b (ws.map some ++ List.replicate (L - ws.length) none) []) (fun _ _ => w = .non) (fun u S' => fz S' 6 u = some w) (fun _ => False)) : gPure n (mDef L b) ws S = .ok w S := by
  unfold gPure
  rw [if_pos hl, fz_nr hn]
  dsimp only
  unfold mDef
  revert h
  unfold Ws
  cases b (ws.map some ++ List.replicate (L - ws.length) none) [] with
  | ok f S' =>
    cases f with
    | nx ρ =>
      intro h
      have h : w = .non := h
      subst h
      rw [R.bind_ok]
      dsimp only
      rw [fz_of rfl]
      dsimp only
      rw [hn]; rfl
    | ret u =>
      intro h
      have h : fz S' 6 u = some w := h
      rw [R.bind_ok]
      dsimp only
      rw [h]
      dsimp only
      rw [hn]; rfl
    | brk ρ => exact fun h => h.elim
    | cnt ρ => exact fun h => h.elim
  | err c S' => exact fun h => h.elim
  | stuck => exact fun h => h.elim
theorem gpE {n L : Nat} {b : MS} {ws : List W} {S : Sto} {c : Str} (hl : ws.length = n) (hn : nrs ws = true) (h : Ws (b (ws.map some ++ List.replicate (L - ws.length) none) []) (fun _ _ => False) (fun _ _ => False) (fun d => d = c)) : gPure n (mDef L b) ws S = .err c S := by
  unfold gPure
  rw [if_pos hl, fz_nr hn]
  dsimp only
  unfold mDef
  revert h
  unfold Ws
  cases b (ws.map some ++ List.replicate (L - ws.length) none) [] with
  | ok f S' => cases f <;> exact fun h => h.elim
  | err d S' =>
    intro h
    have h : d = c := h
    subst h
    rfl
  | stuck => exact fun h => h.elim
end
/-! methods on own lists -/
section
variable {α : Type} {o : ME} {r : MA} {ρ : Env'} {S : Sto} {n : Nat} {e : α → W} {xs us : List α} {x : α}
theorem items_own {ws : List W} (hn : S[n]? = some (.lst ws)) : itemsL S (.ref n) = some ws := by unfold itemsL; dsimp only; rw [hn]
theorem q_app (ho : o ρ S = .ok (.ref n) S) (hr : r ρ S = .ok [e x] S) (hn : S[n]? = some (.lst (xs.map e))) (hl : xs.length < 100000) : mMt appW o r ρ S = .ok .non (S.set n (.lst ((xs ++ [x]).map e))) := by
  unfold mMt
  rw [ho, R.bind_ok, items_own hn]
  dsimp only
  rw [hr, R.bind_ok]
  unfold appW
  dsimp only
  rw [hn]
  dsimp only
  rw [if_pos (by simpa using hl), List.map_append]
  rfl
theorem q_ext (ho : o ρ S = .ok (.ref n) S) (hr : r ρ S = .ok [eL e us] S) (hn : S[n]? = some (.lst (xs.map e))) (hl : xs.length + us.length < 100000) : mMt extW o r ρ S = .ok .non (S.set n (.lst ((xs ++ us).map e))) := by
  unfold mMt
  rw [ho, R.bind_ok, items_own hn]
  dsimp only
  rw [hr, R.bind_ok]
  unfold extW
  dsimp only
  rw [hn]
  unfold eL
  dsimp only
  rw [if_pos (by simpa using hl), List.map_append]
theorem q_new {ws : List W} {S1 : Sto} (hr : r ρ S = .ok ws S1) (hl : ws.length ≤ 100000) : mNew r ρ S = .ok (.ref S1.length) (S1 ++ [.lst ws]) := by
  refine q_ap hr ?_
  unfold gNew
  rw [if_pos hl]
theorem q_tup {ws : List W} {S1 : Sto} (hr : r ρ S = .ok ws S1) (hl : ws.length ≤ 100000) : mTup r ρ S = .ok (.tup ws) S1 := by
  refine q_ap hr ?_
  unfold gTup'
  rw [if_pos hl]
theorem q_lst {ws : List W} {S1 : Sto} (hr : r ρ S = .ok ws S1) (hl : ws.length ≤ 100000) : mLst r ρ S = .ok (.lst ws) S1 := by
  refine q_ap hr ?_
  unfold gLst
  rw [if_pos hl]
theorem f_tupR (hn : S[n]? = some (.lst (xs.map e))) : tupleW [.ref n] S = .ok (eT e xs) S := by
  unfold tupleW; dsimp only; rw [items_own hn]; rfl
theorem f_lstR (hn : S[n]? = some (.lst (xs.map e))) : listW [.ref n] S = .ok (eL e xs) S := by
  unfold listW; dsimp only; rw [items_own hn]; rfl
theorem f_lenR (hn : S[n]? = some (.lst (xs.map e))) : lenW [.ref n] S = .ok (.int xs.length) S := by
  unfold lenW; dsimp only; rw [items_own hn]; simp
theorem f_idxR [Inhabited α] {i : Int} (hn : S[n]? = some (.lst (xs.map e))) (h : 0 ≤ i ∧ i < xs.length) : idxW (.ref n) (.int i) S = .ok (e (gI xs i)) S := by
  unfold idxW; dsimp only; rw [items_own hn]; dsimp only; rw [atI_map h]
theorem ixN_of {m : Nat} {i : Int} (h : 0 ≤ i ∧ i < m) : L2.ixN m i = some i.toNat := by
  have e1 : (i.toNat : Int) = i := Int.toNat_of_nonneg h.1
  have h2 : i.toNat < m := by omega
  generalize i.toNat = k at *
  subst e1
  unfold L2.ixN
  simp [h2]
/-- x[i] = v, i from 0 on -/
def sI (xs : List α) (i : Int) (v : α) : List α := xs.set i.toNat v
theorem w_setIx {mv mo mi : ME} {i : Int} {Qn : Env' → Sto → Prop} {Qr : W → Sto → Prop} {Qe : Str → Prop} (hv : mv ρ S = .ok (e x) S) (ho : mo ρ S = .ok (.ref n) S) (hi : mi ρ S = .ok (.int i) S) (hn : S[n]? = some (.lst (xs.map e))) (h : 0 ≤ i ∧ i < xs.length) (k : Qn ρ (S.set n (.lst ((sI xs i x).map e)))) : Ws (mSetIx mv mo mi ρ S) Qn Qr Qe := by
  unfold mSetIx
  rw [hv, R.bind_ok, ho, R.bind_ok, hi, R.bind_ok]
  dsimp only
  rw [hn]
  dsimp only
  rw [List.length_map, ixN_of h]
  unfold Ws
  show Qn ρ _
  rw [← List.map_set]
  exact k
end
/-! the same over the store's own parts -/
section
variable {α : Type} {r : MA} {ρ : Env'} {S : Sto} {L : List (Nat × O)} {n i : Nat} {e : α → W} {xs us : List α} {x : α} {o : ME} {Qn : Env' → Sto → Prop} {Qr : W → Sto → Prop} {Qe : Str → Prop}
theorem w_newO {ws : List W} (hO : Own S L) (hr : r ρ S = .ok ws S) (hl : ws.length ≤ 100000) (k : ∀ (n : Nat) (S' : Sto), Own S' (L ++ [(n, .lst ws)]) → Qn (ρ.set i (some (.ref n))) S') : Ws (mSet i (mNew r) ρ S) Qn Qr Qe :=
  w_set (q_new hr hl) (k _ _ (own_new hO _))
theorem w_newlcO {it : MI} {own : List Nat} {g : MG} {t : MT} {me : ME} {ws : List W} (hO : Own S L) (h : mLc it own g t me ρ S = .ok (.lst ws) S) (k : ∀ (n : Nat) (S' : Sto), Own S' (L ++ [(n, .lst ws)]) → Qn (ρ.set i (some (.ref n))) S') : Ws (mSet i (mLcN it own g t me) ρ S) Qn Qr Qe :=
  w_set (q_lcN h) (k _ _ (own_new hO _))
theorem w_newmulO {a b : ME} {k : Int} (hO : Own S L) (ha : a ρ S = .ok (eL e xs) S) (hb : b ρ S = .ok (.int k) S) (h : -100000 < k ∧ k < 100000 ∧ xs.length * k.toNat ≤ 100000)
    (kk : ∀ (n : Nat) (S' : Sto), Own S' (L ++ [(n, .lst ((repL k.toNat xs).map e))]) → Qn (ρ.set i (some (.ref n))) S') : Ws (mSet i (mBin mulN a b) ρ S) Qn Qr Qe := by
  refine w_set (w := .ref S.length) (q_bin ha hb ?_) (kk _ _ (own_new hO _))
  unfold mulN eL
  dsimp only
  rw [if_pos (by simp; exact ⟨⟨h.1, h.2.1⟩, h.2.2⟩), repL_map]
theorem w_newlstO {y : W} {ws : List W} (hO : Own S L) (hr : r ρ S = .ok [y] S) (hy : anyL S y = some ws) (k : ∀ (n : Nat) (S' : Sto), Own S' (L ++ [(n, .lst ws)]) → Qn (ρ.set i (some (.ref n))) S') : Ws (mSet i (mAp listN r) ρ S) Qn Qr Qe := by
  refine w_set (w := .ref S.length) (q_ap hr ?_) (k _ _ (own_new hO _))
  unfold anyL at hy
  unfold listN
  split at hy
  · cases hy; rfl
  · rename_i h
    split
    · rename_i e1; cases e1; exact absurd rfl (h _)
    · rename_i z e1 e2; cases e2; rw [hy]
    · rename_i e1 e2; exact absurd rfl (e2 _)
theorem w_appO (hO : Own S L) (i : Nat) (hi : L[i]? = some (n, .lst (xs.map e))) (ho : o ρ S = .ok (.ref n) S) (hr : r ρ S = .ok [e x] S) (hl : xs.length < 100000) (k : ∀ S' : Sto, Own S' (L.set i (n, .lst ((xs ++ [x]).map e))) → Qn ρ S') : Ws (mDo (mMt appW o r) ρ S) Qn Qr Qe :=
  w_do (q_app ho hr (own_get hO i hi) hl) (k _ (own_set hO i hi _))
theorem w_extO (hO : Own S L) (i : Nat) (hi : L[i]? = some (n, .lst (xs.map e))) (ho : o ρ S = .ok (.ref n) S) (hr : r ρ S = .ok [eL e us] S) (hl : xs.length + us.length < 100000) (k : ∀ S' : Sto, Own S' (L.set i (n, .lst ((xs ++ us).map e))) → Qn ρ S') : Ws (mDo (mMt extW o r) ρ S) Qn Qr Qe :=
  w_do (q_ext ho hr (own_get hO i hi) hl) (k _ (own_set hO i hi _))
theorem w_setIxO {mv mo mi : ME} {j : Int} (hO : Own S L) (i : Nat) (hi : L[i]? = some (n, .lst (xs.map e))) (hv : mv ρ S = .ok (e x) S) (ho : mo ρ S = .ok (.ref n) S) (hj : mi ρ S = .ok (.int j) S) (h : 0 ≤ j ∧ j < xs.length)
    (k : ∀ S' : Sto, Own S' (L.set i (n, .lst ((sI xs j x).map e))) → Qn ρ S') : Ws (mSetIx mv mo mi ρ S) Qn Qr Qe :=
  w_setIx hv ho hj (own_get hO i hi) h (k _ (own_set hO i hi _))
theorem eqD_datR [h : Dat (eL e)] (hk : h.k ≤ 64) [DecidableEq α] {ys : List α} (hn : S[n]? = some (.lst (xs.map e))) : eqD (.ref n) (eL e ys) S = some (decide (xs = ys)) := by
  have : eqD (.ref n) (eL e ys) S = eqD (eL e xs) (eL e ys) S := by
    have a : dataS S (.ref n) = dataS S (eL e xs) := by
      unfold dataS; dsimp only; rw [hn]; rfl
    unfold eqD; rw [a]
  rw [this]; exact eqD_dat hk xs ys S
theorem eq_datR [h : Dat (eL e)] [DecidableEq α] {ys : List α} (hn : S[n]? = some (.lst (xs.map e))) (hk : h.k ≤ 64 := by decide) : eqW (.ref n) (eL e ys) S = .ok (.bl (decide (xs = ys))) S := by
  unfold eqW; rw [eqD_datR hk hn]
theorem ne_datR [h : Dat (eL e)] [DecidableEq α] {ys : List α} (hn : S[n]? = some (.lst (xs.map e))) (hk : h.k ≤ 64 := by decide) : neW (.ref n) (eL e ys) S = .ok (.bl (!decide (xs = ys))) S := by
  unfold neW; rw [eqD_datR hk hn]
end
theorem nt {c : Bool} (h : c = false) : ¬ c = true := by rw [h]; exact Bool.false_ne_true
section
variable {S : Sto} {x : Int} {xs : List Int}
theorem flWs_int : ∀ xs : List Int, flWs (xs.map W.int) = some (xs.map V.int)
  | [] => rfl
  | x :: xs => by rw [List.map_cons]; unfold flWs flW; dsimp only; rw [flWs_int xs]; rfl
end
end Mo

set_option Elab.async false
set_option linter.all false
set_option maxRecDepth 100000
set_option autoImplicit false
/-! Mon27: plain readings: dicts, rows of the store, draws, the law's frame. -/
namespace Mo
open PySem PySem.Spec L2

/-! ### typed dicts -/
section
variable {α β : Type}
def eK (e : α → W) (p : Int × α) : Key × W := (.inl p.1, e p.2)
def dput (xs : List (Int × α)) (k : Int) (v : α) : List (Int × α) := match xs with
  | [] => [(k, v)]
  | p :: r => if p.1 = k then (p.1, v) :: r else p :: dput r k v
def dget (xs : List (Int × α)) (k : Int) : Option α := match xs with
  | [] => none
  | p :: r => if p.1 = k then some p.2 else dget r k
theorem putW_map {e : α → W} (k : Int) (v : α) : ∀ xs : List (Int × α), putW (xs.map (eK e)) (.inl k) (e v) = (dput xs k v).map (eK e)
  | [] => rfl
  | p :: r => by
    rw [List.map_cons]
    unfold putW dput
    by_cases h : p.1 = k
    · subst h
      simp [eK]
    · have h2 : ¬ (Sum.inl p.1 : Key) = .inl k := fun z => h (by injection z)
      rw [if_neg h]
      simp only [eK, h2, decide_false, Bool.false_eq_true, if_false, List.map_cons]
      rw [← putW_map k v r]
theorem valW_map {e : α → W} (k : Int) : ∀ xs : List (Int × α), valW (xs.map (eK e)) (.inl k) = (dget xs k).map e
  | [] => rfl
  | p :: r => by
    rw [List.map_cons]
    unfold valW dget
    by_cases h : p.1 = k
    · subst h
      simp [eK]
    · have h2 : ¬ (Sum.inl p.1 : Key) = .inl k := fun z => h (by injection z)
      rw [if_neg h]
      simp only [eK, h2, decide_false, Bool.false_eq_true, if_false]
      rw [← valW_map k r]
theorem dget_none {k : Int} : ∀ {xs : List (Int × α)}, dget xs k = none ↔ k ∉ xs.map Prod.fst
  | [] => by simp [dget]
  | p :: r => by
    unfold dget
    by_cases h : p.1 = k
    · rw [if_pos h]; simp [h]
    · rw [if_neg h, dget_none]; simp [Ne.symm h]
theorem ukeys_map {e : α → W} : ∀ xs : List (Int × α), (xs.map Prod.fst).Nodup → ukeys (xs.map (eK e)) = true
  | [], _ => rfl
  | p :: r, h => by
    rw [List.map_cons, List.nodup_cons] at h
    rw [List.map_cons]
    unfold ukeys
    rw [show (eK e p).1 = .inl p.1 from rfl, valW_map, dget_none.mpr h.1, ukeys_map r h.2]
    rfl
theorem dput_keys {k : Int} {v : α} : ∀ {xs : List (Int × α)}, (dput xs k v).map Prod.fst = if k ∈ xs.map Prod.fst then xs.map Prod.fst else xs.map Prod.fst ++ [k]
  | [] => by simp [dput]
  | p :: r => by
    unfold dput
    by_cases h : p.1 = k
    · rw [if_pos h]; simp [h]
    · rw [if_neg h, List.map_cons, dput_keys]
      by_cases h2 : k ∈ r.map Prod.fst
      · rw [if_pos h2, if_pos (by rw [List.map_cons]; exact List.mem_cons_of_mem _ h2)]; rfl
      · rw [if_neg h2, if_neg (by rw [List.map_cons, List.mem_cons]; rintro (z | z); exact h z.symm; exact h2 z)]; rfl
theorem dput_nodup {xs : List (Int × α)} {k : Int} {v : α} (h : (xs.map Prod.fst).Nodup) : ((dput xs k v).map Prod.fst).Nodup := by
  rw [dput_keys]
  split
  · exact h
  · rename_i z
    rw [List.nodup_append]
    exact ⟨h, by simp, fun a ha b hb e => by simp at hb; subst hb; subst e; exact z ha⟩
theorem dget_dput {k j : Int} {v : α} : ∀ {xs : List (Int × α)}, dget (dput xs k v) j = if k = j then some v else dget xs j
  | [] => by simp [dput, dget]
  | p :: r => by
    unfold dput
    by_cases h : p.1 = k
    · rw [if_pos h]
      unfold dget
      subst h
      by_cases h2 : p.1 = j
      · simp [h2]
      · simp [h2]
    · rw [if_neg h]
      unfold dget
      by_cases h2 : p.1 = j
      · rw [if_pos h2, if_pos h2, if_neg (fun z => h (h2.trans z.symm))]
      · rw [if_neg h2, if_neg h2, dget_dput]
variable {S : Sto} {L : List (Nat × O)} {n : Nat} {e : α → W} {xs : List (Int × α)} {ρ : Env'} {Qn : Env' → Sto → Prop} {Qr : W → Sto → Prop} {Qe : Str → Prop}
theorem w_dictO {i : Nat} (hO : Own S L) (k : ∀ (n : Nat) (S' : Sto), Own S' (L ++ [(n, .dict [])]) → Qn (ρ.set i (some (.ref n))) S') : Ws (mSet i mDictN ρ S) Qn Qr Qe :=
  w_set rfl (k _ _ (own_new hO _))
theorem w_setKO {mv mo mi : ME} {j : Int} {v : α} (hO : Own S L) (i : Nat) (hi : L[i]? = some (n, .dict (xs.map (eK e)))) (hv : mv ρ S = .ok (e v) S) (ho : mo ρ S = .ok (.ref n) S) (hj : mi ρ S = .ok (.int j) S) (hl : xs.length < 100000) (hu : (xs.map Prod.fst).Nodup)
    (k : ∀ S' : Sto, Own S' (L.set i (n, .dict ((dput xs j v).map (eK e)))) → Qn ρ S') : Ws (mSetK mv mo mi ρ S) Qn Qr Qe := by
  unfold mSetK
  rw [hv, R.bind_ok, ho, R.bind_ok, hj, R.bind_ok]
  dsimp only [keyW]
  rw [own_get hO i hi]
  dsimp only
  rw [if_pos ⟨by simpa using hl, ukeys_map xs hu⟩, putW_map]
  unfold Ws
  exact k _ (own_set hO i hi _)
theorem f_dix {k : Int} {v : α} (hn : S[n]? = some (.dict (xs.map (eK e)))) (h : dget xs k = some v) : dixW (.ref n) (.int k) S = .ok (e v) S := by
  unfold dixW keyW
  dsimp only
  rw [hn]
  dsimp only
  rw [valW_map, h]
  rfl
theorem f_dixD [Inhabited α] {k : Int} (hn : S[n]? = some (.dict (xs.map (eK e)))) (h : (dget xs k).isSome = true) : dixW (.ref n) (.int k) S = .ok (e ((dget xs k).getD default)) S := by
  cases q : dget xs k with
  | none => rw [q] at h; cases h
  | some v => exact f_dix hn q
theorem f_din {k : Int} (hn : S[n]? = some (.dict (xs.map (eK e)))) : dinW false (.int k) (.ref n) S = .ok (.bl (dget xs k).isSome) S := by
  unfold dinW keyW
  dsimp only
  rw [hn]
  dsimp only
  rw [valW_map]
  simp
theorem f_dnin {k : Int} (hn : S[n]? = some (.dict (xs.map (eK e)))) : dinW true (.int k) (.ref n) S = .ok (.bl (!(dget xs k).isSome)) S := by
  unfold dinW keyW
  dsimp only
  rw [hn]
  dsimp only
  rw [valW_map]
  simp
theorem keysI_map : ∀ xs : List (Int × α), keysI (xs.map (eK e)) = some (xs.map Prod.fst)
  | [] => rfl
  | p :: r => by
    have ih := keysI_map r
    rw [List.map_cons, List.map_cons]
    show keysI ((Sum.inl p.1, e p.2) :: r.map (eK e)) = _
    unfold keysI
    rw [ih]
theorem f_lenD (hn : S[n]? = some (.dict (xs.map (eK e)))) : lenW [.ref n] S = .ok (.int xs.length) S := by
  unfold lenW itemsL
  dsimp only
  rw [hn]
  simp
theorem f_sortD (hn : S[n]? = some (.dict (xs.map (eK e)))) (hl : xs.length < 64) : sortW [.ref n] S = .ok (eL W.int (sortI (xs.map Prod.fst))) S := by
  unfold sortW
  dsimp only
  rw [hn]
  dsimp only
  rw [keysI_map]
  dsimp only
  rw [if_pos (by simpa using hl)]
  rfl
theorem q_setd {mo mk mz : ME} {S1 : Sto} {k : Int} {v : α} (ho : mo ρ S = .ok (.ref n) S) (hd : ∃ kvs, S[n]? = some (.dict kvs)) (hk : mk ρ S = .ok (.int k) S1) (hz : mz ρ S1 = .ok (e v) S1) (hO : Own S1 L) (i : Nat) (hi : L[i]? = some (n, .dict (xs.map (eK e)))) (hl : xs.length < 100000) (hu : (xs.map Prod.fst).Nodup) :
    ∃ S', mSetd mo mk mz ρ S = .ok (e ((dget xs k).getD v)) S' ∧ Own S' (L.set i (n, .dict ((if (dget xs k).isSome then xs else dput xs k v).map (eK e)))) := by
  obtain ⟨kvs, hd⟩ := hd
  unfold mSetd
  rw [ho, R.bind_ok]
  have hi2 : isDict S (.ref n) = true := by unfold isDict; dsimp only; rw [hd]
  rw [if_pos hi2, hk, R.bind_ok, hz, R.bind_ok]
  unfold setdW keyW
  dsimp only
  rw [own_get hO i hi]
  dsimp only
  rw [if_pos ⟨by simpa using hl, ukeys_map xs hu⟩, valW_map]
  cases h : dget xs k with
  | none => exact ⟨_, rfl, by rw [putW_map]; exact own_set hO i hi _⟩
  | some u =>
    refine ⟨S1, rfl, ?_⟩
    have : L.set i (n, .dict (xs.map (eK e))) = L := by
      refine List.ext_getElem? fun j => ?_
      by_cases hj : i = j
      · subst hj
        rw [List.getElem?_set_self (List.getElem?_eq_some_iff.mp hi).1, hi]
      · rw [List.getElem?_set_ne hj]
    simp only [Option.isSome, if_true]
    rw [this]
    exact hO
end

/-! ### rows of the store -/
section
variable {α : Type} {S : Sto} {A : List (Nat × O)} {ms : List Nat} {rows : List (List W)}
def rowsL (ms : List Nat) (rows : List (List W)) : List (Nat × O) := (ms.zip rows).map fun p => (p.1, .lst p.2)
theorem rowsL_at (hl : ms.length = rows.length) {i : Nat} (h : i < rows.length) : (A ++ rowsL ms rows)[A.length + i]? = some (ms.getD i 0, .lst (rows.getD i [])) := by
  rw [List.getElem?_append_right (by omega), Nat.add_sub_cancel_left]
  unfold rowsL
  have h1 : i < ms.length := by omega
  rw [List.getElem?_map, List.getElem?_eq_getElem (by simp; omega)]
  simp [List.getD_eq_getElem?_getD, List.getElem?_eq_getElem h1, List.getElem?_eq_getElem h]
theorem rowsL_set (hl : ms.length = rows.length) {i : Nat} (h : i < rows.length) (r : List W) : (A ++ rowsL ms rows).set (A.length + i) (ms.getD i 0, .lst r) = A ++ rowsL ms (rows.set i r) := by
  rw [List.set_append_right _ _ (by omega), Nat.add_sub_cancel_left]
  congr 1
  unfold rowsL
  refine List.ext_getElem? fun j => ?_
  have h1 : i < ms.length := by omega
  by_cases hj : i = j
  · subst hj
    rw [List.getElem?_set_self (by simp; omega), List.getElem?_map, List.getElem?_eq_getElem (by simp; omega)]
    simp [List.getD_eq_getElem?_getD, List.getElem?_eq_getElem h1, List.getElem_zip]
  · rw [List.getElem?_set_ne hj, List.getElem?_map, List.getElem?_map]
    by_cases hk : j < rows.length
    · rw [List.getElem?_eq_getElem (by simp; omega), List.getElem?_eq_getElem (by simp; omega)]
      simp [List.getElem_zip, List.getElem_set_ne hj]
    · rw [List.getElem?_eq_none (by simp; omega), List.getElem?_eq_none (by simp; omega)]
theorem rows_get (hO : Own S (A ++ rowsL ms rows)) (hl : ms.length = rows.length) {i : Nat} (h : i < rows.length) : S[ms.getD i 0]? = some (.lst (rows.getD i [])) := own_get hO _ (rowsL_at hl h)
theorem rows_set (hO : Own S (A ++ rowsL ms rows)) (hl : ms.length = rows.length) {i : Nat} (h : i < rows.length) (r : List W) : Own (S.set (ms.getD i 0) (.lst r)) (A ++ rowsL ms (rows.set i r)) := by
  have := own_set hO _ (rowsL_at hl h) (.lst r)
  rw [rowsL_set hl h] at this
  exact this
theorem own_app : ∀ (rs : List (List W)) {S : Sto} {A : List (Nat × O)}, Own S A → Own (S ++ rs.map .lst) (A ++ rowsL (List.range' S.length rs.length) rs)
  | [], S, A, hO => by simpa [rowsL] using hO
  | r :: rs, S, A, hO => by
    have h1 := own_new hO (.lst r)
    have h2 := own_app rs h1
    have e1 : S ++ (r :: rs).map O.lst = (S ++ [.lst r]) ++ rs.map O.lst := by simp
    have e2 : A ++ rowsL (List.range' S.length (r :: rs).length) (r :: rs) = (A ++ [(S.length, .lst r)]) ++ rowsL (List.range' (S ++ [O.lst r]).length rs.length) rs := by
      simp [rowsL, List.range'_succ]
    rw [e1, e2]
    exact h2
theorem lcGo_new {g : MG} {me : ME} {ρ : Env'} {wi : Its'} (hw : wi.at_ = none) {e : α → W} {r : α → List W} : ∀ (xs : List α) (S : Sto), (∀ x ∈ xs, ∃ ρ1, g (e x) ρ = some ρ1 ∧ ∀ S, me ρ1 S = .ok (.ref S.length) (S ++ [.lst (r x)])) →
    lcGo g tYesM me ρ wi (xs.map e) S = .ok ((List.range' S.length xs.length).map .ref) (S ++ xs.map (fun x => .lst (r x)))
  | [], S, _ => by
    rw [List.map_nil]
    unfold lcGo Its'.stays
    rw [hw]
    simp
  | x :: xs, S, h => by
    obtain ⟨ρ1, h1, h2⟩ := h x (List.mem_cons_self)
    have ih := lcGo_new hw xs (S ++ [.lst (r x)]) fun y hy => h y (List.mem_cons_of_mem _ hy)
    rw [List.map_cons]
    unfold lcGo
    have st : wi.stays S = true := by unfold Its'.stays; rw [hw]
    rw [if_pos st, h1]
    dsimp only
    show R.bind (R.ok true S) _ = _
    rw [R.bind_ok]
    dsimp only
    rw [h2, R.bind_ok, ih, R.bind_ok]
    simp [List.range'_succ]
/-- [a new list for x in xs] -/
theorem q_lcRows {it : MI} {own : List Nat} {g : MG} {me : ME} {ρ : Env'} {e : α → W} {r : α → List W} {xs : List α} (hO : Own S A) (hi : it ρ S = .ok ⟨xs.map e, none⟩ S) (hl : xs.length ≤ 100000) (h : ∀ x ∈ xs, ∃ ρ1, g (e x) (wipeW ρ own) = some ρ1 ∧ ∀ S, me ρ1 S = .ok (.ref S.length) (S ++ [.lst (r x)])) :
    ∃ (ms : List Nat) (S' : Sto), mLc it own g tYesM me ρ S = .ok (.lst (ms.map .ref)) S' ∧ ms.length = (xs.map r).length ∧ Own S' (A ++ rowsL ms (xs.map r)) := by
  refine ⟨List.range' S.length xs.length, S ++ xs.map (fun x => .lst (r x)), ?_, by simp, ?_⟩
  · unfold mLc mLcI
    rw [hi, R.bind_ok]
    dsimp only
    rw [if_pos (by rw [List.length_map]; exact hl), lcGo_new rfl xs S h]
    rfl
  · have := own_app (xs.map r) hO
    rw [List.length_map, List.map_map] at this
    exact this
/-- [tuple(row) for row in rows] -/
theorem q_lcFz {own : List Nat} {i : Nat} {a : ME} {ρ : Env'} (hO : Own S (A ++ rowsL ms rows)) (hl : ms.length = rows.length) (hl2 : rows.length ≤ 100000) (ha : a ρ S = .ok (.lst (ms.map .ref)) S) (hi : i < (wipeW ρ own).length) :
    mLc (mItV a) own (tgN i) tYesM (mAp tupleW (mCons (mVar i) mNil)) ρ S = .ok (.lst (rows.map .tup)) S := by
  have hit : mItV a ρ S = .ok ⟨(ms.zip rows).map fun p => W.ref p.1, none⟩ S := by
    unfold mItV
    rw [ha, R.bind_ok]
    dsimp only
    congr 2
    refine List.ext_getElem? fun j => ?_
    rw [List.getElem?_map, List.getElem?_map]
    by_cases hj : j < rows.length
    · rw [List.getElem?_eq_getElem (by omega), List.getElem?_eq_getElem (by simp; omega)]
      simp [List.getElem_zip]
    · rw [List.getElem?_eq_none (by omega), List.getElem?_eq_none (by simp; omega)]
      rfl
  have := q_lc (xs := ms.zip rows) (e := fun p => W.ref p.1) (d := fun r : List W => .tup r) (f := fun p => p.2) (own := own) (g := tgN i) (me := mAp tupleW (mCons (mVar i) mNil)) hit (by simp; omega) fun p hp => by
    refine ⟨_, rfl, ?_⟩
    have hg : S[p.1]? = some (.lst p.2) := hO.2 (p.1, .lst p.2) (List.mem_append.mpr (.inr (List.mem_map.mpr ⟨p, hp, rfl⟩)))
    refine q_ap (q_cons (x := .ref p.1) (S1 := S) ?_ q_nil) ?_
    · unfold mVar
      rw [List.getElem?_set_self hi]
    · unfold tupleW
      dsimp only
      rw [items_own hg]
  rw [this]
  unfold eL
  congr 2
  refine List.ext_getElem? fun j => ?_
  rw [List.getElem?_map, List.getElem?_map, List.getElem?_map]
  by_cases hj : j < rows.length
  · rw [List.getElem?_eq_getElem hj, List.getElem?_eq_getElem (show j < (ms.zip rows).length by rw [List.length_zip]; omega)]
    simp [List.getElem_zip]
  · rw [List.getElem?_eq_none (show rows.length ≤ j by omega), List.getElem?_eq_none (show (ms.zip rows).length ≤ j by rw [List.length_zip]; omega)]
    rfl
theorem f_idxRow {i : Int} (hl : ms.length = rows.length) (h : 0 ≤ i ∧ i < rows.length) : idxW (.lst (ms.map .ref)) (.int i) S = .ok (.ref (ms.getD i.toNat 0)) S := by
  unfold idxW itemsL
  dsimp only
  have h1 : i.toNat < ms.length := by omega
  have e1 : (i.toNat : Int) = i := Int.toNat_of_nonneg h.1
  have e2 : L2.atI (ms.map W.ref) i = (ms.map W.ref)[i.toNat]? := by
    rw [show L2.atI (ms.map W.ref) i = L2.atI (ms.map W.ref) (i.toNat : Int) by rw [e1], atI_natE (by simpa using h1)]
  rw [e2, List.getElem?_map, List.getElem?_eq_getElem h1]
  simp [List.getD_eq_getElem?_getD, List.getElem?_eq_getElem h1]
/-- rows[i][j] = v -/
theorem w_setRow {mv mo mi mj : ME} {ρ : Env'} {i j : Int} {v : W} {Qn : Env' → Sto → Prop} {Qr : W → Sto → Prop} {Qe : Str → Prop} (hO : Own S (A ++ rowsL ms rows)) (hl : ms.length = rows.length) (hv : mv ρ S = .ok v S) (ho : mo ρ S = .ok (.lst (ms.map .ref)) S) (hi : mi ρ S = .ok (.int i) S) (hj : mj ρ S = .ok (.int j) S)
    (h : 0 ≤ i ∧ i < rows.length) (h2 : 0 ≤ j ∧ j < (rows.getD i.toNat []).length) (k : ∀ S' : Sto, Own S' (A ++ rowsL ms (rows.set i.toNat ((rows.getD i.toNat []).set j.toNat v))) → Qn ρ S') : Ws (mSetIx mv (mBin idxW mo mi) mj ρ S) Qn Qr Qe := by
  have h1 : i.toNat < rows.length := by omega
  unfold mSetIx
  rw [hv, R.bind_ok, q_bin ho hi (f_idxRow hl h), R.bind_ok, hj, R.bind_ok]
  dsimp only
  rw [rows_get hO hl h1]
  dsimp only
  rw [ixN_of h2]
  unfold Ws
  exact k _ (rows_set hO hl h1 _)
end

/-! ### defs run in the caller's store; the law's frame -/
section
variable {S : Sto} {ws : List W} {n L : Nat} {b : MS}
theorem gc {R' : W → Sto → Prop} (hl : ws.length = n) (h : Ws (b (ws.map some ++ List.replicate (L - ws.length) none) S) (fun _ S' => R' .non S') R' (fun _ => False)) : ∃ w S', gCall n (mDef L b) ws S = .ok w S' ∧ R' w S' := by
  unfold gCall
  rw [if_pos hl]
  unfold mDef
  revert h
  unfold Ws
  cases b (ws.map some ++ List.replicate (L - ws.length) none) S with
  | ok f S' =>
    cases f with
    | nx ρ => exact fun h => ⟨_, _, rfl, h⟩
    | ret u => exact fun h => ⟨_, _, rfl, h⟩
    | brk ρ => exact fun h => h.elim
    | cnt ρ => exact fun h => h.elim
  | err c S' => exact fun h => h.elim
  | stuck => exact fun h => h.elim
theorem law_end (h : Ws (b (ws.map some ++ List.replicate (L - ws.length) none) []) (fun _ _ => False) (fun w _ => w = .bl true) (fun _ => False)) : ∃ S', mDef L b ws [] = .ok (.bl true) S' := by
  unfold mDef
  revert h
  unfold Ws
  cases b (ws.map some ++ List.replicate (L - ws.length) none) [] with
  | ok f S' =>
    cases f with
    | nx ρ => exact fun h => h.elim
    | ret u =>
      intro h
      have h : u = .bl true := h
      subst h
      exact ⟨S', rfl⟩
    | brk ρ => exact fun h => h.elim
    | cnt ρ => exact fun h => h.elim
  | err c S' => exact fun h => h.elim
  | stuck => exact fun h => h.elim
theorem law_mk (hc : ncs ws = true) (h : Ws (b (ws.map some ++ List.replicate (L - ws.length) none) []) (fun _ _ => False) (fun w _ => w = .bl true) (fun _ => False)) : mkM L b ws [] = .ok (.bl true) [] := by
  obtain ⟨S', e⟩ := law_end h
  unfold mkM
  dsimp only
  rw [if_pos hc, e]
  rfl
/-- a closure's maker hands it on -/
theorem gC {m : MD} {ms : List LamM} {ρ : Env'} {ws us : List W} {w : W} {S' : Sto} (hl : ws.length = n) (hc : mapO (cvt ms ρ) ws = some us) (hm : m us [] = .ok w S') (hr : w.nr = true) (hn : w.nc = true) : gCallC n m ms ρ ws S = .ok w S := by
  unfold gCallC
  rw [if_pos hl, hc]
  dsimp only
  rw [hm]
  dsimp only
  rw [fz_of hr]
  dsimp only
  rw [if_pos hn]
/-- an error comes out of a call -/
theorem gPE {m : MD} {c : Str} {S' : Sto} (hl : ws.length = n) (hn : nrs ws = true) (h : m ws [] = .err c S') : gPure n m ws S = .err c S := by
  unfold gPure
  rw [if_pos hl, fz_nr hn]
  dsimp only
  rw [h]
theorem gPO {m : MD} {w : W} {S' : Sto} (hl : ws.length = n) (hn : nrs ws = true) (h : m ws [] = .ok w S') (hw : w.nr = true) : gPure n m ws S = .ok w S := by
  unfold gPure
  rw [if_pos hl, fz_nr hn]
  dsimp only
  rw [h]
  dsimp only
  rw [fz_of hw]
  dsimp only
  rw [hn]
  rfl
end
/-- a drawn state's cell -/
abbrev stO (v : Int) (b : Bool) : O := .lst [.int v, .bl b]
theorem w_parO {S : Sto} {L : List (Nat × O)} {ρ : Env'} {i j : Nat} {a : ME} {r : MA} {w : W} {ws : List W} {Qn : Env' → Sto → Prop} {Qr : W → Sto → Prop} {Qe : Str → Prop} (hO : Own S L) (ha : a ρ S = .ok w S) (hr : r ρ S = .ok ws S) (hl : ws.length ≤ 100000)
    (k : ∀ (n : Nat) (S' : Sto), Own S' (L ++ [(n, .lst ws)]) → Qn ((ρ.set i (some w)).set j (some (.ref n))) S') : Ws (mPar i j (mCons a (mCons (mNew r) mNil)) ρ S) Qn Qr Qe :=
  w_par (q_cons ha (q_cons (q_new hr hl) q_nil)) (k _ _ (own_new hO _))
theorem f_shl {S : Sto} {i j : Int} (h : 0 ≤ j ∧ j ≤ 1000 ∧ i.natAbs < 2 ^ 64) : shlW (.int i) (.int j) S = .ok (.int (i * 2 ^ j.toNat)) S := by
  unfold shlW
  dsimp only
  rw [if_pos (by simp [h])]
theorem f_isi {S : Sto} {ws : List W} (b : Bool) (h : isiW ws S = .ok (.bl b) S) : isiW ws S = .ok (.bl b) S := h
end Mo

set_option Elab.async false
set_option linter.all false
set_option maxRecDepth 100000
set_option autoImplicit false
/-! Mon28: max, min of tuples of whole numbers too. -/
namespace Mo
open PySem PySem.Spec L2 PySem.SeqAt PySem.W
open PyProof.Rows hiding St
def maxAW (ws : List W) (S : Sto) : R W := match ws with
  | [.tup xs] => (match nonempty intsW xs with
    | some ns => .ok (.int (maxI ns)) S
    | none => .stuck)
  | ws => maxW ws S
def minAW (ws : List W) (S : Sto) : R W := match ws with
  | [.tup xs] => (match nonempty intsW xs with
    | some ns => .ok (.int (minI ns)) S
    | none => .stuck)
  | ws => minW ws S
theorem intsW_datas : ∀ {xs : List W} {ns : List Int}, intsW xs = some ns → datas xs = some (ns.map .int)
  | [], ns, h => by unfold intsW at h; cases h; rfl
  | x :: xs, ns, h => by
    cases x with
    | int i =>
      unfold intsW at h
      cases h2 : intsW xs with
      | none => rw [h2] at h; cases h
      | some bs =>
        rw [h2] at h
        cases h
        unfold datas W.data
        dsimp only
        rw [intsW_datas h2]
        rfl
    | _ => unfold intsW at h; cases h
theorem foldl_maxI : ∀ (ns : List Int) (n : Int), ns.foldl max n = maxI (n :: ns)
  | [], n => rfl
  | m :: ms, n => by
    rw [List.foldl_cons, foldl_maxI ms]
    have e : ∀ k : Int, maxI (n :: m :: ms) = if n < maxI (m :: ms) then maxI (m :: ms) else n := fun _ => rfl
    rw [e 0]
    cases ms with
    | nil =>
      show max n m = if n < m then m else n
      omega
    | cons k ks =>
      have e2 : ∀ q : Int, maxI (q :: k :: ks) = if q < maxI (k :: ks) then maxI (k :: ks) else q := fun _ => rfl
      rw [e2, e2]
      generalize maxI (k :: ks) = z
      split <;> split <;> split <;> omega
theorem foldl_minI : ∀ (ns : List Int) (n : Int), ns.foldl min n = minI (n :: ns)
  | [], n => rfl
  | m :: ms, n => by
    rw [List.foldl_cons, foldl_minI ms]
    have e : ∀ k : Int, minI (n :: m :: ms) = if minI (m :: ms) < n then minI (m :: ms) else n := fun _ => rfl
    rw [e 0]
    cases ms with
    | nil =>
      show min n m = if m < n then m else n
      omega
    | cons k ks =>
      have e2 : ∀ q : Int, minI (q :: k :: ks) = if minI (k :: ks) < q then minI (k :: ks) else q := fun _ => rfl
      rw [e2, e2]
      generalize minI (k :: ks) = z
      split <;> split <;> split <;> omega
theorem alike_ints (ns : List Int) : AlikeAll (ns.map PyData.int) := by
  refine ⟨fun x hx y hy => ?_, fun x hx => ?_⟩
  · obtain ⟨i, _, rfl⟩ := List.mem_map.mp hx
    obtain ⟨j, _, rfl⟩ := List.mem_map.mp hy
    rfl
  · obtain ⟨i, _, rfl⟩ := List.mem_map.mp hx
    exact nofun
theorem depth_ints : ∀ ns : List Int, PyData.depthAll (ns.map PyData.int) = 0
  | [] => by simp [PyData.depthAll]
  | n :: ns => by simp [PyData.depthAll, PyData.depth, depth_ints ns]
section
variable {X : Cx} {G : Glo} {E : XK} {Z : Addr → Prop} {μ : List Addr} {H : Hp} {S : Sto}
theorem c_maxA (hK : X.K = G.K) (hc : X.calm = true) (hu : X.A.units + 64 < cLine) : CallR X (.builtin "max") (cM G E maxAW) := by
  intro pins s σ H vs us Q I rv ⟨ws, S, Z, μ, r, hv, af⟩
  unfold maxAW at af
  split at af
  · rename_i xs
    split at af
    · rename_i ns e
      obtain ⟨e1, n, ms, rfl⟩ := nonempty_ok e
      obtain ⟨v, rfl, h1⟩ := one_of hv
      obtain ⟨a, vs', rfl, q1, q2⟩ := i_tup h1
      rw [Vals.ref1 rv]
      obtain ⟨_, its, r1, r2⟩ := q1.rd.ok I.hok
      obtain ⟨as, rd⟩ := Dp.readsAll I _ _ _ (by rw [hK]; exact data_dps (intsW_datas e1) q2) r1
      refine max_tuple_data (x := .int n) (xs := ms.map .int) (I.ok.hd hc) r2 (by simpa using rd) (alike_ints (n :: ms)) ?_ fun i v h' tk bs _ hr hk => ?_
      · have := depth_ints (n :: ms)
        rw [List.map_cons] at this
        rw [this]; omega
      · rw [maxD_ints, foldl_maxI] at hr
        cases hr
        exact ⟨.int _, H, I.kept hk, ⟨_, rfl⟩, end_val r (vr_int _ _ _) af⟩
    · exact af.elim
  · exact c_max hK hc pins s σ H vs us Q I rv ⟨_, S, Z, μ, r, hv, af⟩
theorem c_minA (hK : X.K = G.K) (hc : X.calm = true) (hu : X.A.units + 64 < cLine) : CallR X (.builtin "min") (cM G E minAW) := by
  intro pins s σ H vs us Q I rv ⟨ws, S, Z, μ, r, hv, af⟩
  unfold minAW at af
  split at af
  · rename_i xs
    split at af
    · rename_i ns e
      obtain ⟨e1, n, ms, rfl⟩ := nonempty_ok e
      obtain ⟨v, rfl, h1⟩ := one_of hv
      obtain ⟨a, vs', rfl, q1, q2⟩ := i_tup h1
      rw [Vals.ref1 rv]
      obtain ⟨_, its, r1, r2⟩ := q1.rd.ok I.hok
      obtain ⟨as, rd⟩ := Dp.readsAll I _ _ _ (by rw [hK]; exact data_dps (intsW_datas e1) q2) r1
      refine min_tuple_data (x := .int n) (xs := ms.map .int) (I.ok.hd hc) r2 (by simpa using rd) (alike_ints (n :: ms)) ?_ fun i v h' tk bs _ hr hk => ?_
      · have := depth_ints (n :: ms)
        rw [List.map_cons] at this
        rw [this]; omega
      · rw [minD_ints, foldl_minI] at hr
        cases hr
        exact ⟨.int _, H, I.kept hk, ⟨_, rfl⟩, end_val r (vr_int _ _ _) af⟩
    · exact af.elim
  · exact c_min hK hc pins s σ H vs us Q I rv ⟨_, S, Z, μ, r, hv, af⟩
theorem f_maxT {xs : List Int} (h : xs ≠ []) : maxAW [eT W.int xs] S = .ok (.int (maxI xs)) S := by
  unfold maxAW eT nonempty; dsimp only; rw [intsW_map]
  cases xs
  · exact absurd rfl h
  · rfl
theorem f_minT {xs : List Int} (h : xs ≠ []) : minAW [eT W.int xs] S = .ok (.int (minI xs)) S := by
  unfold minAW eT nonempty; dsimp only; rw [intsW_map]
  cases xs
  · exact absurd rfl h
  · rfl
theorem f_maxA {xs : List Int} (h : xs ≠ []) : maxAW [eL W.int xs] S = .ok (.int (maxI xs)) S := f_max h
theorem f_minA {xs : List Int} (h : xs ≠ []) : minAW [eL W.int xs] S = .ok (.int (minI xs)) S := f_min h
end
end Mo

set_option Elab.async false
set_option linter.all false
set_option maxRecDepth 100000
set_option autoImplicit false
/-! Mon29: rows of whole numbers in the store. -/
namespace Mo
open PySem PySem.Spec L2
theorem own_perm {S : Sto} {L L' : List (Nat × O)} (h : Own S L) (p : L.Perm L') : Own S L' :=
  ⟨(p.map Prod.fst).nodup_iff.mp h.1, fun q hq => h.2 q (p.mem_iff.mpr hq)⟩
theorem own_sub {S : Sto} {L L' : List (Nat × O)} (h : Own S L) (p : L'.Sublist L) : Own S L' :=
  ⟨h.1.sublist (p.map _), fun q hq => h.2 q (p.subset hq)⟩
def rowsI (ms : List Nat) (R : List (List Int)) : List (Nat × O) := rowsL ms (R.map (List.map W.int))
def setE (R : List (List Int)) (i j v : Int) : List (List Int) := R.set i.toNat ((gI R i).set j.toNat v)
section
variable {S : Sto} {A : List (Nat × O)} {ms : List Nat} {R : List (List Int)} {ρ : Env'} {mo mv mi mj : ME} {i j v : Int} {Qn : Env' → Sto → Prop} {Qr : W → Sto → Prop} {Qe : Str → Prop}
theorem gI_getD {i : Int} (h : 0 ≤ i ∧ i < R.length) : (R.map (List.map W.int)).getD i.toNat [] = (gI R i).map W.int := by
  have h2 : i.toNat < R.length := by omega
  unfold gI
  simp [List.getD_eq_getElem?_getD, List.getElem?_eq_getElem h2]
theorem setE_map (h : 0 ≤ i ∧ i < R.length) : (R.map (List.map W.int)).set i.toNat (((R.map (List.map W.int)).getD i.toNat []).set j.toNat (.int v)) = (setE R i j v).map (List.map W.int) := by
  rw [gI_getD h]
  unfold setE
  rw [← List.map_set, ← List.map_set]
theorem w_setRowI (hO : Own S (A ++ rowsI ms R)) (hl : ms.length = R.length) (hv : mv ρ S = .ok (.int v) S) (ho : mo ρ S = .ok (.lst (ms.map .ref)) S) (hi : mi ρ S = .ok (.int i) S) (hj : mj ρ S = .ok (.int j) S)
    (h : 0 ≤ i ∧ i < R.length) (h2 : 0 ≤ j ∧ j < (gI R i).length) (k : ∀ S' : Sto, Own S' (A ++ rowsI ms (setE R i j v)) → Qn ρ S') : Ws (mSetIx mv (mBin idxW mo mi) mj ρ S) Qn Qr Qe := by
  refine w_setRow hO (by simpa using hl) hv ho hi hj (by simpa using h) (by rw [gI_getD h]; simpa using h2) fun S' h' => k S' ?_
  rw [setE_map h] at h'
  exact h'
theorem q_freeze {own : List Nat} {k : Nat} (hO : Own S (A ++ rowsI ms R)) (hl : ms.length = R.length) (hl2 : R.length ≤ 100000) (ha : mo ρ S = .ok (.lst (ms.map .ref)) S) (hk : k < (wipeW ρ own).length) :
    mAp tupleW (mCons (mLc (mItV mo) own (tgN k) tYesM (mAp tupleW (mCons (mVar k) mNil))) mNil) ρ S = .ok (eT (eT W.int) R) S := by
  refine q_ap (q_cons (q_lcFz hO (by simpa using hl) (by simpa using hl2) ha hk) q_nil) ?_
  unfold tupleW itemsL eT
  dsimp only
  rw [List.map_map]
  rfl
theorem q_row {o : Nat} (hO : Own S (A ++ rowsI ms R)) (hl : ms.length = R.length) (ho : mo ρ S = .ok (.lst (ms.map .ref)) S) (hi : mi ρ S = .ok (.int i) S) (hj : mj ρ S = .ok (.int j) S) (h : 0 ≤ i ∧ i < R.length) (h2 : 0 ≤ j ∧ j < (gI R i).length) :
    mBin idxW (mBin idxW mo mi) mj ρ S = .ok (.int (gI (gI R i) j)) S := by
  refine q_bin (q_bin ho hi (f_idxRow (rows := R.map (List.map W.int)) (by simpa using hl) (by simpa using h))) hj ?_
  have := rows_get (A := A) (ms := ms) hO (by simpa using hl) (i := i.toNat) (by rw [List.length_map]; omega)
  rw [gI_getD h] at this
  exact f_idxR this h2
end
theorem setE_len {R : List (List Int)} {i j v : Int} : (setE R i j v).length = R.length := by unfold setE; simp
theorem gI_set {α : Type} [Inhabited α] {xs : List α} {i k : Int} {v : α} (hi : 0 ≤ i ∧ i < xs.length) (hk : 0 ≤ k ∧ k < xs.length) : gI (xs.set i.toNat v) k = if k = i then v else gI xs k := by
  unfold gI
  by_cases h : k = i
  · subst h
    rw [if_pos rfl]
    have : k.toNat < xs.length := by omega
    simp [List.getD_eq_getElem?_getD, this]
  · rw [if_neg h]
    have : i.toNat ≠ k.toNat := by omega
    simp [List.getD_eq_getElem?_getD, List.getElem?_set_ne this]
theorem setE_row {R : List (List Int)} {i j v k : Int} (hi : 0 ≤ i ∧ i < R.length) (hk : 0 ≤ k ∧ k < R.length) : (gI (setE R i j v) k).length = (gI R k).length := by
  unfold setE
  rw [gI_set hi hk]
  split
  · rename_i h; subst h; simp
  · rfl
theorem setE_at {R : List (List Int)} {i j v k l : Int} (hi : 0 ≤ i ∧ i < R.length) (hj : 0 ≤ j ∧ j < (gI R i).length) (hk : 0 ≤ k ∧ k < R.length) (hl : 0 ≤ l ∧ l < (gI R k).length) : gI (gI (setE R i j v) k) l = if k = i ∧ l = j then v else gI (gI R k) l := by
  unfold setE
  rw [gI_set hi hk]
  by_cases h : k = i
  · subst h
    rw [if_pos rfl, gI_set hj hl]
    by_cases h2 : l = j
    · rw [if_pos h2, if_pos ⟨rfl, h2⟩]
    · rw [if_neg h2, if_neg fun z => h2 z.2]
  · rw [if_neg h, if_neg fun z => h z.1]
instance : Inhabited W := ⟨.non⟩
theorem q_apE {f : List W → Sto → R W} {r : MA} {ρ : Env'} {S S1 S2 : Sto} {ws : List W} {c : Str} (hr : r ρ S = .ok ws S1) (hf : f ws S1 = .err c S2) : mAp f r ρ S = .err c S2 := by
  unfold mAp; rw [hr, R.bind_ok, hf]
theorem run_ws {L : Nat} {b : MS} {ws : List W} {S S1 : Sto} {u : W} (h : Ws (b (ws.map some ++ List.replicate (L - ws.length) none) S) (fun _ _ => False) (fun w S' => w = u ∧ S' = S1) (fun _ => False)) : mDef L b ws S = .ok u S1 := by
  unfold mDef
  revert h
  unfold Ws
  cases b (ws.map some ++ List.replicate (L - ws.length) none) S with
  | ok f S' =>
    cases f with
    | nx ρ => exact fun h => h.elim
    | ret u =>
      rintro ⟨rfl, rfl⟩
      rfl
    | brk ρ => exact fun h => h.elim
    | cnt ρ => exact fun h => h.elim
  | err c S' => exact fun h => h.elim
  | stuck => exact fun h => h.elim
theorem q_callC {n : Nat} {m : MD} {ms : List LamM} {r : MA} {ρ : Env'} {S S1 : Sto} {ws : List W} {w : W} (hr : r ρ S = .ok ws S1) (h : gCallC n m ms ρ ws S1 = .ok w S1) : mCallC n m ms r ρ S = .ok w S1 := by
  unfold mCallC; rw [hr, R.bind_ok, h]
theorem q_callCB {n : Nat} {m : MD} {ms : List LamM} {own : List Nat} {r : MA} {ρ : Env'} {S S1 : Sto} {ws : List W} {w : W} (hr : r ρ S = .ok ws S1) (h : gCallC n m ms (wipeW ρ own) ws S1 = .ok w S1) : mCallCB n m ms own r ρ S = .ok w S1 := by
  unfold mCallCB; rw [hr, R.bind_ok, h]
/-- a lambda's captured names, one by one -/
theorem cap_nil {ρ : Env'} : capOf ρ [] = some [] := rfl
theorem cap_cons {ρ : Env'} {j : Nat} {js : List Nat} {u : W} {us : List W} (h : ρ[j]? = some (some u)) (hr : u.nr = true) (hc : u.nc = true) (k : capOf ρ js = some us) : capOf ρ (j :: js) = some (u :: us) := by
  unfold capOf; rw [h]; dsimp only; rw [hr, hc, k]; rfl
theorem cvt_clo {ms : List LamM} {ρ : Env'} {k : Nat} {M : LamM} {us : List W} (hm : ms[k]? = some M) (h : capOf ρ M.js = some us) : cvt ms ρ (.clo k []) = some (.clo k us) := by
  unfold cvt; dsimp only; rw [hm]; dsimp only; rw [h]
theorem cvt_val {ms : List LamM} {ρ : Env'} {w : W} (hr : w.nr = true) (hc : w.nc = true) : cvt ms ρ w = some w := by
  cases w with
  | clo k us => unfold W.nc at hc; cases hc
  | _ => unfold cvt; dsimp only; rw [hr, hc]; rfl
theorem map_nil {f : W → Option W} : mapO f [] = some [] := rfl
theorem map_cons {f : W → Option W} {w u : W} {ws us : List W} (h : f w = some u) (k : mapO f ws = some us) : mapO f (w :: ws) = some (u :: us) := by
  unfold mapO; rw [h, k]
theorem f_lenS {S : Sto} (ns : List Int) : lenW [.scr ns] S = .ok (.int ns.length) S := by
  unfold lenW itemsL; dsimp only; rw [List.length_map]
/-- a joint of two ways -/
theorem w_cut {r : R Fl} {Qn : Env' → Sto → Prop} {Qr : W → Sto → Prop} {Qe : Str → Prop} (Q : Env' → Sto → Prop) (h : Ws r Q Qr Qe) (k : ∀ ρ S, Q ρ S → Qn ρ S) : Ws r Qn Qr Qe := h.imp k fun _ _ => id
end Mo

set_option Elab.async false
set_option linter.all false
set_option maxRecDepth 100000
set_option autoImplicit false
/-! Mon30: a set out of a list of whole numbers; sorted of it; its length. -/
namespace Mo
open PySem PySem.Spec L2 PySem.SeqAt PySem.W
open PyProof.Rows hiding St
/-- a set just made -/
abbrev fsO (w : World) : Obj := { cls := .type "set", dict := none, data := .set #[] 0 (.fresh 0 0 (!w.params.followText "set-order")) }
section
variable {P : Program} {w : World} {A : Around} {E : Value → Shared → Prop} {s : Shared}
set_option maxHeartbeats 3200000 in
theorem set_ofL {l : Addr} {us : Array Value} (is : List Int) {Q : Value → Shared → Prop} (hA : A.handled = none) (hL : s.heap.IsList l us) (hI : IntsAre us.toList is) (hB : is.length + 1 < scanBound)
    (fin : ∀ (h2 : Heap) (k m : Nat), SetR w h2 s.heap.objs.size (fun j => decide (j ∈ is)) m → m ≤ is.length → (∀ b o, s.heap.get? b = some o → h2.get? b = some o) → Q (.ref s.heap.objs.size) { s with heap := h2, toks := k }) :
    wpAny (model P w) A (call (.type "set") [.ref l]) Q E s := by
  have zs : us.size = is.length := by rw [← Array.length_toList]; exact IntsAre.length hI
  have C := F.called_set
  obtain ⟨c0, t0, m0⟩ := C.mro
  have m1 := C.made
  have m2 := C.sub
  apply wpAny_call
  apply codeAny_of_tree
  show wpAny _ _ (callAny (.type "set") _) _ _ _
  apply wpAny_pure
  refine ⟨Code.quiet_builtin _ (by decide +kernel), codeAny_builtin F.entry_type_call ?_⟩
  rw [Around.under_plain (weight_type_call_type "set" [.ref l] []) rfl]
  have m3 := C.notType
  have m4 := C.canCreate
  have m5 := F.typeCall_set_1 (.ref l)
  repeat (any_goals (first | assumption | wp_step))
  refine codeAny_mono (code_set_led1 (.ref l) (E := E) (Q₁ := fun x s1 => x = .ref s.heap.objs.size ∧ s1 = { s with heap := s.heap.push (fsO w) }) ⟨rfl, rfl⟩) fun r s1 hr => ?_
  rcases r with e | fl
  · exact hr
  cases fl with
  | next => exact hr.elim
  | brk => exact hr.elim
  | cont => exact hr.elim
  | ret x =>
    obtain ⟨rfl, rfl⟩ := hr
    have hS : (s.heap.push (fsO w)).get? s.heap.objs.size = some (fsO w) := Heap.get?_push_size _ rfl
    have hT : Shared.TypeIs { s with heap := s.heap.push (fsO w) } (.ref s.heap.objs.size) "set" := ⟨_, hS, rfl⟩
    have l1 := C.init.lookup
    have l2 := C.init.bind (.ref s.heap.objs.size)
    repeat (any_goals (first | assumption | wp_step))
    let Done : Value → Shared → Prop := fun v s2 => v = .none ∧ ∃ h2 k m, s2 = { s with heap := h2, toks := k } ∧ SetR w h2 s.heap.objs.size (fun j => decide (j ∈ is)) m ∧ m ≤ is.length ∧ ∀ b o, s.heap.get? b = some o → h2.get? b = some o
    refine codeAny_mono (codeAny_call_builtin (R := wants Done E) C.init.plain F.entry_set_init (check_set_init_1 hT ?_)) fun r2 s2 hr2 => ?_
    · obtain ⟨⟨oc, od, oda, osl⟩, ho, q1, nl, q2⟩ := hL
      dsimp only at q1 q2
      subst q1 q2
      have ho' := Heap.get?_push_of_some (fsO w) ho
      have b1 := F.sub_list_set
      have b2 := F.sub_list_frozenset
      have b3 : (Value.type "list" == Value.type "dict") = false := by decide
      have hL1 : (s.heap.push (fsO w)).IsList l us := ⟨_, ho', rfl, nl, rfl⟩
      unfold Builtin.«set.__init__» noKeywords Builtin.Frozenset.updateFrom
      generalize hPI : pyIter = PI
      wp_walk
      subst hPI
      refine wpAny_pyIter_list hL1 (wpAny_bind (wpAny_runValue ?_))
      have lt := Heap.lt_size ho
      have zp : (s.heap.push (fsO w)).objs.size = s.heap.objs.size + 1 := Heap.size_push ..
      have n1 : l ≠ (s.heap.push (fsO w)).objs.size := fun e => by rw [zp] at e; rw [e] at lt; exact absurd lt (Nat.not_lt.mpr (Nat.le_succ _))
      have n2 : s.heap.objs.size ∉ [(s.heap.push (fsO w)).objs.size, l] := by
        rw [zp, List.mem_cons, List.mem_singleton]
        rintro (e | e)
        · exact absurd e (Nat.ne_of_lt (Nat.lt_succ_self _))
        · rw [← e] at lt; exact absurd lt (Nat.lt_irrefl _)
      have hv : ∀ (i : Nat) (v : Value), us[i]? = some v → ∃ k t, is[i]? = some k ∧ v = .int k t := fun i v hv => by
        obtain ⟨t, e⟩ := PyProof.Rows.IntsAre.int_at hI i v (by rw [Array.getElem?_toList]; exact hv)
        have hi : i < is.length := by have := (Array.getElem?_eq_some_iff.mp hv).1; omega
        exact ⟨is[i], t, List.getElem?_eq_getElem hi, by rw [e, List.getD_eq_getElem?_getD, List.getElem?_eq_getElem hi]; rfl⟩
      refine set_update_ints ((Walks.list (A := A.in1.in1.in1) (by simp [hA]) _ l n1 us).toS) s.heap.objs.size n2 is zs hB hv (us.size - 0) 0 _ (by omega) (Nat.zero_le _) ?q1 ⟨0, Nat.le_refl 0, ?q0⟩ ?_
      case q1 => exact ⟨⟨_, Heap.get?_push_size _ rfl, rfl, rfl⟩, hL1.push _⟩
      case q0 => exact setR_new_at (Heap.get?_push_of_some _ hS)
      rintro ⟨h2, g2, d2, k2, o2⟩ m mv hm hR
      have e1 : g2 = s.gens := mv.gens
      have e2 : d2 = s.drawn := mv.drawn
      have e3 : o2 = s.os := mv.os
      subst e1 e2 e3
      show wpAny _ _ _ _ _ _
      apply wpAny_pure
      show wpAny _ _ (ret Value.none) _ _ _
      apply wpAny_pure
      refine ⟨rfl, h2, k2, m, rfl, hR, by omega, fun b o e => mv.heap b o ?_ (Heap.get?_push_of_some _ (Heap.get?_push_of_some _ e))⟩
      have q := Heap.lt_size e
      rw [zp, List.mem_cons, List.mem_singleton]
      rintro (z | z)
      · rw [z] at q; exact absurd q (Nat.lt_irrefl _)
      · rw [z] at q; exact absurd q (Nat.not_lt.mpr (Nat.le_succ _))
    · rcases r2 with e | fl2
      · exact hr2
      cases fl2 with
      | next => exact hr2.elim
      | brk => exact hr2.elim
      | cont => exact hr2.elim
      | ret v =>
        obtain ⟨rfl, h2, k, m, rfl, q1, q2, q3⟩ := hr2
        repeat (any_goals (first | assumption | wp_step))
        exact fin _ _ _ q1 q2 q3
end
/-- each once -/
def dedupI : List Int → List Int
  | [] => []
  | x :: xs => if (dedupI xs).contains x then dedupI xs else x :: dedupI xs
theorem dedupI_mem {a : Int} : ∀ {xs : List Int}, a ∈ dedupI xs ↔ a ∈ xs
  | [] => by simp [dedupI]
  | x :: xs => by
    unfold dedupI
    split
    · rename_i h
      rw [dedupI_mem, List.mem_cons]
      exact ⟨.inr, fun z => z.elim (fun e => e ▸ dedupI_mem.mp (List.contains_iff_mem.mp h)) id⟩
    · rw [List.mem_cons, List.mem_cons, dedupI_mem]
theorem dedupI_nodup : ∀ {xs : List Int}, (dedupI xs).Nodup
  | [] => List.nodup_nil
  | x :: xs => by
    unfold dedupI
    split
    · exact dedupI_nodup
    · rename_i h
      exact List.nodup_cons.mpr ⟨fun z => h (List.contains_iff_mem.mpr z), dedupI_nodup⟩
theorem dedupI_len : ∀ {xs : List Int}, (dedupI xs).length ≤ xs.length
  | [] => Nat.le_refl _
  | x :: xs => by
    have := dedupI_len (xs := xs)
    unfold dedupI
    split <;> simp <;> omega
/-- sorted(set(..)) -/
def sortU (is : List Int) : List Int := sortI (dedupI is)
theorem setR_len {w : World} {h : Heap} {a : Addr} {S : Int → Bool} {n : Nat} {is : List Int} (R : SetR w h a S n) (hS : ∀ k, S k = true ↔ k ∈ is) : n = (dedupI is).length := by
  obtain ⟨o, es, ep, t, _, _, _, _, nd, hm, _, _, hn, _⟩ := R
  have : (es.toList.map keyOf).Perm (dedupI is) := (List.perm_ext_iff_of_nodup nd dedupI_nodup).mpr fun k => by rw [← hm k, hS k, dedupI_mem]
  have e := this.length_eq
  rw [List.length_map, Array.length_toList] at e
  omega
def rSetLT (K : PySem.W.Frag) (w : World) : List V → Hp → VK → Prop := fun vs H Q => ∃ (a : Addr) (is : List Int), vs = [V.ref a] ∧ (SqL K H a (is.map V.int) ∨ SqT K H a (is.map V.int)) ∧ is.length + 1 < scanBound ∧
  ∀ (p : Addr) (S : Int → Bool), (∀ k, S k = true ↔ k ∈ is) → H p = none → Q (.ref p) (upd H p (SetO w p S (dedupI is).length))
section
variable {X : Cx} {G : Glo} {E : XK}
theorem cr_setLT (hc : X.calm = true) : CallR X (.type "set") (rSetLT X.K X.w) := by
  rintro pins s σ H vs us Q I r ⟨a, is, rfl, hs, hb, q⟩
  rw [Vals.ref1 r]
  have dn : ∀ k, decide (k ∈ is) = true ↔ k ∈ is := fun k => decide_eq_true_iff
  have hn : H s.heap.objs.size = none := I.hok.fresh (Nat.le_refl _)
  have go : ∀ (h2 : Heap) (k m : Nat), SetR X.w h2 s.heap.objs.size (fun j => decide (j ∈ is)) m → m ≤ is.length → (∀ b o, s.heap.get? b = some o → h2.get? b = some o) → (EP X pins σ Q) (.ref s.heap.objs.size) { s with heap := h2, toks := k } := fun h2 k m R _ hk => by
    have em := setR_len R dn
    subst em
    exact ⟨.ref _, upd H s.heap.objs.size (SetO X.w s.heap.objs.size (fun j => decide (j ∈ is)) (dedupI is).length), I.laid (t' := k) hk (Nat.le_refl _) (setO_new R), rfl, q _ _ dn hn⟩
  rcases hs with hs | hs
  · obtain ⟨its, rv, hl, _⟩ := I.list hs
    exact set_ofL is (I.ok.hd hc) hl.isList (by simpa using rv.ints) hb go
  · obtain ⟨its, rv, hl, _⟩ := I.tuple hs
    exact call_set_tupI is (I.ok.hd hc) hl (by simpa using rv.ints) hb go
def intsOf (S : Sto) (w : W) : Option (List Int) := match anyL S w with
  | some xs => intsW xs
  | none => none
def ssetW (ws : List W) (S : Sto) : R W := match ws with
  | [x] => (match intsOf S x with
    | some is => if is.length < 4000 ∧ (dedupI is).length < 64 then .ok (.lst ((sortU is).map .int)) S else .stuck
    | none => .stuck)
  | _ => .stuck
def lsetW (ws : List W) (S : Sto) : R W := match ws with
  | [x] => (match intsOf S x with
    | some is => if is.length < 4000 then .ok (.int (dedupI is).length) S else .stuck
    | none => .stuck)
  | _ => .stuck
theorem intsOf_ok {Z : Addr → Prop} {μ : List Addr} {H : Hp} {S : Sto} (r : Rel G Z μ H S) {w : W} {v : V} {is : List Int} (e : intsOf S w = some is) (h : VR G Z μ H w v) : ∃ a, v = .ref a ∧ (SqL G.K H a (is.map V.int) ∨ SqT G.K H a (is.map V.int)) := by
  unfold intsOf at e
  split at e
  · rename_i xs e1
    unfold anyL at e1
    split at e1
    · cases e1
      obtain ⟨a, vs, rfl, q1, q2⟩ := i_tup h
      rw [intsW_ok e q2] at q1
      exact ⟨a, rfl, .inr q1.sq⟩
    · obtain ⟨a, vs, rfl, q1, q2⟩ := itemsL_ok r e1 h
      rw [intsW_ok e q2] at q1
      exact ⟨a, rfl, .inl q1⟩
  · cases e
variable {a : Expr} {ma : ME} {p p2 pos pos2 : Pos}
theorem rising_is {ns is : List Int} (h : ns.Pairwise (· < ·)) (k : ∀ x, x ∈ ns ↔ x ∈ is) : ns = sortU is := by
  have h1 : ns.Perm (sortU is) := by
    refine (List.perm_ext_iff_of_nodup (h.imp fun z => by omega) ?_).mpr fun x => ?_
    · unfold sortU sortI
      exact (isort_perm leI (dedupI is)).nodup_iff.mpr dedupI_nodup
    · rw [k x]
      unfold sortU sortI
      rw [(isort_perm leI (dedupI is)).mem_iff, dedupI_mem]
  refine h1.eq_of_pairwise (le := (· ≤ ·)) (fun a b _ _ h1 h2 => by omega) (h.imp fun z => by omega) ?_
  unfold sortU sortI
  exact (isort_pw leI (fun a b => by simp [leI]; omega) (fun a b c h1 h2 => by simp [leI] at *; omega) (dedupI is)).imp fun z => of_decide_eq_true z
theorem em_sset (hK : X.K = G.K) (hm : X.mg "sorted" = none) (hm2 : X.mg "set" = none) (ha : PE X a (tM G E ma)) (hc : X.calm = true := by rfl) (hg : Gl X "sorted" := by rfl) (hg2 : Gl X "set" := by rfl)
    (na : starEach [a] X.env = (false, eval a X.env) :: starEach [] X.env := by rfl) (nb : starEach [.Call (.Name "set" p2) [a] [] pos2] X.env = (false, eval (.Call (.Name "set" p2) [a] [] pos2) X.env) :: starEach [] X.env := by rfl) :
    PE X (.Call (.Name "sorted" p) [.Call (.Name "set" p2) [a] [] pos2] [] pos) (tM G E (mAp ssetW (mCons ma mNil))) :=
  (pe_callB (cr_sortedSet hc) hg hm rfl (pa_cons (pe_callTy (cr_setLT hc) hg2 hm2 rfl (pa_cons ha pa_nil na) (by decide) (by decide) na) pa_nil nb) (by decide) (by decide) nb).weak fun σ H Q ⟨ρ, S, Z, μ, r, er, af⟩ => by
    have h := Aft.bind af
    unfold mCons at h
    refine ⟨ρ, S, Z, μ, r, er, Aft.imp (Aft.bind h) fun w Z1 μ1 H1 S1 _ g1 r1 a1 x hx => ?_⟩
    have a2 := Aft.here (E := E) r1 a1
    unfold ssetW at a2
    dsimp only at a2
    cases e : intsOf S1 w with
    | none => rw [e] at a2; exact a2.elim
    | some is =>
      rw [e] at a2
      dsimp only at a2
      split at a2
      · rename_i hl
        obtain ⟨ad, rfl, hs⟩ := intsOf_ok r1 e hx
        refine ⟨ad, is, rfl, by rw [hK]; exact hs, by unfold scanBound; omega, fun q Sb hS hq => ⟨q, Sb, _, rfl, upd_same, hl.2, fun ns p3 h1 h2 h3 hp3 => ?_⟩⟩
        have hns : ns = sortU is := rising_is h1 fun k => (h2 k).trans (hS k)
        subst hns
        have r2 := r1.add (o := SetO X.w q Sb (dedupI is).length) hq
        have a3 := Aft.mono r2 (Grow.add hq) a2
        exact end_lst r2 (ints_vrs _) a3 p3 hp3
      · exact a2.elim
end
end Mo

set_option Elab.async false
set_option linter.all false
set_option maxRecDepth 100000
set_option autoImplicit false
/-! Mon31: sum of lists, from an empty list on. -/
namespace Mo
open PySem PySem.Spec L2 PySem.SeqAt PySem.W
open PyProof.Rows hiding St
/-- a list's object -/
abbrev lsO (us : Array Value) (n : Nat) : Obj := { cls := .type "list", dict := none, data := .seq us n, slots := #[] }
theorem args_sum2 (a b : Value) : argsOk "sum" ⟨[a, b], []⟩ := by unfold argsOk; kernel_rfl
/-- the items of some lists, one behind the other -/
def catTo (its : Nat → List Value) : Nat → List Value
  | 0 => []
  | k + 1 => catTo its k ++ its k
section
variable {P : Program} {w : World} {A : Around} {E : Value → Shared → Prop} {s : Shared}
theorem sum_turns {R : Result → Shared → Prop} {I S : Addr} {n : Nat} {St : Nat → Heap → Prop} {fp : List Addr} {Pv : Nat → Value → Prop} (Wk : Walks P w A.in1 I fp [I] n Pv St) (hSf : S ∉ fp) (hSI : S ≠ I) (h0 : Heap) (hS0 : h0.get? S = none) (hSz : h0.objs.size ≤ S) (hIo : ∀ i h, St i h → ∃ o, h.get? I = some o) (hI0 : h0.get? I = none) (its : Nat → List Value) (z : Addr)
    (hp : ∀ i v, i < n → Pv i v → ∃ a m, v = .ref a ∧ h0.get? a = some (lsO (its i).toArray m)) (hz : ∀ k, k ≤ n → (catTo its k).length ≤ 16000) (hz2 : ∀ i, i < n → (its i).length ≤ 300) :
    ∀ (k i : Nat) (s : Shared) (q : Addr) (m c : Nat), n - i = k → i ≤ n → St i s.heap → (∀ b o, h0.get? b = some o → s.heap.get? b = some o) → s.heap.get? S = some (lsO #[.ref q] c) → q ≠ I → q ≠ S → s.heap.get? q = some (lsO (catTo its i).toArray m) → (i = 0 → q = z) → (0 < i → h0.objs.size ≤ q) →
      (∀ (h2 : Heap) (tk : Nat) (q m : Nat), (∀ b o, h0.get? b = some o → h2.get? b = some o) → h2.get? q = some (lsO (catTo its n).toArray m) → (n = 0 → q = z) → (0 < n → h0.objs.size ≤ q) → R (.ok (.ret (.ref q))) { s with heap := h2, toks := tk }) →
      codeAny (model P w) A (.builtin "sum.loop" ⟨[.ref I, .ref S, rawInt 2, rawInt 0], []⟩) R s := by
  intro k
  induction k with
  | zero =>
    intro i s q m c hk hi hst hkp hS hqI hqS hq hq0 hq1 fin
    have e : i = n := by omega
    subst e
    refine codeAny_builtin F.entry_sum_loop ?_
    rw [Around.under_plainId F.plain_sum_loop _]
    show wpAny _ A.in1 (seqItems? (.ref S) >>= _) _ _ s
    refine wpAny_bind (wpAny_seqItems hS rfl ?_)
    show wpAny _ A.in1 (tryCatch (pyNext (.ref I)) _ >>= _) _ _ s
    refine wpAny_bind (wpAny_tryCatch (Wk.done s _ _ hst fun h2 tk kept => ?_))
    refine wpAny_pure (fin h2 tk q m (fun b o e => kept b o ?_ (hkp b o e)) (kept q _ ?_ hq) hq0 hq1)
    · intro z
      rw [List.mem_singleton.mp z, hI0] at e
      cases e
    · intro z
      exact hqI (List.mem_singleton.mp z)
  | succ k ih =>
    intro i s q m c hk hi hst hkp hS hqI hqS hq hq0 hq1 fin
    have hlt : i < n := by omega
    refine codeAny_builtin F.entry_sum_loop ?_
    rw [Around.under_plainId F.plain_sum_loop _]
    show wpAny _ A.in1 (seqItems? (.ref S) >>= _) _ _ s
    refine wpAny_bind (wpAny_seqItems hS rfl ?_)
    show wpAny _ A.in1 (tryCatch (pyNext (.ref I)) _ >>= _) _ _ s
    refine wpAny_bind (wpAny_tryCatch (Wk.item i s _ _ hlt hst fun v h1 tk hP hst1 kept => ?_))
    obtain ⟨a, ma, rfl, ha⟩ := hp i v hlt hP
    have hkp1 : ∀ b o, h0.get? b = some o → h1.get? b = some o := fun b o e => kept b o (fun z => by rw [List.mem_singleton.mp z, hI0] at e; cases e) (hkp b o e)
    have hS1 := kept S _ (fun z => hSI (List.mem_singleton.mp z)) hS
    have hq1' := kept q _ (fun z => hqI (List.mem_singleton.mp z)) hq
    have ha1 := hkp1 a _ ha
    have sz := hz (i + 1) hlt
    have sz0 := hz i hi
    refine wpAny_bind (wpAny_attempt (wpAny_holding (PySem.P.add_list (s := { s with heap := h1, toks := tk }) hq1' ha1 ?_ ?_)))
    rotate_left
    · have := hz2 i hlt
      rw [List.size_toArray, List.size_toArray, sizeLine_eq]
      omega
    have lS : S < h1.objs.size := Heap.lt_size hS1
    have lI : ∀ b o, h1.get? b = some o → b ≠ h1.objs.size := fun b o e => Nat.ne_of_lt (Heap.lt_size e)
    have hS2 := Heap.get?_push_of_some (lsO ((catTo its i).toArray ++ (its i).toArray) 0) hS1
    show wpAny _ A.in1 (updateSeq S _ >>= _) _ _ _
    refine wpAny_bind (wpAny_updateSeq hS2 rfl ?_)
    refine wpAny_bind (wpAny_letGo ?_)
    show wpAny _ A.in1 (updateSeq S _ >>= _) _ _ _
    have hS3 := IsL.update (f := fun _ => #[Value.ref h1.objs.size]) hS2
    refine wpAny_bind (wpAny_updateSeq hS3 rfl (wpAny_pure ⟨plainId_quiet F.plain_sum_loop _, ?_⟩))
    have hS4 := IsL.update (f := fun _ => #[Value.ref h1.objs.size]) hS3
    -- the heap behind the turn
    have other : ∀ b o, b ≠ S → (h1.push (lsO ((catTo its i).toArray ++ (its i).toArray) 0)).get? b = some o → (((h1.push (lsO ((catTo its i).toArray ++ (its i).toArray) 0)).update S (Obj.mapSeq fun _ => #[Value.ref h1.objs.size])).update S (Obj.mapSeq fun _ => #[Value.ref h1.objs.size])).get? b = some o := fun b o hb e =>
      (Heap.get?_update_other _ _ (Ne.symm hb)).trans ((Heap.get?_update_other _ _ (Ne.symm hb)).trans e)
    have nq : h1.objs.size ≠ S := Nat.ne_of_gt lS
    refine ih (i + 1) _ h1.objs.size 0 _ (by omega) hlt (Wk.frame _ _ _ hst1 fun b hb o e => other b o (fun z => hSf (z ▸ hb)) (Heap.get?_push_of_some _ e)) (fun b o e => other b o (fun z => by rw [z, hS0] at e; cases e) (Heap.get?_push_of_some _ (hkp1 b o e))) hS4 ?_ nq (other _ _ nq ?_) (fun z => absurd z (Nat.succ_ne_zero i)) (fun _ => ?_) ?_
    · obtain ⟨oI, hI⟩ := hIo _ _ hst1
      exact (Nat.ne_of_lt (Heap.lt_size hI)).symm
    · show _ = some (lsO (catTo its i ++ its i).toArray 0)
      have ea : (catTo its i ++ its i).toArray = (catTo its i).toArray ++ (its i).toArray := by simp
      rw [ea]
      exact Heap.get?_push_size _ rfl
    · exact Nat.le_trans hSz (Nat.le_of_lt lS)
    · intro h2 tk2 q2 m2 f1 f2 f3 f4
      exact fin h2 tk2 q2 m2 f1 f2 f3 f4
theorem sum_lists {l z : Addr} {us : Array Value} {Q : Value → Shared → Prop} (hA : A.handled = none) (hL : s.heap.IsList l us) (its : Nat → List Value) {mz : Nat} (hz0 : s.heap.get? z = some (lsO #[] mz))
    (hp : ∀ (i : Nat) (v : Value), us[i]? = some v → ∃ a m, v = .ref a ∧ s.heap.get? a = some (lsO (its i).toArray m)) (hz : ∀ k, k ≤ us.size → (catTo its k).length ≤ 16000) (hz2 : ∀ i, i < us.size → (its i).length ≤ 300)
    (fin : ∀ (h2 : Heap) (tk : Nat) (q m : Nat), (∀ b o, s.heap.get? b = some o → h2.get? b = some o) → h2.get? q = some (lsO (catTo its us.size).toArray m) → (us.size = 0 → q = z) → (0 < us.size → s.heap.objs.size ≤ q) → Q (.ref q) { s with heap := h2, toks := tk }) :
    wpAny (model P w) A (call (.builtin "sum") [.ref l, .ref z]) Q E s := by
  refine call_function_tree F.kind_sum F.plain_sum F.entry_sum (args_sum2 _ _) ?_
  unfold Builtin.«sum»
  simp only [List.length_cons, List.length_nil]
  rw [if_neg (by decide)]
  refine wpAny_bind (wpAny_of_eq (show Builtin.Builtins.bindParams "sum" ["start"] 0 ⟨[.ref z], []⟩ = pure [some (.ref z)] from rfl) ?_)
  have ll : l < s.heap.objs.size := by obtain ⟨_, e, _⟩ := hL; exact Heap.lt_size e
  refine wpAny_bind (wpAny_pyIter_list hL ?_)
  refine wpAny_bind (wpAny_pure ?_)
  have hT : ∀ (h : Heap) (k : Nat) (g : Array GenState) (d : Drawn) (os : _), h.get? z = some (lsO #[] mz) → Shared.TypeIs ⟨h, g, d, k, os⟩ (.ref z) "list" := fun h k g d os e => ⟨_, e, rfl⟩
  have hz1 := Heap.get?_push_of_some { cls := .type "list_iterator", data := .fields #[.ref l, .int 0 0] } hz0
  simp only [List.forIn_cons, List.forIn_nil]
  refine wpAny_bind (wpAny_bind (wpAny_bind (wpAny_isInstance (T := "list") (b := false) ⟨_, hz1, rfl⟩ F.sub_list_str ?_)))
  simp only [Bool.false_eq_true, if_false]
  refine wpAny_pure (wpAny_bind (wpAny_bind (wpAny_isInstance (T := "list") (b := false) ⟨_, hz1, rfl⟩ F.sub_list_bytes ?_)))
  simp only [Bool.false_eq_true, if_false]
  refine wpAny_pure (wpAny_bind (wpAny_bind (wpAny_isInstance (T := "list") (b := false) ⟨_, hz1, rfl⟩ F.sub_list_bytearray ?_)))
  simp only [Bool.false_eq_true, if_false]
  refine wpAny_pure (wpAny_pure ?_)
  refine wpAny_bind (wpAny_newObj_type ?_)
  have z1 : (s.heap.push { cls := .type "list_iterator", data := .fields #[.ref l, .int 0 0] }).objs.size = s.heap.objs.size + 1 := Heap.size_push ..
  have out : ∀ b, s.heap.objs.size ≤ b → s.heap.get? b = none := fun b hb => by
    cases e : s.heap.get? b with
    | none => rfl
    | some o => exact absurd (Heap.lt_size e) (Nat.not_lt.mpr hb)
  have zlt : z < s.heap.objs.size := Heap.lt_size hz0
  refine wpAny_pure ⟨plainId_quiet F.plain_sum_loop _, sum_turns (n := us.size) (Walks.list (A := A.in1) (by simp [hA]) s.heap.objs.size l (Nat.ne_of_lt ll) us) ?_ ?_ s.heap ?_ ?_ ?_ ?_ its z (fun i v _ h => hp i v h) hz hz2 us.size 0 _ z mz 0 rfl (Nat.zero_le _) ?_ ?_ ?_ ?_ ?_ ?_ ?_ ?_ ?_⟩
  · rw [z1, List.mem_cons, List.mem_singleton]
    rintro (e | e)
    · exact absurd e (Nat.succ_ne_self _)
    · rw [← e] at ll; exact absurd ll (Nat.not_lt.mpr (Nat.le_succ _))
  · rw [z1]; exact Nat.succ_ne_self _
  · exact out _ (by rw [z1]; exact Nat.le_succ _)
  · rw [z1]; exact Nat.le_succ _
  · rintro i h ⟨⟨o, e, _⟩, _⟩; exact ⟨o, e⟩
  · exact out _ (Nat.le_refl _)
  · exact ⟨⟨_, Heap.get?_push_of_some _ (Heap.get?_push_size _ rfl), rfl, rfl⟩, (hL.push _).push _⟩
  · exact fun b o e => Heap.get?_push_of_some _ (Heap.get?_push_of_some _ e)
  · exact Heap.get?_push_size _ rfl
  · exact Nat.ne_of_lt zlt
  · rw [z1]; exact Nat.ne_of_lt (Nat.lt_succ_of_lt zlt)
  · exact Heap.get?_push_of_some _ hz1
  · exact fun _ => rfl
  · exact fun h => absurd h (Nat.lt_irrefl 0)
  · exact fun h2 tk q m f1 f2 f3 f4 => fin h2 tk q m f1 f2 f3 f4
end
/-- the rows of a list of lists -/
def rowsOf : List W → Option (List (List W))
  | [] => some []
  | .lst xs :: ws => match rowsOf ws with
    | some r => some (xs :: r)
    | none => none
  | _ => none
def sumLW (ws : List W) (S : Sto) : R W := match ws with
  | [.lst rows, .lst []] => (match rowsOf rows with
    | some xss => if xss.flatten.length ≤ 16000 ∧ xss.all (fun x => decide (x.length ≤ 300)) = true then .ok (.lst xss.flatten) S else .stuck
    | none => .stuck)
  | _ => .stuck
section
variable {X : Cx} {G : Glo} {E : XK} {Z : Addr → Prop} {μ : List Addr} {H : Hp} {S : Sto} {pins : List (Addr × Obj)} {σ : L2.St} {s : Shared}
theorem rows_held (I : Inv X pins σ H s) : ∀ (rows : List W) (xss : List (List W)) (vs : List V) (us : List Value), rowsOf rows = some xss → VRs G Z μ H rows vs → Vals vs us →
    ∃ (yss : List (List V)) (L : List (List Value)), yss.length = us.length ∧ L.length = us.length ∧ VRs G Z μ H xss.flatten yss.flatten ∧ Vals yss.flatten L.flatten ∧ (∀ (i : Nat) (v : Value), us[i]? = some v → ∃ a m, v = .ref a ∧ s.heap.get? a = some (lsO (L.getD i []).toArray m)) ∧ (∀ (i : Nat), (L.getD i []).length = ((xss.map List.length).getD i 0)) ∧ L.flatten.length = xss.flatten.length
  | [], xss, vs, us, e, h, r => by
    unfold rowsOf at e
    cases e
    unfold VRs at h
    subst h
    cases r
    exact ⟨[], [], rfl, rfl, VRs.nil, .nil, fun i v h => by simp at h, fun i => by simp, rfl⟩
  | w :: rows, xss, vs, us, e, h, r => by
    obtain ⟨v, vr, rfl, h1, h2⟩ : ∃ v q, vs = v :: q ∧ VR G Z μ H w v ∧ VRs G Z μ H rows q := by unfold VRs at h; exact h
    cases w with
    | lst xs =>
      unfold rowsOf at e
      cases e2 : rowsOf rows with
      | none => rw [e2] at e; cases e
      | some r2 =>
        rw [e2] at e
        cases e
        cases r with
        | cons ru rr =>
          rename_i u ur
          obtain ⟨a, ys, rfl, ha, hz, hs⟩ : ∃ a ys, v = .ref a ∧ H a = some (.lst ys) ∧ ¬ Z a ∧ VRs G Z μ H xs ys := by unfold VR at h1; exact h1
          obtain ⟨lz, its, m, ri, hg⟩ := I.hok a _ ha
          obtain ⟨yss, L, l1, l2, q1, q2, q3, q4, q5⟩ := rows_held I rows r2 vr ur e2 h2 rr
          have hu : u = .ref a := ru
          subst hu
          have li : its.length = xs.length := by rw [← ri.length, hs.length]
          refine ⟨ys :: yss, its :: L, by simp [l1], by simp [l2], ?_, ?_, ?_, ?_, ?_⟩
          · rw [List.flatten_cons, List.flatten_cons]; exact VRs.append hs q1
          · rw [List.flatten_cons, List.flatten_cons]; exact Vals.append ri q2
          · intro i v hv
            cases i with
            | zero => simp at hv; subst hv; exact ⟨a, m, rfl, hg⟩
            | succ i => simpa using q3 i v (by simpa using hv)
          · intro i
            cases i with
            | zero => simpa using li
            | succ i => simpa using q4 i
          · rw [List.flatten_cons, List.flatten_cons, List.length_append, List.length_append, li, q5]
    | _ => unfold rowsOf at e; cases e
theorem catTo_flat (L : List (List Value)) : ∀ k, k ≤ L.length → catTo (fun i => L.getD i []) k = (L.take k).flatten
  | 0, _ => by simp [catTo]
  | k + 1, h => by
    have hk : k < L.length := by omega
    unfold catTo
    have e : L.take (k + 1) = L.take k ++ [L[k]] := by
      rw [List.take_succ, List.getElem?_eq_getElem hk]; rfl
    rw [catTo_flat L k (by omega), e, List.flatten_append, List.getD_eq_getElem?_getD, List.getElem?_eq_getElem hk]
    simp only [List.flatten_cons, List.flatten_nil, List.append_nil, Option.getD_some]
theorem c_sumL (hK : X.K = G.K) (hc : X.calm = true) : CallR X (.builtin "sum") (cM G E sumLW) := by
  intro pins s σ H vs us Q I rv ⟨ws, S, Z, μ, r, hv, af⟩
  unfold sumLW at af
  split at af
  case h_2 => exact af.elim
  rename_i rows
  cases e : rowsOf rows with
  | none => rw [e] at af; exact af.elim
  | some xss =>
    rw [e] at af
    dsimp only at af
    split at af
    case isFalse => exact af.elim
    rename_i hl
    obtain ⟨x, y, rfl, h1, h2⟩ := two_of hv
    obtain ⟨a, vs', rfl, ha, hz, hs⟩ : ∃ a ys, x = .ref a ∧ H a = some (.lst ys) ∧ ¬ Z a ∧ VRs G Z μ H rows ys := by unfold VR at h1; exact h1
    obtain ⟨z, ys0, rfl, hz0, hz1, hs0⟩ : ∃ a ys, y = .ref a ∧ H a = some (.lst ys) ∧ ¬ Z a ∧ VRs G Z μ H [] ys := by unfold VR at h2; exact h2
    unfold VRs at hs0
    subst hs0
    cases rv with
    | cons ru rr =>
      cases rr with
      | cons ru2 rr2 =>
        cases rr2
        cases ru
        cases ru2
        obtain ⟨_, its, n, ri, hg⟩ := I.hok a _ ha
        obtain ⟨_, its0, n0, ri0, hg0⟩ := I.hok z _ hz0
        cases ri0
        obtain ⟨yss, L, l1, l2, q1, q2, q3, q4, q5⟩ := rows_held I rows xss vs' its e hs ri
        have sz : its.toArray.size = L.length := by rw [List.size_toArray, l2]
        refine sum_lists (us := its.toArray) (I.ok.hd hc) ⟨_, hg, rfl, n, rfl⟩ (fun i => L.getD i []) hg0 (fun i v hv => q3 i v (by simpa using hv)) (fun k hk => ?_) (fun i hi => ?_) fun h2 tk q m f1 f2 f3 f4 => ?_
        · rw [catTo_flat L k (by omega)]
          have : ((L.take k).flatten).length ≤ L.flatten.length := by
            conv => rhs; rw [← List.take_append_drop k L, List.flatten_append, List.length_append]
            omega
          omega
        · show (L.getD i []).length ≤ 300
          rw [q4 i]
          by_cases hx : i < xss.length
          · have hm := List.all_eq_true.mp hl.2 xss[i] (List.getElem_mem hx)
            have := of_decide_eq_true hm
            simp [List.getD_eq_getElem?_getD, List.getElem?_eq_getElem hx]
            omega
          · simp [List.getD_eq_getElem?_getD, List.getElem?_eq_none (show xss.length ≤ i by omega)]
        · rw [sz, catTo_flat L _ (Nat.le_refl _), List.take_length] at f2
          by_cases h0 : its.toArray.size = 0
          · have ez := f3 h0
            subst ez
            have eL : L = [] := List.eq_nil_of_length_eq_zero (by omega)
            have ex : xss.flatten = [] := List.eq_nil_of_length_eq_zero (by rw [← q5, eL]; rfl)
            rw [ex] at af
            refine ⟨.ref q, H, I.kept f1, rfl, Aft.here r af _ ?_⟩
            unfold VR
            exact ⟨q, [], rfl, hz0, hz1, VRs.nil⟩
          · have hq := f4 (Nat.pos_of_ne_zero h0)
            have hn : H q = none := I.hok.fresh hq
            refine ⟨.ref q, upd H q (.lst yss.flatten), I.laid (t' := tk) f1 hq ⟨?_, L.flatten, m, q2, f2⟩, rfl, end_lst r q1 af q hn⟩
            rw [q1.length, sizeLine_eq]
            omega
theorem f_sumL {S : Sto} {xss : List (List Int)} (h : xss.flatten.length ≤ 16000) (h2 : ∀ x ∈ xss, x.length ≤ 300) : sumLW [eL (eL W.int) xss, .lst []] S = .ok (eL W.int xss.flatten) S := by
  have e : ∀ xss : List (List Int), rowsOf (xss.map (eL W.int)) = some (xss.map (List.map W.int)) := fun xss => by
    induction xss with
    | nil => rfl
    | cons x xs ih => rw [List.map_cons]; unfold eL at ih ⊢; unfold rowsOf; rw [ih]; rfl
  unfold sumLW
  rw [show eL (eL W.int) xss = W.lst (xss.map (eL W.int)) from rfl]
  dsimp only
  rw [e]
  dsimp only
  have e2 : (xss.map (List.map W.int)).flatten = xss.flatten.map W.int := by rw [List.map_flatten]
  rw [e2, if_pos ⟨by rw [List.length_map]; exact h, by simpa using h2⟩]
  rfl
theorem f_sset {S : Sto} {is : List Int} (h : is.length < 4000) (h2 : (dedupI is).length < 64) : ssetW [eL W.int is] S = .ok (eL W.int (sortU is)) S := by
  unfold ssetW intsOf anyL itemsL eL
  dsimp only
  rw [intsW_map]
  dsimp only
  rw [if_pos ⟨h, h2⟩]
end
end Mo

set_option Elab.async false
set_option linter.all false
set_option maxRecDepth 100000
set_option autoImplicit false
/-! Mon32: list.index; list(range(a, b)). -/
namespace Mo
open PySem PySem.Spec L2
open PyProof.Rows hiding St
def indW (w : W) (ws : List W) (S : Sto) : R W := match itemsL S w with
  | some xs => (match intsW xs with
    | some is => (match ws with
      | [.int k] => (match is.findIdx? (· == k) with
        | some j => .ok (.int j) S
        | none => .stuck)
      | _ => .stuck)
    | none => .stuck)
  | none => .stuck
section
variable {X : Cx} {G : Glo} {E : XK}
theorem m_index (hK : X.K = G.K) : MtR X "list.index" (mtM G E indW) := by
  intro pins s σ H x vs v us Q I rx rv ⟨w, ws, S, Z, μ, r, hw, hv, af⟩
  unfold indW at af
  cases e1 : itemsL S w with
  | none => rw [e1] at af; exact af.elim
  | some xs =>
    rw [e1] at af
    dsimp only at af
    cases e2 : intsW xs with
    | none => rw [e2] at af; exact af.elim
    | some is =>
      rw [e2] at af
      dsimp only at af
      split at af
      · rename_i k
        cases e3 : is.findIdx? (· == k) with
        | none => rw [e3] at af; exact af.elim
        | some j =>
          rw [e3] at af
          obtain ⟨a, vs', rfl, q1, q2⟩ := itemsL_ok r e1 hw
          rw [intsW_ok e2 q2] at q1
          obtain ⟨y, rfl, h1⟩ := one_of hv
          obtain ⟨hj, h2, h3⟩ := List.findIdx?_eq_some_iff_getElem.mp e3
          refine mt_index pins s σ H _ _ v us Q I rx rv ⟨a, is.map V.int, .int k, j, .int is[j], rfl, by rw [i_int h1], by rw [hK]; exact q1, rfl, ?_, ?_, ?_, ?_, end_val r (vr_int _ _ _) af⟩
          · rw [List.all_map]; exact List.all_eq_true.mpr fun _ _ => rfl
          · rw [List.getElem?_map, List.getElem?_eq_getElem hj]; rfl
          · exact h2
          · intro m z' hm hz
            have hm2 : m < is.length := by omega
            rw [List.getElem?_map, List.getElem?_eq_getElem hm2] at hz
            cases hz
            have := h3 m hm
            simpa [eqV] using this
      · exact af.elim
end
theorem f_ind {S : Sto} {is : List Int} {k : Int} (h : k ∈ is) : indW (eL W.int is) [.int k] S = .ok (.int (is.idxOf k)) S := by
  unfold indW eL itemsL
  dsimp only
  rw [intsW_map]
  dsimp only
  have : is.findIdx? (· == k) = some (is.idxOf k) := by
    rw [List.findIdx?_eq_some_iff_getElem]
    refine ⟨List.idxOf_lt_length_of_mem h, by simp, fun j hj => ?_⟩
    simp only [Bool.not_eq_true, beq_eq_false_iff_ne]
    have := List.not_of_lt_findIdx (p := (· == k)) hj
    simpa using this
  rw [this]
section
variable {X : Cx} {G : Glo} {E : XK} {a b : Expr} {ma mb : ME} {p pos : Pos}
theorem em_lrng2 {q pos' : Pos} (hm : X.mg "list" = none) (hm2 : X.mg "range" = none) (ha : PE X a (tM G E ma)) (hb : PE X b (tM G E mb)) (hc : X.calm = true := by rfl) (hg : Gl X "list" := by rfl) (hg2 : Gl X "range" := by rfl)
    (na : starEach [a, b] X.env = (false, eval a X.env) :: starEach [b] X.env := by rfl) (nb : starEach [b] X.env = (false, eval b X.env) :: starEach [] X.env := by rfl) (hp : (backTo pos' (starEach [b] X.env)).any (·.1) = false := by rfl)
    (nl : starEach [.Call (.Name "range" q) [a, b] [] pos'] X.env = (false, eval (.Call (.Name "range" q) [a, b] [] pos') X.env) :: starEach [] X.env := by rfl) :
    PE X (.Call (.Name "list" p) [.Call (.Name "range" q) [a, b] [] pos'] [] pos) (tM G E (mAp lrng2W (mCons ma (mCons mb mNil)))) :=
  (pe_listRg hc hg hm (prg_2 hg2 hm2 ha hb na nb hp) nl).weak fun σ H Q ⟨ρ, S, Z, μ, r, er, af⟩ => by
    simp only [mAp, mCons, mNil, R.bind_bind, R.bind_ok] at af
    refine ⟨ρ, S, Z, μ, r, er, Aft.imp (Aft.bind af) fun w Z1 μ1 H1 S1 _ g1 r1 a1 x hx => ?_⟩
    refine ⟨ρ, S1, Z1, μ1, r1, er.mono r g1, Aft.imp (Aft.bind a1) fun u Z2 μ2 H2 S2 _ g2 r2 a2 y hy => ?_⟩
    have hx2 := hx.mono r1 g2
    unfold lrng2W at a2
    split at a2
    · rename_i i j he
      cases he
      split at a2
      · rename_i hj
        refine ⟨i, j, i_int hx2, i_int hy, ⟨by omega, by omega, by omega, by omega, by omega⟩, end_lst r2 ?_ a2⟩
        exact rangeW_v (G := G) (Z := Z2) (μ := μ2) (H := H2) (j - i).toNat i
      · exact a2.elim
    · exact a2.elim
end
end Mo

set_option Elab.async false
set_option linter.all false
set_option maxRecDepth 100000
set_option autoImplicit false
/-! Mon33: t[::-1]. -/
namespace Mo
open PySem PySem.Spec L2 HT
open PyProof.Rows hiding St
theorem rev_pick (xs : Array Value) : ((List.range xs.size).filterMap fun (k : Nat) => xs[((xs.size : Int) - 1 + (k : Int) * (-1)).toNat]?).toArray = xs.toList.reverse.toArray := by
  have e : ∀ k ∈ List.range xs.size, xs[((xs.size : Int) - 1 + (k : Int) * (-1)).toNat]? = some (xs.toList.reverse.getD k .none) := fun k hk => by
    have hk := List.mem_range.mp hk
    have e1 : ((xs.size : Int) - 1 + (k : Int) * (-1)).toNat = xs.size - 1 - k := by omega
    have h1 : xs.size - 1 - k < xs.size := by omega
    have h2 : k < xs.toList.reverse.length := by rw [List.length_reverse, Array.length_toList]; omega
    rw [e1, Array.getElem?_eq_getElem h1, List.getD_eq_getElem?_getD, List.getElem?_eq_getElem h2, List.getElem_reverse]
    simp
  congr 1
  refine List.ext_getElem? fun i => ?_
  have : (List.range xs.size).filterMap (fun (k : Nat) => xs[((xs.size : Int) - 1 + (k : Int) * (-1)).toNat]?) = (List.range xs.size).map fun k => xs.toList.reverse.getD k .none := by
    have cg : ∀ l : List Nat, (∀ k ∈ l, xs[((xs.size : Int) - 1 + (k : Int) * (-1)).toNat]? = some (xs.toList.reverse.getD k .none)) → l.filterMap (fun (k : Nat) => xs[((xs.size : Int) - 1 + (k : Int) * (-1)).toNat]?) = l.map fun k => xs.toList.reverse.getD k .none := by
      intro l
      induction l with
      | nil => intro _; rfl
      | cons a l ih =>
        intro h
        rw [List.filterMap_cons, h a List.mem_cons_self, List.map_cons, ← ih fun k hk => h k (List.mem_cons_of_mem _ hk)]
    exact cg _ e
  rw [this, List.getElem?_map]
  by_cases hi : i < xs.size
  · rw [List.getElem?_range hi, Option.map_some, List.getD_eq_getElem?_getD, List.getElem?_eq_getElem (by simpa using hi)]; rfl
  · rw [List.getElem?_eq_none (by simpa using hi), List.getElem?_eq_none (by simpa using hi)]; rfl
section
variable {P : Program} {w : World} {A : Around} {E : Value → Shared → Prop} {s : Shared}
theorem get_rev {t sl : Addr} {xs : Array Value} {vl vu vs : Value} {Q : Value → Shared → Prop} (ht : IsTup s.heap t xs) (hs : s.heap.IsSliceOf sl vl vu vs) (pl : IsPart vl none) (pu : IsPart vu none) (ps : IsPart vs (some (-1)))
    (hz : xs.size ≤ sizeLine) (h : Q (.ref s.heap.objs.size) { s with heap := s.heap.push { cls := .type "tuple", data := .seq xs.toList.reverse.toArray } }) : wpAny (model P w) A (getItem (.ref t) (.ref sl)) Q E s := by
  have ok : sizeOk (.seq xs.toList.reverse.toArray) := by
    show xs.toList.reverse.toArray.size ≤ sizeLine
    rw [List.size_toArray, List.length_reverse, Array.length_toList]
    exact hz
  obtain ⟨o, e1, e2, e3⟩ := id hs
  have ts : s.TypeIs (.ref sl) "slice" := ⟨o, e1, e2⟩
  unfold getItem
  try with_reducible apply wpAny_holding
  first | refine wpAny_bind (wpAny_pure ?_) | skip
  refine wpAny_bind (wpAny_sequenceKey ht.typeIs (by decide) (wpAny_bind ?_))
  have go := PyProof.Rows.slot_tuple_getitem
  refine wpAny_callSpecial?_slot (name := Str.ofString "__getitem__") ht.typeIs go (wpAny_call_entry go ht.typeIs entry_tuple_getitem ?_ (args_tuple_getitem _ _))
  show wpAny _ _ (Builtin.Tuple.tupleItemsOf (.ref t) >>= _) _ _ s
  refine wpAny_bind (tupleItemsOf_ ht (wpAny_bind (wpAny_typeOf ts ?_)))
  rw [if_pos (by decide)]
  refine wpAny_bind (?_ : wpAny (model P w) _ (Builtin.Slice.sliceApplied (.ref sl) (pure (xs.size : Int))) _ _ s)
  unfold Builtin.Slice.sliceApplied Builtin.Slice.sliceFields
  refine wpAny_bind (wpAny_bind (wpAny_field e1 e3 (x := vl) rfl (wpAny_bind (wpAny_field e1 e3 (x := vu) rfl (wpAny_bind (wpAny_field e1 e3 (x := vs) rfl (wpAny_pure ?_)))))))
  refine wpAny_bind (slicePart_ ps ?_)
  show wpAny _ _ (if ((-1 : Int) == 0) = true then _ else _) _ _ s
  rw [if_neg (by decide)]
  refine wpAny_bind (slicePart_ pl (wpAny_bind (slicePart_ pu (wpAny_bind (wpAny_pure ?_)))))
  have pl2 : Builtin.Slice.slicePlaces ((xs.size : Int) - 1) (-1) (-1) = xs.size := by
    unfold Builtin.Slice.slicePlaces
    rw [if_neg (by decide)]
    by_cases hx : (xs.size : Int) - 1 > -1
    · rw [if_pos hx]
      have : ((xs.size : Int) - 1 - -1 - 1) / (- -1) = xs.size - 1 := by rw [Int.neg_neg, Int.ediv_one]; omega
      rw [this]; omega
    · rw [if_neg hx]; omega
  show wpAny _ _ (pure ((xs.size : Int) - 1, (-1 : Int), Builtin.Slice.slicePlaces ((xs.size : Int) - 1) (-1) (-1))) _ _ s
  rw [pl2]
  apply wpAny_pure
  show wpAny _ _ (if ((xs.size : Int) - 1 == 0 && (-1 : Int) == 1 && xs.size == xs.size) = true then _ else _) _ _ s
  rw [if_neg (by simp), rev_pick]
  first
    | exact wpAny_bind (m := Builtin.Tuple.tupleExact _) (wpAny_newObj_type (wpAny_pure ⟨_, rfl, wpAny_pure h⟩) ok)
    | exact wpAny_bind (m := Builtin.Tuple.tupleExact _) (wpAny_newObj_type (wpAny_bind (wpAny_pure (wpAny_pure ⟨_, rfl, wpAny_pure h⟩))) ok)
    | exact wpAny_bind (wpAny_bind (m := Builtin.Tuple.tupleExact _) (wpAny_newObj_type (wpAny_pure (wpAny_pure ⟨_, rfl, wpAny_pure h⟩)) ok))
    | exact wpAny_bind (wpAny_bind (m := Builtin.Tuple.tupleExact _) (wpAny_newObj_type (wpAny_pure ⟨_, rfl, wpAny_pure h⟩) ok))
end
def revW (w : W) (S : Sto) : R W := match w with
  | .tup ws => .ok (.tup ws.reverse) S
  | _ => .stuck
section
variable {X : Cx} {G : Glo} {E : XK} {e : Expr} {me : ME}
theorem VRs.rev {Z : Addr → Prop} {μ : List Addr} {H : Hp} : ∀ {ws : List W} {vs : List V}, VRs G Z μ H ws vs → VRs G Z μ H ws.reverse vs.reverse
  | [], vs, h => by unfold VRs at h; subst h; exact VRs.nil
  | w :: ws, vs, h => by
    obtain ⟨v, q, rfl, h1, h2⟩ : ∃ v q, vs = v :: q ∧ VR G Z μ H w v ∧ VRs G Z μ H ws q := by unfold VRs at h; exact h
    rw [List.reverse_cons, List.reverse_cons]
    exact VRs.append (VRs.rev h2) (VRs.cons h1 VRs.nil)
theorem pe_revT {te : TE} {k : Nat} {p1 p2 p3 pos : Pos} (he : PE X e te) : PE X (.Subscript e (.Slice none none (some (.UnaryOp .USub (.Constant (.int 1) k p1) p2)) p3) pos)
    (fun σ H Q => te σ H fun x H1 => ∃ a xs, x = .ref a ∧ XT H1 a xs ∧ ∀ (p : Addr) (o : Obj), o.dict = none → H1 p = none → Q (.ref p) (upd H1 p (.frz o (.tup xs.reverse)))) := by
  refine ⟨fun pins s σ H Q I h => ?_⟩
  refine Subscript_ (thn (he.run pins s σ H _ I h) fun v s1 ⟨x, H1, I1, r1, a, xs, ex, hx, q⟩ => ?_)
  subst ex
  obtain rfl : v = .ref a := r1
  have st : PO X (some (.UnaryOp .USub (.Constant (.int 1) k p1) p2)) (tPart (tUn (rU fun i => .int (-i)) (tC (.int 1)))) := po_some (pe_un un_neg pe_int)
  refine wpAny_Slice (thn (po_none.run pins s1 σ H1 (fun o H2 => o = none ∧ H2 = H1) I1 ⟨rfl, rfl⟩) fun vl s2 ⟨_, _, I2, pl, rfl, rfl⟩ => ?_)
  refine thn (po_none.run pins s2 σ _ (fun o H3 => o = none ∧ H3 = _) I2 ⟨rfl, rfl⟩) fun vu s3 ⟨_, _, I3, pu, rfl, rfl⟩ => ?_
  refine thn (st.run pins s3 σ _ (fun o H4 => o = some (-1) ∧ H4 = _) I3 ⟨1, rfl, -1, rfl, rfl, rfl⟩) fun vs s4 ⟨_, _, I4, ps, rfl, rfl⟩ => ?_
  have I5 := I4.kept (h' := s4.heap.push { cls := .type "slice", data := .fields #[vl, vu, vs] }) (t' := s4.toks) fun b ob q => Heap.get?_push_of_some _ q
  obtain ⟨lz, its, r, ht⟩ := hx.rd.ok I5.hok
  refine tail_any (ops := [.ref a, .ref s4.heap.objs.size]) ht.typeIs PyProof.Rows.slot_tuple_getitem.lookup ?_ (by with_unfolding_all rfl)
  have hl := r.length
  refine get_rev ht (Heap.IsSliceOf.new _ vl vu vs) pl pu ps (by rw [List.size_toArray]; omega) ?_
  have hn := I5.hok.fresh (Nat.le_refl _)
  exact ⟨.ref _, _, laid_tup I5 r.reverse (by rw [List.length_reverse]; exact lz), rfl, q _ _ rfl hn⟩
theorem em_rev {k : Nat} {p1 p2 p3 pos : Pos} (he : PE X e (tM G E me)) : PE X (.Subscript e (.Slice none none (some (.UnaryOp .USub (.Constant (.int 1) k p1) p2)) p3) pos) (tM G E (mUn revW me)) :=
  (pe_revT he).weak fun σ H Q ⟨ρ, S, Z, μ, r, er, af⟩ => ⟨ρ, S, Z, μ, r, er, Aft.imp (Aft.bind af) fun w Z1 μ1 H1 S1 _ g1 r1 a1 x hx => by
    unfold revW at a1
    split at a1
    · obtain ⟨a, vs, rfl, q1, q2⟩ := i_tup hx
      exact ⟨a, vs, rfl, q1, end_tup r1 q2.rev a1⟩
    · exact a1.elim⟩
end
theorem f_rev {α : Type} {e : α → W} {xs : List α} {S : Sto} : revW (eT e xs) S = .ok (eT e xs.reverse) S := by
  unfold revW eT; dsimp only; rw [List.map_reverse]
theorem q_pn {ρ : Env'} {S : Sto} : partM none ρ S = .ok none S := rfl
theorem q_ps {m : ME} {ρ : Env'} {S : Sto} {i : Int} (h : m ρ S = .ok (.int i) S) : partM (some m) ρ S = .ok (some i) S := by
  unfold partM; dsimp only; rw [h]; rfl
theorem q_slc {mo : ME} {ml mh : Option ME} {ρ : Env'} {S : Sto} {x z : W} {lo hi : Option Int} (ho : mo ρ S = .ok x S) (hl : partM ml ρ S = .ok lo S) (hh : partM mh ρ S = .ok hi S) (hf : slcW x lo hi S = .ok z S) : mSlc mo ml mh ρ S = .ok z S := by
  unfold mSlc; rw [ho, R.bind_ok, hl, R.bind_ok, hh, R.bind_ok, hf]
theorem cutL_map {α : Type} {e : α → W} {xs : List α} {lo hi : Option Int} : cutL (xs.map e) lo hi = (cutL xs lo hi).map e := by
  unfold cutL; rw [List.length_map, List.map_take, List.map_drop]
theorem f_slcT {α : Type} {e : α → W} {xs : List α} {lo hi : Option Int} {S : Sto} : slcW (eT e xs) lo hi S = .ok (eT e (cutL xs lo hi)) S := by
  unfold slcW eT; dsimp only; rw [cutL_map]
theorem f_slcL {α : Type} {e : α → W} {xs : List α} {lo hi : Option Int} {S : Sto} : slcW (eL e xs) lo hi S = .ok (eL e (cutL xs lo hi)) S := by
  unfold slcW eL itemsL; dsimp only; rw [cutL_map]
/-- [..] + a list of the store -/
def addRW (x y : W) (S : Sto) : R W := match x with
  | .lst a => (match y with
    | .ref n => (match S[n]? with
      | some (.lst b) => if a.length + b.length ≤ 100000 then .ok (.lst (a ++ b)) S else .stuck
      | _ => .stuck)
    | _ => .stuck)
  | _ => .stuck
theorem o_addR {X : Cx} {G : Glo} {E : XK} : OpR X (binaryOp .Add) (rM G E addRW) := by
  intro pins s σ H x y v u Q I rx ry ⟨w1, w2, S, Z, μ, r, h1, h2, af⟩
  unfold addRW at af
  split at af
  · split at af
    · split at af
      · rename_i hs
        split at af
        · rename_i hl
          obtain ⟨a, vs, rfl, q1, _, q2⟩ := i_lst h1
          obtain ⟨b, us, rfl, _, q3, q4⟩ := r.lst h2 hs
          exact op_cat pins s σ H _ _ v u Q I rx ry ⟨a, b, vs, us, rfl, rfl, q1, q3, by rw [q2.length, q4.length]; exact Nat.le_trans hl (by decide), end_lst r (q2.append q4) af⟩
        · exact af.elim
      · exact af.elim
    · exact af.elim
  · exact af.elim
theorem f_addR {α : Type} {e : α → W} {xs ys : List α} {n : Nat} {S : Sto} (hn : S[n]? = some (.lst (ys.map e))) (h : xs.length + ys.length ≤ 100000) : addRW (eL e xs) (.ref n) S = .ok (eL e (xs ++ ys)) S := by
  unfold addRW eL
  dsimp only
  rw [hn]
  dsimp only
  rw [if_pos (by simpa using h), List.map_append]
/-- a call whose arguments hold lists of the store -/
theorem gpZ {n L : Nat} {b : MS} {ws us : List W} {S : Sto} {w : W} (hl : ws.length = n) (hz : mapO (fz S 4) ws = some us) (hw : w.nl = true) (h : Ws (b (us.map some ++ List.replicate (L - us.length) none) []) (fun _ _ => False) (fun u S' => fz S' 6 u = some w) (fun _ => False)) : gPure n (mDef L b) ws S = .ok w S := by
  unfold gPure
  rw [if_pos hl, hz]
  dsimp only
  unfold mDef
  revert h
  unfold Ws
  cases b (us.map some ++ List.replicate (L - us.length) none) [] with
  | ok f S' =>
    cases f with
    | nx ρ => exact fun h => h.elim
    | ret u =>
      intro h
      have h : fz S' 6 u = some w := h
      rw [R.bind_ok]
      dsimp only
      rw [h]
      dsimp only
      rw [hw, Bool.or_true]
      rfl
    | brk ρ => exact fun h => h.elim
    | cnt ρ => exact fun h => h.elim
  | err c S' => exact fun h => h.elim
  | stuck => exact fun h => h.elim
/-- what a call over lists of the store gives, by what it gives over the frozen ones -/
theorem gPz {n : Nat} {m : MD} {ws us : List W} {S T : Sto} {w : W} (hz : mapO (fz S 4) ws = some us) (hl : ws.length = n) (hn : nrs us = true) (hw : w.nl = true) (h : gPure n m us T = .ok w T) : gPure n m ws S = .ok w S := by
  unfold gPure at h ⊢
  have lu : us.length = n := by
    have : ∀ (ws us : List W), mapO (fz S 4) ws = some us → us.length = ws.length := by
      intro ws
      induction ws with
      | nil => intro us h; unfold mapO at h; cases h; rfl
      | cons w ws ih =>
        intro us h
        unfold mapO at h
        split at h
        · cases h
        · split at h
          · cases h
          · rename_i q; cases h; rw [List.length_cons, List.length_cons, ih _ q]
    rw [this ws us hz, hl]
  rw [if_pos hl, hz]
  rw [if_pos lu, fz_nr hn] at h
  dsimp only at h ⊢
  cases e : m us [] with
  | ok u S' =>
    rw [e] at h
    dsimp only at h ⊢
    cases e2 : fz S' 6 u with
    | none => rw [e2] at h; cases h
    | some u' =>
      rw [e2] at h
      dsimp only at h ⊢
      split at h
      · cases h
        rw [hw, Bool.or_true]; rfl
      · cases h
  | err c S' => rw [e] at h; cases h
  | stuck => rw [e] at h; cases h
theorem fz_rows {S : Sto} {A : List (Nat × O)} {ms : List Nat} {R : List (List Int)} (hO : Own S (A ++ rowsI ms R)) (hl : ms.length = R.length) : mapO (fz S 4) [.lst (ms.map .ref)] = some [eL (eL W.int) R] := by
  have one : ∀ (m : Nat) (r : List Int), S[m]? = some (.lst (r.map W.int)) → fz S 3 (.ref m) = some (eL W.int r) := fun m r h => by
    unfold fz
    rw [if_neg (by simp [W.nr])]
    dsimp only
    rw [h]
    dsimp only
    rw [mapO_fz (by decide) (nrs_map (fun _ => rfl) r)]
    rfl
  have all : ∀ (ms : List Nat) (R : List (List Int)), ms.length = R.length → (∀ p ∈ ms.zip R, S[p.1]? = some (.lst (p.2.map W.int))) → mapO (fz S 3) (ms.map .ref) = some (R.map (eL W.int)) := by
    intro ms
    induction ms with
    | nil => intro R hl _; cases R with
      | nil => rfl
      | cons r R => cases hl
    | cons m ms ih =>
      intro R hl h
      cases R with
      | nil => cases hl
      | cons r R =>
        rw [List.map_cons, List.map_cons]
        unfold mapO
        rw [one m r (h (m, r) (by simp)), ih R (by simpa using hl) fun p hp => h p (by rw [List.zip_cons_cons]; exact List.mem_cons_of_mem _ hp)]
  have hp : ∀ p ∈ ms.zip R, S[p.1]? = some (.lst (p.2.map W.int)) := fun p hp => by
    refine hO.2 (p.1, .lst (p.2.map W.int)) (List.mem_append.mpr (.inr ?_))
    unfold rowsI rowsL
    rw [List.mem_map]
    refine ⟨(p.1, p.2.map W.int), ?_, rfl⟩
    rw [List.zip_map_right]
    exact List.mem_map.mpr ⟨p, hp, rfl⟩
  unfold mapO
  have e : fz S 4 (.lst (ms.map .ref)) = some (eL (eL W.int) R) := by
    unfold fz
    by_cases hz : (W.lst (ms.map .ref)).nr = true
    · cases ms with
      | nil =>
        cases R with
        | nil => rfl
        | cons r R => cases hl
      | cons m ms => simp [W.nr, nrs] at hz
    · rw [if_neg hz]
      dsimp only
      rw [all ms R hl hp]
      rfl
  rw [e]
  rfl
theorem fz_listI {α : Type} {e : α → W} [h : Fro e] {S : Sto} {n : Nat} {xs : List α} (hn : S[n]? = some (.lst (xs.map e))) : mapO (fz S 4) [.ref n] = some [eL e xs] := by
  unfold mapO
  have : fz S 4 (.ref n) = some (eL e xs) := by
    unfold fz
    rw [if_neg (by simp [W.nr])]
    dsimp only
    rw [hn]
    dsimp only
    rw [mapO_fz (by decide) (nrs_map h.nr xs)]
    rfl
  rw [this]
  rfl
theorem fz_fro4 {α : Type} {e : α → W} [h : Fro e] {S : Sto} (x : α) : mapO (fz S 4) [e x] = some [e x] := fz_nr (nrs_cons (h.nr x) nrs_nil)
theorem q_mt {f : W → List W → Sto → R W} {o : ME} {r : MA} {ρ : Env'} {S S1 S2 S3 : Sto} {w z : W} {xs ws : List W} (ho : o ρ S = .ok w S1) (hi : itemsL S1 w = some xs) (hr : r ρ S1 = .ok ws S2) (hf : f w ws S2 = .ok z S3) : mMt f o r ρ S = .ok z S3 := by
  unfold mMt; rw [ho, R.bind_ok, hi]; dsimp only; rw [hr, R.bind_ok, hf]
theorem f_ssetT {S : Sto} {is : List Int} (h : is.length < 4000) (h2 : (dedupI is).length < 64) : ssetW [eT W.int is] S = .ok (eL W.int (sortU is)) S := by
  unfold ssetW intsOf anyL eT
  dsimp only
  rw [intsW_map]
  dsimp only
  rw [if_pos ⟨h, h2⟩]
  rfl
theorem eqD_refR {α : Type} {e : α → W} [h : Dat (eL e)] {S : Sto} {n : Nat} {xs ys : List α} (hn : S[n]? = some (.lst (xs.map e))) [DecidableEq α] (hk : h.k ≤ 64 := by decide) : neW (.ref n) (eL e ys) S = .ok (.bl (!decide (xs = ys))) S := ne_datR hn hk
end Mo

set_option Elab.async false
set_option linter.all false
set_option maxRecDepth 100000
set_option autoImplicit false
/-! Mon34: while by wishes; a thing taken out of a list of one's own. -/
namespace Mo
open PySem PySem.Spec L2
theorem w_while {N : Nat} {c : MT} {body : MS} {Qn : Env' → Sto → Prop} {Qr : W → Sto → Prop} {Qe : Str → Prop} (I : Nat → Env' → Sto → Prop)
    (step : ∀ k ρ S, I (k + 1) ρ S → ∃ S1, c ρ S = .ok true S1 ∧ Ws (body ρ S1) (fun ρ2 S2 => I k ρ2 S2) Qr Qe) (stop : ∀ ρ S, I 0 ρ S → ∃ S1, c ρ S = .ok false S1 ∧ Qn ρ S1) :
    ∀ (k : Nat) {ρ : Env'} {S : Sto}, k < N → I k ρ S → Ws (mWhile N c body ρ S) Qn Qr Qe := by
  unfold mWhile
  induction N with
  | zero => intro k _ _ h; omega
  | succ N ih =>
    intro k ρ S hk h
    unfold whGo
    cases k with
    | zero =>
      obtain ⟨S1, e, q⟩ := stop ρ S h
      rw [e, R.bind_ok]
      unfold Ws
      exact q
    | succ k =>
      obtain ⟨S1, e, q⟩ := step k ρ S h
      rw [e, R.bind_ok]
      dsimp only
      unfold Ws at q ⊢
      cases eb : body ρ S1 with
      | ok f S2 =>
        rw [eb] at q
        rw [R.bind_ok]
        cases f with
        | nx ρ2 => have := ih k (by omega) q; unfold Ws at this; exact this
        | cnt ρ2 => exact q.elim
        | brk ρ2 => exact q.elim
        | ret w => exact q
      | err c S2 => rw [eb] at q; exact q
      | stuck => rw [eb] at q; exact q.elim
theorem q_listN {α : Type} {e : α → W} {xs : List α} {r : MA} {ρ : Env'} {S S1 : Sto} (hr : r ρ S = .ok [eL e xs] S1) : mAp listN r ρ S = .ok (.ref S1.length) (S1 ++ [.lst (xs.map e)]) := q_ap hr rfl
theorem q_listNT {α : Type} {e : α → W} {xs : List α} {r : MA} {ρ : Env'} {S S1 : Sto} (hr : r ρ S = .ok [eT e xs] S1) : mAp listN r ρ S = .ok (.ref S1.length) (S1 ++ [.lst (xs.map e)]) := q_ap hr rfl
theorem erase_map {α β : Type} {f : α → β} : ∀ (xs : List α) (k : Nat), (xs.map f).eraseIdx k = (xs.eraseIdx k).map f
  | [], _ => rfl
  | _ :: _, 0 => rfl
  | x :: r, k + 1 => congrArg (f x :: ·) (erase_map r k)
theorem f_app {α : Type} {e : α → W} {xs : List α} {x : α} {n : Nat} {S : Sto} (hn : S[n]? = some (.lst (xs.map e))) (hl : xs.length < 100000) : appW (.ref n) [e x] S = .ok .non (S.set n (.lst ((xs ++ [x]).map e))) := by
  unfold appW
  dsimp only
  rw [hn]
  dsimp only
  rw [if_pos (by simpa using hl), List.map_append]
  rfl
theorem nls_map {α : Type} {e : α → W} (h : ∀ a, (e a).nl = true) : ∀ xs : List α, nls (xs.map e) = true
  | [] => rfl
  | x :: xs => by rw [List.map_cons]; unfold nls; rw [h x, nls_map h xs]; rfl
theorem nl_T {α : Type} {e : α → W} (h : ∀ a, (e a).nl = true) (xs : List α) : (eT e xs).nl = true := by unfold eT W.nl; exact nls_map h xs
theorem nl_tab (t : List (List Int)) : (eT (eT W.int) t).nl = true := nl_T (nl_T fun _ => rfl) t
theorem it_ref {n : Nat} {S : Sto} {ws : List W} (hn : S[n]? = some (.lst ws)) : itemsL S (.ref n) = some ws := by unfold itemsL; dsimp only; rw [hn]
theorem f_lenO {α : Type} {e : α → W} {xs : List α} {n : Nat} {S : Sto} (hn : S[n]? = some (.lst (xs.map e))) : lenW [.ref n] S = .ok (.int xs.length) S := by
  unfold lenW itemsL
  dsimp only
  rw [hn]
  simp
theorem f_popAt {α : Type} [Inhabited α] {e : α → W} {xs : List α} {n : Nat} {i : Int} {S : Sto} (hn : S[n]? = some (.lst (xs.map e))) (h : 0 ≤ i ∧ i < xs.length) (hl : xs.length ≤ 100000) : popAtW (.ref n) [.int i] S = .ok (e (gI xs i)) (S.set n (.lst ((xs.eraseIdx i.toNat).map e))) := by
  have e1 : seqIndex? i (xs.map e).length = some i.toNat := by
    rw [List.length_map]
    unfold seqIndex?
    have a : ¬ i < 0 := by omega
    simp only [if_neg a]
    rw [if_pos]
    simp
    omega
  have e2 : (xs.map e)[i.toNat]? = some (e (gI xs i)) := by
    rw [List.getElem?_map]
    unfold gI
    rw [List.getD_eq_getElem?_getD]
    have : i.toNat < xs.length := by omega
    rw [List.getElem?_eq_getElem this]
    rfl
  unfold popAtW
  dsimp only
  rw [hn]
  dsimp only
  rw [if_pos (by simp; omega), e1]
  dsimp only
  rw [e2]
  dsimp only
  rw [erase_map]
theorem w_setRowS {S S1 : Sto} {A : List (Nat × O)} {ms : List Nat} {R : List (List Int)} {ρ : Env'} {mv mo mi mj : ME} {i j v : Int} {Qn : Env' → Sto → Prop} {Qr : W → Sto → Prop} {Qe : Str → Prop} (hO : Own S1 (A ++ rowsI ms R)) (hl : ms.length = R.length) (hv : mv ρ S = .ok (.int v) S1) (ho : mo ρ S1 = .ok (.lst (ms.map .ref)) S1) (hi : mi ρ S1 = .ok (.int i) S1) (hj : mj ρ S1 = .ok (.int j) S1)
    (h : 0 ≤ i ∧ i < R.length) (h2 : 0 ≤ j ∧ j < (gI R i).length) (k : ∀ S' : Sto, Own S' (A ++ rowsI ms (setE R i j v)) → Qn ρ S') : Ws (mSetIx mv (mBin idxW mo mi) mj ρ S) Qn Qr Qe := by
  have e : mSetIx mv (mBin idxW mo mi) mj ρ S = mSetIx (fun _ T => .ok (.int v) T) (mBin idxW mo mi) mj ρ S1 := by unfold mSetIx; rw [hv]
  rw [e]
  exact w_setRowI hO hl rfl ho hi hj h h2 k
theorem q_lcRowsS {α : Type} {S S1 : Sto} {A : List (Nat × O)} {it : MI} {own : List Nat} {g : MG} {me : ME} {ρ : Env'} {e : α → W} {r : α → List W} {xs : List α} (hO : Own S1 A) (hi : it ρ S = .ok ⟨xs.map e, none⟩ S1) (hl : xs.length ≤ 100000) (h : ∀ x ∈ xs, ∃ ρ1, g (e x) (wipeW ρ own) = some ρ1 ∧ ∀ S, me ρ1 S = .ok (.ref S.length) (S ++ [.lst (r x)])) :
    ∃ (ms : List Nat) (S' : Sto), mLc it own g tYesM me ρ S = .ok (.lst (ms.map .ref)) S' ∧ ms.length = (xs.map r).length ∧ Own S' (A ++ rowsL ms (xs.map r)) := by
  have e : mLc it own g tYesM me ρ S = mLc (fun _ T => .ok ⟨xs.map e, none⟩ T) own g tYesM me ρ S1 := by unfold mLc mLcI; rw [hi]
  rw [e]
  exact q_lcRows hO rfl hl h
theorem i_TS {α : Type} {e : α → W} {xs : List α} {a : ME} {ρ : Env'} {S S1 : Sto} (h : a ρ S = .ok (eT e xs) S1) : mItV a ρ S = .ok ⟨xs.map e, none⟩ S1 := by
  unfold mItV; rw [h]; rfl
theorem law_spE {G : Glo} {m : MD} {H : Hp} {a : Addr} {ns : List Int} (hi : G.inv H) (hS : SqL G.K H a (ns.map V.int)) (h : ∃ S', m [.scr ns] [] = .ok (.bl true) S') : spM G 1 m [.ref a] H (fun v _ => v = .bl true) fun _ _ _ => False := by
  obtain ⟨S', h⟩ := h
  refine ⟨rfl, [.scr ns], [], fun _ => False, [], ⟨rfl, List.nodup_nil, fun a (h : a ∈ []) => (List.not_mem_nil h).elim, fun a h => h.elim, hi, fun n a o h => by simp at h⟩, VRs.cons ?_ VRs.nil, ?_⟩
  · unfold VR
    refine ⟨a, rfl, ?_⟩
    rcases hS with h1 | h1
    · exact .inl ⟨h1, fun z => z⟩
    · exact .inr fun H' => .inr h1
  · rw [h]
    intro Z' μ' H' g r' v hv
    exact vr_bl_of hv
end Mo

set_option Elab.async false
set_option linter.all false
set_option maxRecDepth 100000
set_option autoImplicit false
/-! Mon35: o[i] += e over a list of the store. -/
namespace Mo
open PySem PySem.Spec L2 PySem.SeqAt PySem.W
open PyProof.Rows hiding St
def rGetL : V → V → Hp → VK → Prop := fun o i H Q => ∃ p xs k j v, o = .ref p ∧ i = .int k ∧ H p = some (.lst xs) ∧ ixN xs.length k = some j ∧ xs[j]? = some v ∧ Q v H
theorem get_list {X : Cx} : PGet X rGetL := by
  intro pins s σ H o i ov iv Q I ro ri h
  obtain ⟨p, xs, k, j, v, rfl, rfl, hp, hj, hv, q⟩ := h
  cases ro
  obtain ⟨t, rfl⟩ := ri
  obtain ⟨its, n, r, ho, hz⟩ := I.lst hp
  obtain ⟨h1, h2, h3, h4⟩ := ixN_seq hj
  have hl := r.length
  have hn := line63
  obtain ⟨w, ew, rw'⟩ := r.get hv
  have hL : s.heap.IsList p its.toArray := ⟨_, ho, rfl, n, rfl⟩
  have fin : EP X pins σ Q w s := ⟨v, H, I, rw', q⟩
  by_cases h0 : 0 ≤ k
  · have hk : k.toNat = j := by
      rw [seqIndex_of h0 h4] at h1
      exact Option.some.inj h1
    exact wpAny_getItem_list hL h0 (by omega) (by rw [hk]; simpa using ew) fin
  · have hk : (k + (its.toArray.size : Int)).toNat = j := by
      rw [seqIndex_neg (by omega) h3] at h1
      rw [List.size_toArray, ← hl]
      exact Option.some.inj h1
    exact wpAny_getItem_list_neg hL (by omega) (by rw [List.size_toArray] <;> omega) (by omega) (by rw [hk]; simpa using ew) fin
def mAugIx (mo mi me : ME) : MS := fun ρ S => (mo ρ S).bind fun o S1 => (mi ρ S1).bind fun i S2 => match o with
  | .ref n => (match i with
    | .int k => (match S2[n]? with
      | some (.lst xs) => (match L2.ixN xs.length k with
        | some j => (match xs[j]? with
          | some (.int x) => (me ρ S2).bind fun y S3 => (match y with
            | .int y => (match S3[n]? with
              | some (.lst ys) => (match L2.ixN ys.length k with
                | some j2 => .ok (.nx ρ) (S3.set n (.lst (ys.set j2 (.int (x + y)))))
                | none => .stuck)
              | _ => .stuck)
            | _ => .stuck)
          | _ => .stuck)
        | none => .stuck)
      | _ => .stuck)
    | _ => .stuck)
  | _ => .stuck
section
variable {X : Cx} {G : Glo} {E : XK} {e o i : Expr} {mo mi me : ME} {pos p : Pos}
theorem sm_augIx (ho : PE X o (tM G E mo)) (hi : PE X i (tM G E mi)) (he : PE X e (tM G E me))
    (ha : ∀ ov iv new, augStore i ov iv new = (do holding [new, ov, iv] (setItem ov iv new); release [new, ov, iv] []; pure .next) := by intros; rfl) : PS X (.AugAssign (.Subscript o i p) .Add e pos) (tS G E (mAugIx mo mi me)) :=
  (ps_augS ho hi get_list he ip_add set_list ha).weak fun D σ H ⟨ρ, S, Z, μ, r, er, af⟩ => by
    refine ⟨ρ, S, Z, μ, r, er, Aft.imp (Aft.bind af) fun ow Z1 μ1 H1 S1 _ g1 r1 a1 ov hov => ?_⟩
    have er1 := er.mono r g1
    refine ⟨ρ, S1, Z1, μ1, r1, er1, Aft.imp (Aft.bind a1) fun iw Z2 μ2 H2 S2 _ g2 r2 a2 iv hiv => ?_⟩
    have er2 := er1.mono r1 g2
    have hov2 := hov.mono r1 g2
    split at a2
    · split at a2
      · split at a2
        · rename_i hs
          split at a2
          · rename_i j hj
            split at a2
            · rename_i x hx
              obtain ⟨a, xs, rfl, q0, q1, q2⟩ := r2.lst hov2 hs
              obtain ⟨xv, hxv, rx⟩ := q2.get hx
              refine ⟨a, xs, _, j, xv, rfl, i_int hiv, q1, by rw [q2.length]; exact hj, hxv, ?_⟩
              refine ⟨ρ, S2, Z2, μ2, r2, er2, Aft.imp (Aft.bind a2) fun yw Z3 μ3 H3 S3 _ g3 r3 a3 yv hyv => ?_⟩
              have er3 := er2.mono r2 g3
              have hov3 := hov2.mono r2 g3
              split at a3
              · rename_i y _
                split at a3
                · rename_i ys hs3
                  split at a3
                  · rename_i j2 hj2
                    refine ⟨_, _, i_int rx, i_int hyv, ?_⟩
                    obtain ⟨a', zs, e, k0, k1, k2⟩ := r3.lst hov3 hs3
                    cases e
                    refine ⟨a, zs, _, j2, rfl, i_int hiv, k1, by rw [k2.length]; exact hj2, ?_⟩
                    have g : Grow Z3 μ3 H3 Z3 μ3 (upd H3 a (.lst (zs.set j2 (.int (x + y))))) := Grow.put (List.mem_of_getElem? k0)
                    exact a3 _ _ _ g (r3.put k0 ⟨rfl, rfl⟩ ⟨_, upd_same, VRs.mono r3 g (k2.set (show VR G Z3 μ3 H3 (.int (x + y)) (.int (x + y)) by unfold VR; rfl) j2)⟩) σ (er3.mono r3 g)
                  · exact a3.elim
                · exact a3.elim
              · exact a3.elim
            · exact a2.elim
          · exact a2.elim
        · exact a2.elim
      · exact a2.elim
    · exact a2.elim
end
end Mo

set_option Elab.async false
set_option linter.all false
set_option maxRecDepth 100000
set_option autoImplicit false
/-! Mon36: a def with lambdas of its own, called in a store that is not empty. -/
namespace Mo
open PySem PySem.Spec L2
open PyProof.Rows hiding St
def O.plain : O → Bool
  | .lst ws => nrs ws && ncs ws
  | .dict kvs => kvs.all fun p => p.2.nr && p.2.nc
  | .ins _ _ => false
  | .gone => false
def plainS (S : Sto) : Bool := S.all O.plain
theorem OR.re {G G' : Glo} {Z : Addr → Prop} {μ μ2 : List Addr} {H : Hp} {a : Addr} (hK : G'.K = G.K) (hm : G'.mg = G.mg) (he : G'.ex = G.ex) : ∀ {o : O}, o.plain = true → OR G Z μ H a o → OR G' Z μ2 H a o
  | .lst ws, n, h => by
    unfold O.plain at n
    rw [Bool.and_eq_true] at n
    obtain ⟨vs, h1, h2⟩ := h
    exact ⟨vs, h1, VRs.nr (fun _ z => z) n.1 (VRs.reG hK hm he n.2 h2)⟩
  | .dict kvs, n, h => by
    obtain ⟨es, h1, h2⟩ := h
    refine ⟨es, h1, ?_⟩
    clear h1
    replace n : (kvs.all fun p => p.2.nr && p.2.nc) = true := n
    induction kvs generalizing es with
    | nil => unfold KVR at h2 ⊢; exact h2
    | cons p r ih =>
      obtain ⟨k, w⟩ := p
      rw [List.all_cons, Bool.and_eq_true, Bool.and_eq_true] at n
      unfold KVR at h2 ⊢
      obtain ⟨v, r', e, q1, q2⟩ := h2
      exact ⟨v, r', e, VR.nr (fun _ z => z) n.1.1 (VR.reG hK hm he n.1.2 q1), ih _ q2 n.2⟩
  | .ins _ _, n, _ => by cases n
  | .gone, n, _ => by cases n
def mkS (L : Nat) (b : MS) : MD := fun ws S => match ws with
  | .ref k :: us => if nrs us && ncs us then (match S[k]? with
    | some o => if o.plain then (match mDef L b (.ref 0 :: us) [o] with
      | .ok w S' => if w.nr && w.nc then (match S'[0]? with
        | some o' => if o'.plain then .ok w (S.set k o') else .stuck
        | none => .stuck) else .stuck
      | _ => .stuck) else .stuck
    | none => .stuck) else .stuck
  | ws => if nrs ws && ncs ws then (match mDef L b ws [] with
    | .ok w _ => if w.nr && w.nc then .ok w S else .stuck
    | _ => .stuck) else .stuck
theorem mkS_sp {G G' : Glo} {L n : Nat} {b : MS} {vs : List V} {H : Hp} {Q : VK} {E : XK} (hK : G'.K = G.K) (hm : G'.mg = G.mg) (he : G'.ex = G.ex) (hi : G'.inv = G.inv) (h : spM G n (mkS L b) vs H Q E) : spM G' n (mDef L b) vs H Q E := by
  obtain ⟨hl, ws, S, Z, μ, r, hv, af⟩ := h
  have hiH : G'.inv H := by rw [hi]; exact r.inv
  unfold mkS at af
  split at af
  · rename_i k us
    split at af
    case isFalse => exact af.elim
    rename_i hn
    rw [Bool.and_eq_true] at hn
    split at af
    case h_2 => exact af.elim
    rename_i o ho
    split at af
    case isFalse => exact af.elim
    rename_i hp
    unfold VRs at hv
    obtain ⟨v0, vr, rfl, hv0, hvr⟩ := hv
    unfold VR at hv0
    obtain ⟨a, ha, rfl⟩ := hv0
    have ham : a ∈ μ := List.mem_of_getElem? ha
    have r' : Rel G' Z [a] H [o] := ⟨rfl, List.nodup_cons.mpr ⟨List.not_mem_nil, List.nodup_nil⟩, fun b hb => by rw [List.mem_singleton] at hb; subst hb; exact r.mz _ ham, r.zm, hiH, fun j b o1 h1 h2 => by
      cases j with
      | succ j => simp at h1
      | zero =>
        cases h1
        cases h2
        exact OR.re hK hm he hp (r.ob k a o ha ho)⟩
    refine ⟨hl, .ref 0 :: us, [o], Z, [a], r', VRs.cons (by unfold VR; exact ⟨a, rfl, rfl⟩) (VRs.nr (fun _ z => z) hn.1 (VRs.reG hK hm he hn.2 hvr)), ?_⟩
    cases e2 : mDef L b (.ref 0 :: us) [o] with
    | stuck => rw [e2] at af; exact af.elim
    | err c S' => rw [e2] at af; exact af.elim
    | ok w S' =>
      rw [e2] at af
      dsimp only at af
      split at af
      case isFalse => exact af.elim
      rename_i q
      rw [Bool.and_eq_true] at q
      split at af
      case h_2 => exact af.elim
      rename_i o' ho'
      split at af
      case isFalse => exact af.elim
      rename_i hp'
      intro Z' μ' H' g r2 v hw
      obtain ⟨e, rfl, fe⟩ := g.mu
      have gt : Grow Z μ H Z' μ H' := ⟨⟨[], by simp, fun a h => by simp at h⟩, g.zz, g.zk, fun b ob hb hnb ht => g.keep b ob hb (fun z => hnb (by rw [List.mem_singleton] at z; subst z; exact ham)) ht, g.th⟩
      have rt : Rel G Z' μ H' (S.set k o') := by
        refine ⟨by rw [List.length_set]; exact r.len, r.nd, fun b hb => g.zk b (r.mz b hb), r2.zm, by rw [← hi]; exact r2.inv, fun j b o1 h1 h2 => ?_⟩
        by_cases hj : k = j
        · subst hj
          rw [ha] at h1
          cases h1
          have hk := (List.getElem?_eq_some_iff.mp ho).1
          rw [List.getElem?_set_self hk] at h2
          cases h2
          exact OR.re hK.symm hm.symm he.symm hp' (r2.ob 0 a o' rfl ho')
        · rw [List.getElem?_set_ne hj] at h2
          have hb : b ∈ μ := List.mem_of_getElem? h1
          obtain ⟨hob, h3, h4, h5⟩ := r.zm b (r.mz b hb)
          have hne : b ∉ [a] := fun z => by
            rw [List.mem_singleton] at z
            subst z
            exact hj ((List.getElem?_inj (List.getElem?_eq_some_iff.mp ha).1 r.nd).mp (ha.trans h1.symm))
          exact OR.mono r gt ((g.keep b hob h3 hne h5).trans h3.symm) (r.ob j b o1 h1 h2)
      exact af Z' μ H' gt rt v (VR.nr (fun _ z => z) q.1 (VR.reG hK.symm hm.symm he.symm q.2 hw))
  · split at af
    case isFalse => exact af.elim
    rename_i hn
    rw [Bool.and_eq_true] at hn
    have r' : Rel G' Z [] H [] := ⟨rfl, List.nodup_nil, fun b hb => absurd hb List.not_mem_nil, r.zm, hiH, fun j b o1 h1 h2 => by simp at h1⟩
    refine ⟨hl, ws, [], Z, [], r', VRs.nr (fun _ z => z) hn.1 (VRs.reG hK hm he hn.2 hv), ?_⟩
    cases e2 : mDef L b ws [] with
    | stuck => rw [e2] at af; exact af.elim
    | err c S' => rw [e2] at af; exact af.elim
    | ok w S' =>
      rw [e2] at af
      dsimp only at af
      split at af
      case isFalse => exact af.elim
      rename_i q
      rw [Bool.and_eq_true] at q
      intro Z' μ' H' g r2 v hw
      have gt : Grow Z μ H Z' μ H' := ⟨⟨[], by simp, fun a h => by simp at h⟩, g.zz, g.zk, fun b ob hb hnb ht => g.keep b ob hb List.not_mem_nil ht, g.th⟩
      have rt : Rel G Z' μ H' S := by
        refine ⟨r.len, r.nd, fun b hb => g.zk b (r.mz b hb), r2.zm, by rw [← hi]; exact r2.inv, fun j b o1 h1 h2 => ?_⟩
        have hb : b ∈ μ := List.mem_of_getElem? h1
        obtain ⟨hob, h3, h4, h5⟩ := r.zm b (r.mz b hb)
        exact OR.mono r gt ((g.keep b hob h3 List.not_mem_nil h5).trans h3.symm) (r.ob j b o1 h1 h2)
      exact af Z' μ H' gt rt v (VR.nr (fun _ z => z) q.1 (VR.reG hK.symm hm.symm he.symm q.2 hw))
section
open LamX (CodeO TabS Tabs ExtN TabB)
variable {P : Program} {w : World} {K : PySem.W.Frag} {mg : Str → Option Value} {base : Heap} {x qual : Str} {params : Arguments} {body : List Stmt} {scope : Scope} {dvs : List V} {kws : List (Str × V)} {f : Addr} {fd : FuncData} {T : List (Addr × Str)} {lams lams' : List LamD} {q : Str} {cells : List (Str × Addr)} {cv : Nat → List V → Prop}
theorem fn_mkS {N ps : List Str} {k : Nat} {mb : MS} (F : FunD K x qual params body scope dvs kws f fd) (S : FnScope N ps scope)
    (hbody : ∀ (c : Addr) (A : Around) (outer : List Env) (s : Shared) (H : Hp) (E : XK), fd.code = .ref c → Room k (A.deeper (envOfC qual scope s.heap.objs.size f (.ref c))) →
      PSs (cxOf (L2.CX P w) P w K mg base N qual scope f (.ref c) A outer s H E) body (tS (gloM (cxOf (L2.CX P w) P w K mg base N qual scope f (.ref c) A outer s H E) T lams fun _ vs => vs = []) E mb)) :
    FnOk P w K mg base (L2.CX P w) (k + 1) f fd ps (spM (glo K mg T q lams' cells cv) ps.length (mkS N.length mb)) := by
  obtain ⟨oc, od, dV, kV, doc, pm, an, cdv, ct, osl, rfl, lk, hcd, _, _⟩ := F.ex
  obtain ⟨c, rfl⟩ := He.codeIn_ref hcd
  refine fn_of lk hcd S (fun vs H Q E h => h.1) fun A outer s H vs Q E hr hsp => ?_
  have hb := hbody c A outer s H E rfl hr
  have key : ∀ (q' : Str) (cells' : List (Str × Addr)) (cv' : Nat → List V → Prop), spM (glo K mg T q' lams cells' cv') ps.length (mDef N.length mb) vs H Q E := fun q' cells' cv' => mkS_sp (G := glo K mg T q lams' cells cv) rfl rfl rfl rfl hsp
  have h3 := def_reads (key ((cxOf (L2.CX P w) P w K mg base N qual scope f (.ref c) A outer s H E).env.qual ++ "<lambda>") (cxOf (L2.CX P w) P w K mg base N qual scope f (.ref c) A outer s H E).env.cells fun _ vs => vs = [])
  exact ⟨_, hb, h3⟩
end
section
variable {P : Program} {w : World} {K : PySem.W.Frag} {mg : Str → Option Value} {base : Heap} {G : Glo} {d : He.DefD} {N ps : List Str} {k : Nat} {mb : MS} {T : List (Addr × Str)} {lams lams' : List LamD} {q : Str} {cells : List (Str × Addr)} {cv : Nat → List V → Prop}
theorem Df.mkS_ (D : Df K mg d) (S : FnScope N ps d.scope) (hb : ∀ (kV doc pm : Value) (an : Option Addr) (cdv ct : Value) (us : List Value), us.length = ps.length → bindArgs (PySem.W.fnOf d.name d.qual d.params d.body d.scope .none kV doc pm an cdv ct) ⟨us, []⟩ = pure (ps.zip us))
    (hbody : ∀ (A : Around) (outer : List Env) (s : Shared) (H : Hp) (E : XK), Room k (A.deeper (envOfC d.qual d.scope s.heap.objs.size (He.fAd K d.at_) (.ref (He.cT K d.at_).1))) →
      PSs (cxOf (L2.CX P w) P w K mg base N d.qual d.scope (He.fAd K d.at_) (.ref (He.cT K d.at_).1) A outer s H E) d.body (tS (gloM (cxOf (L2.CX P w) P w K mg base N d.qual d.scope (He.fAd K d.at_) (.ref (He.cT K d.at_).1) A outer s H E) T lams fun _ vs => vs = []) E mb)) :
    FG P w K mg base (glo K mg T q lams' cells cv) d.name (k + 1) ps.length (mkS N.length mb) := by
  obtain ⟨fd, F⟩ := D.ex
  have e := F.ex
  obtain ⟨oc, od, dV, kV, doc, pm, an, cdv, ct, osl, efd, lk, _⟩ := e
  refine ⟨_, fd, ps, D.at_, rfl, fn_mkS (lams := lams) F S fun c A outer s H E ec hr => ?_, F.bindsN hb, F.kp, oc, od, osl, lk⟩
  have e2 : (He.cT K d.at_).1 = c := He.codeOf_eq lk ec
  rw [← e2] at hr ⊢
  exact hbody A outer s H E hr
end
theorem tab_uniq {T : List (Addr × Str)} (nd : (T.map Prod.fst).Nodup) {a : Addr} {x : Str} (h : (a, x) ∈ T) : ∀ p ∈ T, p.1 = a → p.2 = x := by
  induction T with
  | nil => exact absurd h List.not_mem_nil
  | cons q r ih =>
    rw [List.map_cons, List.nodup_cons] at nd
    intro p hp e
    rcases List.mem_cons.mp h with h | h <;> rcases List.mem_cons.mp hp with hp | hp
    · rw [hp, ← h]
    · exact absurd (List.mem_map.mpr ⟨p, hp, by rw [e, ← h]⟩) nd.1
    · exact absurd (List.mem_map.mpr ⟨_, h, by rw [← e, hp]⟩) nd.1
    · exact ih nd.2 h p hp e
end Mo

set_option Elab.async false
set_option linter.all false
set_option maxRecDepth 100000
set_option autoImplicit false
/-! Mon37: rows of whole numbers in the store, as the printer of typed functions wants them. -/
namespace Mo
open PySem PySem.Spec L2
section
variable {α : Type} {S : Sto} {A : List (Nat × O)} {ms : List Nat} {R : List (List Int)} {ρ : Env'} {mo mv mi mj : ME} {i j v : Int} {Qn : Env' → Sto → Prop} {Qr : W → Sto → Prop} {Qe : Str → Prop}
theorem q_mulNI {a b : ME} {xs : List Int} {k : Int} (ha : a ρ S = .ok (eL W.int xs) S) (hb : b ρ S = .ok (.int k) S) (h : -100000 < k ∧ k < 100000 ∧ xs.length * k.toNat ≤ 100000) : mBin mulN a b ρ S = .ok (.ref S.length) (S ++ [.lst ((repL k.toNat xs).map W.int)]) := by
  refine q_bin ha hb ?_
  unfold mulN eL
  dsimp only
  rw [if_pos (by simp; exact ⟨⟨h.1, h.2.1⟩, h.2.2⟩), repL_map]
theorem w_lcRowsI {it : MI} {own : List Nat} {g : MG} {me : ME} {e : α → W} {r : α → List Int} {xs : List α} {n : Nat} (hO : Own S A) (hi : it ρ S = .ok ⟨xs.map e, none⟩ S) (hl : xs.length ≤ 100000) (h : ∀ x ∈ xs, ∃ ρ1, g (e x) (wipeW ρ own) = some ρ1 ∧ ∀ S, me ρ1 S = .ok (.ref S.length) (S ++ [.lst ((r x).map W.int)]))
    (k : ∀ (ms : List Nat) (S' : Sto), ms.length = (xs.map r).length → Own S' (A ++ rowsI ms (xs.map r)) → Qn (ρ.set n (some (.lst (ms.map .ref)))) S') : Ws (mSet n (mLc it own g tYesM me) ρ S) Qn Qr Qe := by
  obtain ⟨ms, S', e1, e2, e3⟩ := q_lcRows (r := fun x => (r x).map W.int) hO hi hl h
  refine w_set e1 (k ms S' (by simpa using e2) ?_)
  unfold rowsI
  rw [List.map_map]
  exact e3
theorem w_augRowI {me : ME} (hO : Own S (A ++ rowsI ms R)) (hl : ms.length = R.length) (ho : mo ρ S = .ok (.lst (ms.map .ref)) S) (hi : mi ρ S = .ok (.int i) S) (hj : mj ρ S = .ok (.int j) S) (he : me ρ S = .ok (.int v) S)
    (h : 0 ≤ i ∧ i < R.length) (h2 : 0 ≤ j ∧ j < (gI R i).length) (k : ∀ S' : Sto, Own S' (A ++ rowsI ms (setE R i j (gI (gI R i) j + v))) → Qn ρ S') : Ws (mAugIx (mBin idxW mo mi) mj me ρ S) Qn Qr Qe := by
  have h1 : i.toNat < (R.map (List.map W.int)).length := by rw [List.length_map]; omega
  have hl' : ms.length = (R.map (List.map W.int)).length := by simpa using hl
  have hg := rows_get (A := A) (ms := ms) hO hl' h1
  rw [gI_getD h] at hg
  have hs := rows_set (A := A) (ms := ms) hO hl' h1 (((R.map (List.map W.int)).getD i.toNat []).set j.toNat (.int (gI (gI R i) j + v)))
  rw [setE_map h] at hs
  have hx : ((gI R i).map W.int)[j.toNat]? = some (.int (gI (gI R i) j)) := by
    have := atI_map (e := W.int) (xs := gI R i) (i := j) h2
    have ej : (j.toNat : Int) = j := by omega
    rw [← ej, atI_natE (by simp; omega), ej] at this
    exact this
  unfold mAugIx
  rw [q_bin ho hi (f_idxRow (rows := R.map (List.map W.int)) hl' (by simpa using h)), Mo.R.bind_ok, hj, Mo.R.bind_ok]
  dsimp only
  rw [hg]
  dsimp only
  rw [List.length_map, ixN_of h2]
  dsimp only
  rw [hx]
  dsimp only
  rw [he, Mo.R.bind_ok]
  dsimp only
  rw [hg]
  dsimp only
  rw [List.length_map, ixN_of h2]
  unfold Ws
  refine k _ ?_
  rw [show ((gI R i).map W.int).set j.toNat (W.int (gI (gI R i) j + v)) = (gI (setE R i j (gI (gI R i) j + v)) i).map W.int from ?_]
  · rw [show (gI (setE R i j (gI (gI R i) j + v)) i).map W.int = ((R.map (List.map W.int)).getD i.toNat []).set j.toNat (.int (gI (gI R i) j + v)) from ?_]
    · exact hs
    · unfold setE; rw [gI_set h h, if_pos rfl, gI_getD h, List.map_set]
  · unfold setE; rw [gI_set h h, if_pos rfl, List.map_set]
theorem own_newR {S : Sto} {A B : List (Nat × O)} {x : Nat × O} (h : Own S ((A ++ B) ++ [x])) : Own S ((A ++ [x]) ++ B) := own_perm h (by
  rw [List.append_assoc, List.append_assoc]
  exact List.Perm.append_left _ List.perm_append_comm)
theorem q_frzL {own : List Nat} {k : Nat} (hO : Own S (A ++ rowsI ms R)) (hl : ms.length = R.length) (hl2 : R.length ≤ 100000) (ha : mo ρ S = .ok (.lst (ms.map .ref)) S) (hk : k < (wipeW ρ own).length) :
    mLc (mItV mo) own (tgN k) tYesM (mAp tupleW (mCons (mVar k) mNil)) ρ S = .ok (eL (eT W.int) R) S := by
  have := q_lcFz (own := own) (i := k) hO (by simpa using hl) (by simpa using hl2) ha hk
  rw [this]
  unfold eL
  rw [List.map_map]
  rfl
theorem own_new1 {S : Sto} {L : List (Nat × O)} {x : Nat × O} (h : Own S (L ++ [x])) : Own S ([x] ++ L) := own_perm h List.perm_append_comm
theorem get_new {S : Sto} {o : O} : (S ++ [o])[S.length]? = some o := by simp
theorem own_newF {S : Sto} {L : List (Nat × O)} (h : Own S L) (o : O) : Own (S ++ [o]) ((S.length, o) :: L) := own_perm (own_new h o) (by
  have := List.perm_append_comm (l₁ := L) (l₂ := [(S.length, o)])
  exact this)
/-- a def that hands back a list of the store -/
theorem gcs {ws : List W} {n N : Nat} {b : MS} {L : List (Nat × O)} {o : O} (hl : ws.length = n) (h : Ws (b (ws.map some ++ List.replicate (N - ws.length) none) S) (fun _ _ => False) (fun w S' => ∃ m, w = .ref m ∧ Own S' ((m, o) :: L)) (fun _ => False)) :
    ∃ m S', gCall n (mDef N b) ws S = .ok (.ref m) S' ∧ Own S' ((m, o) :: L) := by
  obtain ⟨w, S', e, m, rfl, h2⟩ := gc (R' := fun w S' => ∃ m, w = .ref m ∧ Own S' ((m, o) :: L)) hl (h.imp (fun _ _ z => z.elim) fun _ _ z => z)
  exact ⟨m, S', e, h2⟩
/-- a def with lambdas of its own, called with a list of the store -/
theorem gS {us : List W} {n N k : Nat} {b : MS} {L : List (Nat × O)} {o : O} {w : W} {S : Sto} (P : O → Prop) (hl : us.length + 1 = n) (hO : Own S ((k, o) :: L)) (hn : nrs us = true) (hc : ncs us = true) (hp : o.plain = true) (hw : w.nr = true) (hwc : w.nc = true)
    (h : Ws (b (((.ref 0 : W) :: us).map some ++ List.replicate (N - (us.length + 1)) none) [o]) (fun _ _ => False) (fun w' S' => w' = w ∧ ∃ o', S'[0]? = some o' ∧ o'.plain = true ∧ P o') (fun _ => False)) :
    ∃ o' S', gCall n (mkS N b) (.ref k :: us) S = .ok w S' ∧ P o' ∧ Own S' ((k, o') :: L) := by
  have ho : S[k]? = some o := own_get hO 0 rfl
  unfold gCall
  rw [if_pos (by simpa using hl)]
  unfold mkS mDef
  dsimp only
  rw [hn, hc, ho]
  simp only [Bool.and_self, if_true, hp]
  rw [show ((.ref 0 : W) :: us).length = us.length + 1 from rfl]
  revert h
  unfold Ws
  cases b (((.ref 0 : W) :: us).map some ++ List.replicate (N - (us.length + 1)) none) [o] with
  | ok f S' =>
    cases f with
    | nx ρ => exact fun h => h.elim
    | ret u =>
      rintro ⟨rfl, o', h1, h2, h3⟩
      refine ⟨o', S.set k o', ?_, h3, own_set hO 0 rfl o'⟩
      rw [R.bind_ok]
      dsimp only
      rw [hw, hwc]
      simp only [Bool.and_self, if_true]
      rw [h1]
      dsimp only
      rw [if_pos h2]
    | brk ρ => exact fun h => h.elim
    | cnt ρ => exact fun h => h.elim
  | err c S' => exact fun h => h.elim
  | stuck => exact fun h => h.elim
theorem fz4_ref {α : Type} {e : α → W} [h : Fro e] {S : Sto} {n : Nat} {xs : List α} (hn : S[n]? = some (.lst (xs.map e))) : fz S 4 (.ref n) = some (eL e xs) := by
  unfold fz
  rw [if_neg (by simp [W.nr])]
  dsimp only
  rw [hn]
  dsimp only
  rw [mapO_fz (by decide) (nrs_map h.nr xs)]
  rfl
theorem fz4_fro {α : Type} {e : α → W} [h : Fro e] {S : Sto} {x : α} : fz S 4 (e x) = some (e x) := by unfold fz; rw [if_pos (h.nr x)]
end
end Mo

set_option Elab.async false
set_option linter.all false
set_option maxRecDepth 100000
set_option autoImplicit false
/-! Mon38: methods of tuples and lists alike: count, index. -/
namespace Mo
open PySem PySem.Spec L2
open PyProof.Rows hiding St
/-- o.m(..), o a tuple or a list -/
def mMa (ft : List W → List W → Sto → R W) (fl : W → List W → Sto → R W) (a : ME) (r : MA) : ME := fun ρ S => (a ρ S).bind fun w S1 => match w with
  | .tup ts => (r ρ S1).bind fun ws S2 => ft ts ws S2
  | w => (match itemsL S1 w with
    | some _ => (r ρ S1).bind fun ws S2 => fl w ws S2
    | none => .stuck)
def ttM (G : Glo) (E : XK) (f : List W → List W → Sto → R W) : V → List V → Hp → VK → Prop := fun x vs H Q => ∃ ts ws S Z μ, Rel G Z μ H S ∧ VR G Z μ H (.tup ts) x ∧ VRs G Z μ H ws vs ∧ Aft G E Z μ H (f ts ws S) (PQ G Q)
theorem XT.type {X : Cx} {pins : List (Addr × Obj)} {σ : L2.St} {H : Hp} {s : Shared} {a : Addr} {vs : List V} (I : Inv X pins σ H s) (h : XT H a vs) : s.TypeIs (.ref a) "tuple" ∧ ∀ b, Value.ref a = .ref b → ∃ ob, s.heap.get? b = some ob ∧ ob.dict = none := by
  obtain ⟨o, hd, e⟩ := h.ex
  obtain ⟨h1, h2⟩ := (show ObjOk X.prog X.w H s.heap a (.frz o (.tup vs)) from I.hok a _ e)
  obtain ⟨_, its, _, ht⟩ := h2
  exact ⟨ht.typeIs, fun b eb => by cases eb; exact ⟨o, h1, hd⟩⟩
section
variable {X : Cx} {G : Glo} {E : XK} {o e : Expr} {es : List Expr} {mo : ME} {mr : MA} {name : Str} {apos cpos : Pos} {idL idT : String}
theorem em_ma (hK : X.K = G.K) {ft : List W → List W → Sto → R W} {fl : W → List W → Sto → R W} (sL : Slot "list" name idL) (tL : typeOf (.builtin idL) = pure (.type "method_descriptor")) (mL : MtR X idL (mtM G E fl)) (sT : Slot "tuple" name idT) (tT : typeOf (.builtin idT) = pure (.type "method_descriptor")) (mT : MtR X idT (ttM G E ft))
    (ho : PE X o (tM G E mo)) (ha : PA X (e :: es) (tMA G E mr))
    (hbase : attributeBase o name X.env (eval o X.env) = eval o X.env := by rfl)
    (hfew : ((backTo cpos (starEach (e :: es) X.env)).all (fun x => !x.1) && (backToKw cpos (keywordEach [] X.env)).all (fun x => x.1.isSome)
      && decide ((e :: es).length + ([] : List Keyword).length + (if ([] : List Keyword).isEmpty then 0 else 1) < 30)) = true := by rfl)
    (hline : (apos.endLine == cpos.line) = true := by rfl) (hs : starEach (e :: es) X.env = (false, eval e X.env) :: starEach es X.env := by rfl) (hplain : (backTo cpos (starEach es X.env)).any (·.1) = false := by rfl) :
    PE X (.Call (.Attribute o name apos) (e :: es) [] cpos) (tM G E (mMa ft fl mo mr)) := by
  refine ⟨fun pins s σ H Q I ⟨ρ, S, Z, μ, r, er, af⟩ => ?_⟩
  have h0 : tM G E mo σ H fun x H1 => ∃ w S1 Z1 μ1, Rel G Z1 μ1 H1 S1 ∧ ER G Z1 μ1 H1 ρ σ ∧ VR G Z1 μ1 H1 w x ∧ Aft G E Z1 μ1 H1 (match w with
      | .tup ts => (mr ρ S1).bind fun ws S2 => ft ts ws S2
      | w => (match itemsL S1 w with
        | some _ => (mr ρ S1).bind fun ws S2 => fl w ws S2
        | none => .stuck)) (PQ G Q) :=
    ⟨ρ, S, Z, μ, r, er, Aft.imp (Aft.bind af) fun w Z1 μ1 H1 S1 _ g1 r1 a1 x hx => ⟨w, S1, Z1, μ1, r1, er.mono r g1, hx, a1⟩⟩
  refine wpAny_Call_method_late hbase hfew hline rfl (thn (ho.run pins s σ H _ I h0) fun v s1 ⟨x, H1, I1, rx, w, S1, Z1, μ1, r1, er1, hx, a1⟩ => ?_)
  have fin : ∀ (id : String) (f : List W → Sto → R W), Aft G E Z1 μ1 H1 ((mr ρ S1).bind fun ws S2 => f ws S2) (PQ G Q) → (∀ ws S2 Z2 μ2 H2 (us : List Value) (vs : List V) s2, Inv X pins σ H2 s2 → Grow Z1 μ1 H1 Z2 μ2 H2 → Rel G Z2 μ2 H2 S2 → VRs G Z2 μ2 H2 ws vs → Vals vs us → Aft G E Z2 μ2 H2 (f ws S2) (PQ G Q) →
      wpAny (model X.prog X.w) X.A (call (.builtin id) (v :: us)) (EP X pins σ Q) X.xe s2) → wpAny (model X.prog X.w) X.A (callWith cpos (.builtin id) [v] (backTo cpos (starEach (e :: es) X.env)) (backToKw cpos (keywordEach [] X.env))) (EP X pins σ Q) X.xe s1 := fun id f a1 k => by
    have hA := ha.run cpos pins s1 σ H1 (fun vs H2 => ∃ ws S2 Z2 μ2, Grow Z1 μ1 H1 Z2 μ2 H2 ∧ Rel G Z2 μ2 H2 S2 ∧ VRs G Z2 μ2 H2 ws vs ∧ Aft G E Z2 μ2 H2 (f ws S2) (PQ G Q)) I1 ⟨ρ, S1, Z1, μ1, r1, er1, Aft.imp (Aft.bind a1) fun ws Z2 μ2 H2 S2 _ g2 r2 a2 vs hvs => ⟨ws, S2, Z2, μ2, g2, r2, hvs, a2⟩⟩
    rw [hs] at hA ⊢
    refine Calls.callWith_builtin (by show (false || (backTo cpos (starEach es X.env)).any (·.1)) = false; rw [hplain] <;> rfl) (Calls.evalArgs_plain ?_)
    exact thn hA fun us s2 ⟨vs, H2, I2, rv, ws, S2, Z2, μ2, g2, r2, hvs, a2⟩ => k ws S2 Z2 μ2 H2 us vs s2 I2 g2 r2 hvs rv a2
  cases w with
  | tup ts =>
    obtain ⟨a, vs0, rfl, q1, q2⟩ := i_tup hx
    obtain rfl : v = .ref a := rx
    obtain ⟨h1, h2⟩ := q1.type I1
    refine ⟨"tuple", idT, PySem.F.plainAttrs_tuple, sT, tT, h1, h2, ?_⟩
    exact fin idT (fun ws S2 => ft ts ws S2) a1 fun ws S2 Z2 μ2 H2 us vs s2 I2 g2 r2 hvs rv a2 => mT pins s2 σ H2 _ vs _ us Q I2 (show RelV (.ref a) (.ref a) from rfl) rv ⟨ts, ws, S2, Z2, μ2, r2, hx.mono r1 g2, hvs, a2⟩
  | _ =>
    dsimp only at a1
    split at a1
    · rename_i e1
      obtain ⟨a, vs0, rfl, q1, q2⟩ := itemsL_ok r1 e1 hx
      obtain ⟨h1, h2⟩ := tyV_is (T := "list") I1 rx (.inl ⟨rfl, vs0, by rw [hK]; exact q1⟩)
      refine ⟨"list", idL, PySem.F.plainAttrs_list, sL, tL, h1, h2, ?_⟩
      exact fin idL (fun ws S2 => fl _ ws S2) a1 fun ws S2 Z2 μ2 H2 us vs s2 I2 g2 r2 hvs rv a2 => mL pins s2 σ H2 _ vs _ us Q I2 rx rv ⟨_, ws, S2, Z2, μ2, r2, hx.mono r1 g2, hvs, a2⟩
    · exact a1.elim
end
/-! ### count -/
def cntD (xs ws : List W) (S : Sto) : R W := match ws with
  | [k] => (match datas xs with
    | some ds => (match k.data with
      | some d => if SeqAt.shaped (.list ds) && SeqAt.shaped d then .ok (.int ((ds.countP fun y => PyData.eqv y d : Nat) : Int)) S else .stuck
      | none => .stuck)
    | none => .stuck)
  | _ => .stuck
def cntL (w : W) (ws : List W) (S : Sto) : R W := match itemsL S w with
  | some xs => cntD xs ws S
  | none => .stuck
section
variable {X : Cx} {G : Glo} {E : XK}
theorem plainAll_of {ds : List PyData} (h : SeqAt.shaped (.list ds) = true) : PyData.plainAll ds = true := by
  have := PyData.plain_of_canLay0 (.list ds) (SeqAt.canLay_of_shaped h)
  exact this
theorem m_countT (hK : X.K = G.K) (hu : X.A.units + 65 < cLine) : MtR X "tuple.count" (ttM G E cntD) := by
  intro pins s σ H x vs v us Q I rx rv ⟨ts, ws, S, Z, μ, r, hw, hv, af⟩
  unfold cntD at af
  split at af
  · rename_i k
    obtain ⟨y, rfl, h1⟩ := one_of hv
    split at af
    · rename_i ds e1
      split at af
      · rename_i d e2
        split at af
        · rename_i e3
          rw [Bool.and_eq_true] at e3
          obtain ⟨a, xs, rfl, q1, q2⟩ := i_tup hw
          obtain rfl : v = .ref a := rx
          obtain ⟨u, rfl, ru⟩ := vals1 rv
          obtain ⟨_, its, r1, ht⟩ := q1.rd.ok I.hok
          obtain ⟨as, rd⟩ := Dp.readsAll I _ _ _ (by rw [hK]; exact data_dps e1 q2) r1
          obtain ⟨bs, rk⟩ := Dp.reads I _ _ _ (by rw [hK]; exact data_dp e2 h1) ru
          exact SeqAt.count_tuple_data (vs := its.toArray) (show s.heap.IsTuple a its.toArray from ht) (by simpa using rd) rk (plainAll_of e3.1) (PyData.plain_of_canLay0 _ (SeqAt.canLay_of_shaped e3.2)) (room_in_shaped e3.2 hu) ⟨.int _, H, I.tok _, ⟨_, rfl⟩, end_val r (vr_int _ _ _) af⟩
        · exact af.elim
      · exact af.elim
    · exact af.elim
  · exact af.elim
theorem m_countL (hK : X.K = G.K) (hu : X.A.units + 65 < cLine) : MtR X "list.count" (mtM G E cntL) := by
  intro pins s σ H x vs v us Q I rx rv ⟨w, ws, S, Z, μ, r, hw, hv, af⟩
  unfold cntL at af
  split at af
  · rename_i xs e0
    unfold cntD at af
    split at af
    · rename_i k
      obtain ⟨y, rfl, h1⟩ := one_of hv
      split at af
      · rename_i ds e1
        split at af
        · rename_i d e2
          split at af
          · rename_i e3
            rw [Bool.and_eq_true] at e3
            obtain ⟨a, xs, rfl, q1, q2⟩ := itemsL_ok r e0 hw
            obtain rfl : v = .ref a := rx
            obtain ⟨u, rfl, ru⟩ := vals1 rv
            obtain ⟨its, r1, pl, hz⟩ := I.list (by rw [hK]; exact q1)
            obtain ⟨as, rd⟩ := Dp.readsAll I _ _ _ (by rw [hK]; exact data_dps e1 q2) r1
            obtain ⟨bs, rk⟩ := Dp.reads I _ _ _ (by rw [hK]; exact data_dp e2 h1) ru
            exact SeqAt.count_list_data (vs := its.toArray) pl.isList (by simpa using rd) rk (plainAll_of e3.1) (PyData.plain_of_canLay0 _ (SeqAt.canLay_of_shaped e3.2)) (room_in_shaped e3.2 hu) ⟨.int _, H, I.tok _, ⟨_, rfl⟩, end_val r (vr_int _ _ _) af⟩
          · exact af.elim
        · exact af.elim
      · exact af.elim
    · exact af.elim
  · exact af.elim
/-! ### index -/
def indT (ts ws : List W) (S : Sto) : R W := match intsW ts with
  | some is => (match ws with
    | [.int k] => if k ∈ is then .ok (.int (is.idxOf k : Nat)) S else .stuck
    | _ => .stuck)
  | none => .stuck
theorem m_indexT (hK : X.K = G.K) : MtR X "tuple.index" (ttM G E indT) := by
  intro pins s σ H x vs v us Q I rx rv ⟨ts, ws, S, Z, μ, r, hw, hv, af⟩
  unfold indT at af
  split at af
  · rename_i is e1
    split at af
    · rename_i k
      obtain ⟨y, rfl, h1⟩ := one_of hv
      split at af
      · rename_i hk
        obtain ⟨a, xs, rfl, q1, q2⟩ := i_tup hw
        obtain rfl : v = .ref a := rx
        obtain ⟨u, rfl, ru⟩ := vals1 rv
        rw [i_int h1] at ru
        obtain ⟨t, rfl⟩ := ru
        obtain ⟨_, its, r1, ht⟩ := q1.rd.ok I.hok
        rw [ints_of_vrs e1 q2] at r1
        exact SeqAt.tuple_index_ints (vs := its) (show s.heap.IsTuple a its.toArray from ht) (ints_of_vals r1) hk ⟨.int _, H, I.tok _, ⟨_, rfl⟩, end_val r (vr_int _ _ _) af⟩
      · exact af.elim
    · exact af.elim
  · exact af.elim
end
/-! ### typed -/
section
variable {S : Sto} {o : ME} {r : MA} {ρ : Env'}
theorem q_maT {ft : List W → List W → Sto → R W} {fl : W → List W → Sto → R W} {S1 S2 S3 : Sto} {ts ws : List W} {z : W} (ho : o ρ S = .ok (.tup ts) S1) (hr : r ρ S1 = .ok ws S2) (hf : ft ts ws S2 = .ok z S3) : mMa ft fl o r ρ S = .ok z S3 := by
  unfold mMa; rw [ho, R.bind_ok]; dsimp only; rw [hr, R.bind_ok, hf]
theorem q_maL {ft : List W → List W → Sto → R W} {fl : W → List W → Sto → R W} {S1 S2 S3 : Sto} {xs ws : List W} {z : W} (ho : o ρ S = .ok (.lst xs) S1) (hr : r ρ S1 = .ok ws S2) (hf : fl (.lst xs) ws S2 = .ok z S3) : mMa ft fl o r ρ S = .ok z S3 := by
  unfold mMa; rw [ho, R.bind_ok]; unfold itemsL; dsimp only; rw [hr, R.bind_ok, hf]
theorem q_maR {ft : List W → List W → Sto → R W} {fl : W → List W → Sto → R W} {S1 S2 S3 : Sto} {n : Nat} {xs ws : List W} {z : W} (ho : o ρ S = .ok (.ref n) S1) (hi : S1[n]? = some (.lst xs)) (hr : r ρ S1 = .ok ws S2) (hf : fl (.ref n) ws S2 = .ok z S3) : mMa ft fl o r ρ S = .ok z S3 := by
  unfold mMa; rw [ho, R.bind_ok]; dsimp only; rw [it_ref hi]; dsimp only; rw [hr, R.bind_ok, hf]
theorem f_cntD {α : Type} {e : α → W} [h : Dat e] [DecidableEq α] {xs : List α} {k : α} (hk : h.k ≤ 62 := by decide) : cntD (xs.map e) [e k] S = .ok (.int ((xs.countP fun y => decide (y = k) : Nat) : Int)) S := by
  unfold cntD
  dsimp only
  rw [datas_map h.data, h.data k]
  dsimp only
  have s1 : SeqAt.shaped (.list (xs.map h.d)) = true := by
    unfold SeqAt.shaped PyData.canLay0 PyData.depth
    rw [can_map h.can, decide_eq_true (by have := dep_map h.dep xs; omega)]; rfl
  have s2 : SeqAt.shaped (h.d k) = true := by
    unfold SeqAt.shaped
    rw [h.can k, decide_eq_true (Nat.le_trans (h.dep k) (by omega))]; rfl
  rw [s1, s2]
  simp only [Bool.and_self, if_true]
  congr 3
  rw [List.countP_map]
  refine List.countP_congr fun x _ => ?_
  simp [h.eqv]
theorem f_cntL {α : Type} {e : α → W} [h : Dat e] [DecidableEq α] {xs : List α} {k : α} (hk : h.k ≤ 62 := by decide) : cntL (eL e xs) [e k] S = .ok (.int ((xs.countP fun y => decide (y = k) : Nat) : Int)) S := by
  unfold cntL eL itemsL; dsimp only; exact f_cntD hk
theorem f_cntR {α : Type} {e : α → W} [h : Dat e] [DecidableEq α] {n : Nat} {xs : List α} {k : α} (hn : S[n]? = some (.lst (xs.map e))) (hk : h.k ≤ 62 := by decide) : cntL (.ref n) [e k] S = .ok (.int ((xs.countP fun y => decide (y = k) : Nat) : Int)) S := by
  unfold cntL; rw [it_ref hn]; dsimp only; exact f_cntD hk
theorem f_indT {is : List Int} {k : Int} (h : k ∈ is) : indT (is.map W.int) [.int k] S = .ok (.int (is.idxOf k : Nat)) S := by
  unfold indT; rw [intsW_map]; dsimp only; rw [if_pos h]
end
end Mo

set_option Elab.async false
set_option linter.all false
set_option maxRecDepth 100000
set_option autoImplicit false
set_option maxHeartbeats 4000000
/-! Mon39: sorted(..) of tuples of whole numbers of any lengths. -/
namespace SrtT
open PySem PySem.W PySem.Calls PyProof.Rows Builtin
/-- v is a tuple of these numbers -/
def IsTI (h : Heap) (v : Value) (ns : List Int) : Prop := ∃ (a : Addr) (o : Obj) (items : Array Value) (n : Nat), v = .ref a ∧ h.get? a = some o ∧ o.cls = .type "tuple" ∧ o.data = .seq items n ∧ IntsAre items.toList ns
theorem IsTI.keeps {h h' : Heap} {v : Value} {ns : List Int} (x : IsTI h v ns) (k : ∀ b o, v = .ref b → h.get? b = some o → h'.get? b = some o) : IsTI h' v ns := by
  obtain ⟨a, o, items, n, e, g, r⟩ := x
  exact ⟨a, o, items, n, e, k _ _ e g, r⟩
theorem IsTI.tup {h : Heap} {a : Addr} {ns : List Int} (x : IsTI h (.ref a) ns) : ∃ items, IsTup h a items ∧ IntsAre items.toList ns := by
  obtain ⟨b, o, items, n, e, g, c, d, i⟩ := x
  cases e
  exact ⟨items, ⟨o, g, c, n, d⟩, i⟩
theorem IsTI.type {M : Model} {h : Heap} {v : Value} {ns : List Int} (x : IsTI h v ns) : Looks M h (typeOf v) (.type "tuple") := by
  obtain ⟨a, o, items, n, rfl, g, c, _⟩ := x
  rw [← c]
  exact (Looks.ld g).andThen .now
section
variable {prog : Program} {w : World} {A : Around} {E : Value → Shared → Prop} {s : Shared}
theorem kat_ints {L1 L2 : Nat} {Q : Bool → Shared → Prop} : ∀ {xs ys : List Value} {ns ms : List Int} (i : Nat), IntsAre xs ns → IntsAre ys ms → ns.length + L2 = ms.length + L1 → Q (HT.lexLt ns ms) s → KatLex prog w A true (decide (L1 < L2)) Q (xs.zip ys) i s
  | _, _, _, _, i, .nil, .nil, hl, h => by
    have : HT.lexLt [] [] = decide (L1 < L2) := by rw [HT.lexLt_nil_nil]; exact (decide_eq_false (by simp at hl; omega)).symm
    rw [this] at h
    exact kat_nil h
  | _, _, _, _, i, .nil, .cons y u r, hl, h => by
    rw [HT.lexLt_nil_cons, show true = decide (L1 < L2) from (decide_eq_true (by simp only [List.length_nil, List.length_cons] at hl; omega)).symm] at h
    exact kat_nil h
  | _, _, _, _, i, .cons x t r, .nil, hl, h => by
    rw [HT.lexLt_cons_nil, show false = decide (L1 < L2) from (decide_eq_false (by simp only [List.length_nil, List.length_cons] at hl; omega)).symm] at h
    exact kat_nil h
  | _, _, _, _, i, .cons x t r, .cons y u q, hl, h => by
    rw [HT.lexLt_cons] at h
    rw [List.zip_cons_cons]
    refine kat_cons (SeqAt.EqAt.int_int x t y u prog w _ _ ?_)
    refine kat_go (fun e1 => ?_) (fun e1 => ?_)
    · have e : x = y := by simpa using e1
      rw [if_pos e] at h
      exact kat_yes (kat_ints (i + 1) r q (by simp only [List.length_cons] at hl; omega) h)
    · have e : ¬ x = y := by simpa using e1
      rw [if_neg e] at h
      refine kat_no ?_
      cases (true && i == 0 : Bool) with
      | true => exact oneLt_int h
      | false => exact kat_one _ _ (PyProof.Rows.lt_int h)
theorem lt_A {v u : Value} {ns ms : List Int} {Q : Bool → Shared → Prop} (hv : IsTI s.heap v ns) (hw : IsTI s.heap u ms) (h : Q (HT.lexLt ns ms) s) : wpAny (model prog w) A (keyLt' (tuples' true) v u) Q E s := by
  obtain ⟨a, o, xs, n, rfl, ga, ca, da, ia⟩ := hv
  obtain ⟨b, o2, ys, n2, rfl, gb, cb, db, ib⟩ := hw
  refine kat_lt ga da gb db (kat_ints 0 ia ib ?_ h)
  have h1 := ia.length
  have h2 := ib.length
  rw [Array.length_toList] at h1 h2
  omega
theorem lt_C {v u : Value} {ns ms : List Int} {Q : Bool → Shared → Prop} (hu : A.units < cLine) (hv : IsTI s.heap v ns) (hw : IsTI s.heap u ms) (h : Q (HT.lexLt ns ms) s) : wpAny (model prog w) A (oneLt' false v u) Q E s := by
  obtain ⟨a, rfl⟩ : ∃ a, v = .ref a := let ⟨a, _, _, _, e, _⟩ := hv; ⟨a, e⟩
  obtain ⟨b, rfl⟩ : ∃ b, u = .ref b := let ⟨b, _, _, _, e, _⟩ := hw; ⟨b, e⟩
  obtain ⟨xs, t1, i1⟩ := hv.tup
  obtain ⟨ys, t2, i2⟩ := hw.tup
  exact kat_one _ _ (HT.lt_tupInts t1 t2 i1 i2 hu h)
theorem lt_B {v u : Value} {ns ms : List Int} {Q : Bool → Shared → Prop} (hu : A.units < cLine) (hv : IsTI s.heap v ns) (hw : IsTI s.heap u ms) (h : Q (HT.lexLt ns ms) s) : wpAny (model prog w) A (keyLt' oneType' v u) Q E s := by
  have sp : Looks (model prog w) s.heap (specialOf v "__lt__") (some (.builtin "tuple.__lt__")) := (hv.type (M := model prog w)).andThen (by rw [show typeLookup (.type "tuple") (Str.ofString "__lt__") = pure (some (.builtin "tuple.__lt__")) from PySem.F.slot_tuple_lt.lookup]; exact .now)
  obtain ⟨a, ⟨cls, dd, data, sl⟩, xs, n, rfl, ga, ca, da, ia⟩ := hv
  obtain ⟨b, ⟨cls2, dd2, data2, sl2⟩, ys, n2, rfl, gb, cb, db, ib⟩ := hw
  simp only at ca da cb db
  subst ca da cb db
  rw [keyLt'_oneType, oneLt'_eq]
  simp only [if_true]
  refine wpAny_bind (wpAny_cRoomFor hu ?_)
  refine wpAny_bind (NtL.csib (E := E) sp (PySem.F.slot_tuple_lt.bind _) (call_meets PySem.F.slot_tuple_lt ⟨_, ga, rfl⟩ PySem.F.entry_tuple_lt (PySem.F.args_tuple_lt_2 _ _) (HT.tuple_lt_ints a b xs ys n n2 dd dd2 sl sl2 ns ms ia ib) ⟨ga, gb, ?_⟩))
  exact wpAny_truthy_bool h
theorem firsts_any {M : Model} {k : Value → List Int} : ∀ (vs : List Value), (∀ v ∈ vs, IsTI s.heap v (k v)) → ∃ bs : List (Option Value), bs.length = vs.length ∧ (∀ (i : Nat) (v : Value), vs[i]? = some v → ∃ b, bs[i]? = some b ∧ (b = none ↔ k v = []) ∧ ∀ f, b = some f → ∃ x t, f = Value.int x t) ∧ ∀ (E : Value → Shared → Prop) (Q : List (Option Value) → Shared → Prop), Q bs s → wpAny M A (vs.mapM firstOfTuple') Q E s
  | [], _ => ⟨[], rfl, fun i v h => by simp at h, fun E Q h => by rw [List.mapM_nil]; exact wpAny_pure h⟩
  | v :: vs, hp => by
    obtain ⟨bs, h1, h2, h3⟩ := firsts_any vs fun u hu => hp u (List.mem_cons_of_mem _ hu)
    obtain ⟨a, o, items, n, rfl, g, c, d, ia⟩ := hp _ List.mem_cons_self
    refine ⟨items[0]? :: bs, by simp [h1], fun i u hu => ?_, fun E Q h => ?_⟩
    · cases i with
      | succ i => simpa using h2 i u (by simpa using hu)
      | zero =>
        have : Value.ref a = u := by simpa using hu
        subst this
        refine ⟨_, rfl, ?_, fun f hf => ?_⟩
        · cases e : k (.ref a) with
          | nil =>
            rw [e] at ia
            have hl := ia.length
            rw [Array.length_toList] at hl
            simp at hl
            simp [hl]
          | cons x xs =>
            rw [e] at ia
            have hl := ia.length
            rw [Array.length_toList] at hl
            simp at hl
            constructor
            · intro z
              have := Array.getElem?_eq_none_iff.mp z
              omega
            · intro z
              cases z
        · have hm : f ∈ items.toList := by
            rw [← Array.getElem?_toList] at hf
            exact List.mem_of_getElem? hf
          obtain ⟨x, t, e⟩ := ia.all f hm
          exact ⟨x, t, e⟩
    · rw [List.mapM_cons]
      refine wpAny_bind ?_
      rw [kas_first_eq]
      refine wpAny_bind (Looks.here (show Looks M s.heap (typeOf (.ref a)) o.cls from (Looks.ld g).andThen .now) ?_)
      rw [c, if_neg (by first | decide | simp)]
      refine wpAny_bind (listItems_at g d (wpAny_pure ?_))
      exact wpAny_bind (h3 _ (fun bs s' => wpAny M A (pure (items[0]? :: bs)) Q E s') (wpAny_pure h))
theorem tups_sortable {a : Addr} {vs : List Value} {k : Value → List Int} (h2 : 2 ≤ vs.length) (hu : A.units < cLine) (hp : ∀ v ∈ vs, IsTI s.heap v (k v)) (ha : ∀ v ∈ vs, v ≠ .ref a) : SrtO.SortableO prog w A s a vs fun v u => HT.lexLt (k v) (k u) := by
  intro h' keep
  have hp' : ∀ v ∈ vs, IsTI h' v (k v) := fun v hm => (hp v hm).keeps fun b o e g => keep b o (fun z => ha v hm (by rw [e, z])) g
  have cmp : ∀ κ, (∀ {v u : Value} {Q : Bool → Shared → Prop} {E : Value → Shared → Prop}, IsTI h' v (k v) → IsTI h' u (k u) → Q (HT.lexLt (k v) (k u)) { s with heap := h' } → wpAny (model prog w) A (keyLt' κ v u) Q E { s with heap := h' }) → SrtO.Cmp prog w A { s with heap := h' } κ (fun p => p.1 ∈ vs) (SrtO.lt2 fun v u => HT.lexLt (k v) (k u)) := fun κ hl p q hm hm' =>
    hl (E := fun _ _ => False) (hp' _ hm) (hp' _ hm') (Q := fun r s' => s' = { s with heap := h' } ∧ r = HT.lexLt (k p.1) (k q.1)) ⟨rfl, rfl⟩
  obtain ⟨bs, b1, b2, b3⟩ := firsts_any (s := { s with heap := h' }) (A := A) (M := model prog w) vs hp'
  by_cases hall : (bs.toArray.all fun x => x.isSome) = true
  · refine ⟨tuples' true, fun Q E hq => ?_, cmp _ fun h1 h2 h3 => lt_A (s := { s with heap := h' }) h1 h2 h3⟩
    rw [keyKind'_eq, List.mapM_toArray, map_eq_pure_bind]
    refine wpAny_bind (wpAny_bind (b3 _ _ (wpAny_pure ?_)))
    rw [if_pos hall]
    refine wpAny_bind (wpAny_rule ?_)
    have hsome : ∀ b ∈ bs, ∃ x t, b = some (Value.int x t) := fun b hb => by
      obtain ⟨i, hi⟩ := List.mem_iff_getElem?.mp hb
      have hil : i < vs.length := by rw [← b1]; exact (List.getElem?_eq_some_iff.mp hi).1
      obtain ⟨b', e1, _, e3⟩ := b2 i _ (List.getElem?_eq_getElem hil)
      rw [hi] at e1
      cases e1
      have hs : b.isSome = true := by
        simp only [List.all_toArray, List.all_eq_true] at hall
        exact hall b hb
      cases b with
      | none => cases hs
      | some f => obtain ⟨x, t, e⟩ := e3 f rfl; exact ⟨x, t, by rw [e]⟩
    have hT : ∀ f ∈ bs.filterMap id, Looks (model prog w) h' (typeOf f) (.type "int") := fun f hf => by
      obtain ⟨b, hb, e⟩ := List.mem_filterMap.mp hf
      obtain ⟨x, t, e2⟩ := hsome b hb
      rw [e2] at e
      cases e
      exact Looks.now
    have hne : bs.filterMap id ≠ [] := fun z => by
      have h0 : 0 < bs.length := by omega
      obtain ⟨x, t, e⟩ := hsome bs[0] (List.getElem_mem h0)
      have : Value.int x t ∈ bs.filterMap id := List.mem_filterMap.mpr ⟨_, List.getElem_mem h0, e⟩
      rw [z] at this
      exact absurd this List.not_mem_nil
    have hfm : (bs.toArray.filterMap id) = (bs.filterMap id).toArray := by simp
    rw [hfm, oneTypeOnly'_eq, List.mapM_toArray, map_eq_pure_bind]
    refine wpAny_bind (wpAny_bind (wpAny_bind (kas_mapM (s := { s with heap := h' }) (r := Value.type "int") _ (fun v hv Q' hq => (hT v hv).here hq) (wpAny_pure ?_))))
    generalize hg : bs.filterMap id = fs at hne
    cases fs with
    | nil => exact absurd rfl hne
    | cons f r =>
      have hall2 : ((List.map (fun _ => Value.type "int") (f :: r)).toArray.all fun x => x == Value.type "int") = true := by
        simp only [List.all_toArray, List.all_map, List.all_eq_true]
        intro _ _
        rfl
      have h0 : (List.map (fun _ => Value.type "int") (f :: r)).toArray[0]? = some (Value.type "int") := by simp
      rw [h0]
      simp only [hall2, if_true]
      refine wpAny_pure (wpAny_pure ?_)
      exact hq
  · by_cases hf : (bs.toArray[0]?.bind id).isSome = true
    · refine ⟨general', fun Q E hq => ?_, cmp _ fun h1 h2 h3 => lt_C (s := { s with heap := h' }) hu h1 h2 h3⟩
      rw [keyKind'_eq, List.mapM_toArray, map_eq_pure_bind]
      refine wpAny_bind (wpAny_bind (b3 _ _ (wpAny_pure ?_)))
      rw [if_neg hall, if_pos hf]
      exact wpAny_pure hq
    · refine ⟨oneType', fun Q E hq => ?_, cmp _ fun h1 h2 h3 => lt_B (s := { s with heap := h' }) hu h1 h2 h3⟩
      rw [keyKind'_eq, List.mapM_toArray, map_eq_pure_bind]
      refine wpAny_bind (wpAny_bind (b3 _ _ (wpAny_pure ?_)))
      rw [if_neg hall, if_neg hf]
      rw [oneTypeOnly'_eq, List.mapM_toArray, map_eq_pure_bind]
      refine wpAny_bind (wpAny_bind (wpAny_bind (kas_mapM (s := { s with heap := h' }) (r := Value.type "tuple") _ (fun v hv Q' hq => ((hp' v hv).type).here hq) (wpAny_pure ?_))))
      have hall2 : ((vs.map fun _ => Value.type "tuple").toArray.all fun x => x == Value.type "tuple") = true := by
        simp only [List.all_toArray, List.all_map, List.all_eq_true]
        intro _ _
        rfl
      have h0 : (vs.map fun _ => Value.type "tuple").toArray[0]? = some (Value.type "tuple") := by
        cases vs with
        | nil => simp at h2
        | cons v r => simp
      rw [h0]
      simp only [hall2, if_true]
      exact wpAny_pure (wpAny_pure hq)
end
end SrtT
namespace Mo
open PySem PySem.Spec L2
open PyProof.Rows hiding St
section
variable {X : Cx}
/-- sorted(xs), xs a list of tuples of whole numbers -/
theorem cr_sortedL (hu : X.A.units + 64 < cLine) : CallR X (.builtin "sorted") (fun vs H Q => ∃ (a : Addr) (xs : List V) (k : V → List Int), vs = [V.ref a] ∧ SqL X.K H a xs ∧ (∀ x ∈ xs, ∃ t, x = V.ref t ∧ SqT X.K H t ((k x).map V.int)) ∧
    ∀ (ys : List V) (p : Addr), ys.Perm xs → ys.Pairwise (fun x y => HT.lexLt (k y) (k x) = false) → H p = none → Q (.ref p) (upd H p (.lst ys))) := by
  intro pins s σ H vs us Q I r ⟨a, xs, k, e0, hs, hx, q⟩
  subst e0
  obtain ⟨its, rv, hl, hz⟩ := I.list hs
  obtain ⟨u, rfl, ru⟩ := vals1 r
  obtain rfl : u = Value.ref a := ru
  obtain ⟨e1, e2⟩ := refs_back rv fun x m => by
    obtain ⟨t, e, _⟩ := hx x m
    exact ⟨t, e⟩
  have ti : ∀ v ∈ its, SrtT.IsTI s.heap v (k (backV v)) := fun v hv => by
    obtain ⟨t, rfl⟩ := e2 v hv
    have hm : V.ref t ∈ xs := by rw [e1]; exact List.mem_map.mpr ⟨_, hv, rfl⟩
    obtain ⟨t', e, ht⟩ := hx _ hm
    cases e
    obtain ⟨its2, r2, ⟨o, ho, hc, n, hd⟩, _⟩ := I.tuple ht
    exact ⟨t, o, its2.toArray, n, rfl, ho, hc, hd, ints_of_vals r2⟩
  refine SrtO.sorted_ord (ltv := fun v u => HT.lexLt (k (backV v)) (k (backV u))) (NtL.swo_lexL fun u => k (backV u)) hl.isList (by rw [← rv.length]; exact hz) (fun h2 h₁ b hb kk => ?_) fun out h1 h2 => ?_
  · exact SrtT.tups_sortable (s := { s with heap := h₁ }) h2 (by show X.A.units + 1 + 1 < cLine; omega) (fun v hv => (ti v hv).keeps fun c o _ g => (kk c o g).2) fun v hv z => by
      obtain ⟨c, o, items, n, e, g, _⟩ := ti v hv
      rw [z] at e
      cases e
      exact (kk _ o g).1 rfl
  · have h3 : ∀ u ∈ out, ∃ a, u = Value.ref a := fun u hu => e2 u (h2.perm.mem_iff.mp hu)
    obtain ⟨n, hn⟩ := PyProof.Rows.sortedAll_at s.heap its out.toArray
    have hp : (out.map backV).Perm xs := by
      rw [e1]
      exact h2.perm.map _
    refine ⟨.ref (s.heap.objs.size + 1), upd H _ (.lst (out.map backV)), I.laid (t' := s.toks) (fun b o e => PyProof.Rows.sortedAll_old e) (Nat.le_succ _) ⟨?_, out, n, vals_back h3, hn⟩, rfl, q _ _ hp (List.pairwise_map.mpr (h1.imp fun z => z)) (I.hok.fresh (Nat.le_succ _))⟩
    rw [hp.length_eq]
    exact hz
end
end Mo
namespace Mo
open PySem PySem.Spec L2
open PyProof.Rows hiding St
def leT (a b : List Int) : Bool := !HT.lexLt b a
theorem leT_tot (a b : List Int) : leT a b = true ∨ leT b a = true := by
  unfold leT
  cases h : HT.lexLt b a
  · exact .inl rfl
  · exact .inr (by rw [NtL.lex_asym _ _ h]; rfl)
theorem leT_tr (a b c : List Int) (h1 : leT a b = true) (h2 : leT b c = true) : leT a c = true := by
  unfold leT at *
  rw [Bool.not_eq_true'] at *
  exact NtL.lex_tr _ _ _ h1 h2
theorem lex_anti : ∀ a b : List Int, HT.lexLt a b = false → HT.lexLt b a = false → a = b
  | [], [], _, _ => rfl
  | [], b :: bs, h, _ => by rw [HT.lexLt_nil_cons] at h; cases h
  | a :: as, [], _, h => by rw [HT.lexLt_nil_cons] at h; cases h
  | a :: as, b :: bs, h1, h2 => by
    rw [HT.lexLt_cons] at h1 h2
    by_cases e : a = b
    · rw [if_pos e] at h1
      rw [if_pos e.symm] at h2
      rw [e, lex_anti as bs h1 h2]
    · rw [if_neg e] at h1
      rw [if_neg (Ne.symm e)] at h2
      have := of_decide_eq_false h1
      have := of_decide_eq_false h2
      omega
theorem leT_anti (a b : List Int) (h1 : leT a b = true) (h2 : leT b a = true) : a = b := by
  unfold leT at *
  rw [Bool.not_eq_true'] at *
  exact lex_anti _ _ h2 h1
def sortT (l : List (List Int)) : List (List Int) := isort leT l
theorem sortT_eq {l m : List (List Int)} (p : m.Perm l) (h : m.Pairwise (fun x y => leT x y = true)) : m = sortT l := isort_eq leT leT_tot leT_tr leT_anti p h
theorem sortT_perm {l : List (List Int)} : (sortT l).Perm l := isort_perm leT l
theorem sortT_pw {l : List (List Int)} : (sortT l).Pairwise (fun x y => leT x y = true) := isort_pw leT leT_tot leT_tr l
def tupI : W → Option (List Int)
  | .tup ts => intsW ts
  | _ => none
def tupsI : List W → Option (List (List Int))
  | [] => some []
  | w :: ws => match tupI w with
    | some n => (match tupsI ws with
      | some ns => some (n :: ns)
      | none => none)
    | none => none
def sortTL (xs : List W) (S : Sto) : R W := match tupsI xs with
  | some nss => .ok (.lst ((sortT nss).map fun ns => .tup (ns.map .int))) S
  | none => .stuck
/-- sorted(..): whole numbers, or tuples of such -/
def sortAW (ws : List W) (S : Sto) : R W := match ws with
  | [.lst xs] => (match intsW xs with
    | some _ => sortW ws S
    | none => sortTL xs S)
  | [.ref n] => (match S[n]? with
    | some (.lst xs) => (match intsW xs with
      | some _ => sortW ws S
      | none => sortTL xs S)
    | _ => sortW ws S)
  | _ => sortW ws S
section
variable {X : Cx} {G : Glo} {E : XK} {Z : Addr → Prop} {μ : List Addr} {H : Hp} {S : Sto}
open Classical in
/-- the numbers of a tuple, by the heap -/
noncomputable def keyT (H : Hp) (v : V) : List Int := match v with
  | .ref a => if h : ∃ ns : List Int, XT H a (ns.map V.int) then h.choose else []
  | _ => []
theorem mapI_inj : ∀ {a b : List Int}, a.map V.int = b.map V.int → a = b
  | [], [], _ => rfl
  | [], _ :: _, h => by cases h
  | _ :: _, [], h => by cases h
  | x :: xs, y :: ys, h => by
    rw [List.map_cons, List.map_cons] at h
    injection h with h1 h2
    injection h1 with h1
    rw [h1, mapI_inj h2]
theorem keyT_of {ns : List Int} {v : V} (h : VR G Z μ H (.tup (ns.map W.int)) v) : keyT H v = ns ∧ ∃ a, v = .ref a ∧ XT H a (ns.map V.int) := by
  obtain ⟨a, vs, rfl, q1, q2⟩ := i_tup h
  rw [ints_of_vrs (intsW_map ns) q2] at q1
  refine ⟨?_, a, rfl, q1⟩
  have hx : ∃ ns : List Int, XT H a (ns.map V.int) := ⟨ns, q1⟩
  unfold keyT
  dsimp only
  rw [dif_pos hx]
  exact mapI_inj (hx.choose_spec.inj q1)
theorem tupI_of {w : W} {ns : List Int} (e : tupI w = some ns) : w = .tup (ns.map W.int) := by
  unfold tupI at e
  split at e
  · rename_i ts
    congr 1
    have : ∀ {ts : List W} {ns : List Int}, intsW ts = some ns → ts = ns.map W.int := by
      intro ts
      induction ts with
      | nil => intro ns e; unfold intsW at e; cases e; rfl
      | cons t ts ih =>
        intro ns e
        cases t <;> first | (unfold intsW at e; cases e; done) | skip
        unfold intsW at e
        split at e
        · rename_i js e1
          cases e
          rw [ih e1]; rfl
        · cases e
    exact this e
  · cases e
theorem tups_vrs : ∀ {ws : List W} {vs : List V} {nss : List (List Int)}, tupsI ws = some nss → VRs G Z μ H ws vs → vs.map (keyT H) = nss ∧ ∀ v ∈ vs, VR G Z μ H (.tup ((keyT H v).map W.int)) v ∧ ∃ a, v = .ref a ∧ XT H a ((keyT H v).map V.int)
  | [], vs, nss, e, h => by unfold tupsI at e; cases e; unfold VRs at h; subst h; exact ⟨rfl, fun _ h => absurd h List.not_mem_nil⟩
  | w :: ws, vs, nss, e, h => by
    unfold VRs at h
    obtain ⟨v, r, rfl, h1, h2⟩ := h
    unfold tupsI at e
    cases e1 : tupI w with
    | none => rw [e1] at e; cases e
    | some n =>
      rw [e1] at e
      cases e2 : tupsI ws with
      | none => rw [e2] at e; cases e
      | some ns =>
        rw [e2] at e; cases e
        rw [tupI_of e1] at h1
        obtain ⟨k1, k2⟩ := keyT_of h1
        obtain ⟨k3, k4⟩ := tups_vrs e2 h2
        refine ⟨by rw [List.map_cons, k1, k3], fun u hu => ?_⟩
        rcases List.mem_cons.mp hu with rfl | hu
        · rw [k1]; exact ⟨h1, k2⟩
        · exact k4 u hu
theorem vrs_keys : ∀ {ys : List V}, (∀ v ∈ ys, VR G Z μ H (.tup ((keyT H v).map W.int)) v) → VRs G Z μ H ((ys.map (keyT H)).map fun ns => .tup (ns.map W.int)) ys
  | [], _ => VRs.nil
  | y :: ys, h => VRs.cons (h y List.mem_cons_self) (vrs_keys fun v hv => h v (List.mem_cons_of_mem _ hv))
theorem sortTL_ok (hK : X.K = G.K) (hu : X.A.units + 64 < cLine) {pins : List (Addr × Obj)} {s : Shared} {σ : L2.St} {us : List Value} {Q : VK} {a : Addr} {xs : List W} {vs : List V} (I : Inv X pins σ H s) (rv : Vals [V.ref a] us) (r : Rel G Z μ H S) (q1 : SqL G.K H a vs) (q2 : VRs G Z μ H xs vs) (af : Aft G E Z μ H (sortTL xs S) (PQ G Q)) :
    wpAny (model X.prog X.w) X.A (call (.builtin "sorted") us) (EP X pins σ Q) X.xe s := by
  unfold sortTL at af
  split at af
  · rename_i nss e
    obtain ⟨k1, k2⟩ := tups_vrs e q2
    refine cr_sortedL hu pins s σ H _ us Q I rv ⟨a, vs, keyT H, rfl, by rw [hK]; exact q1, fun x hx => ?_, fun ys p hp hs hn => ?_⟩
    · obtain ⟨b, e, hb⟩ := (k2 x hx).2
      exact ⟨b, e, hb.sq⟩
    · have e2 : ys.map (keyT H) = sortT nss := sortT_eq (by rw [← k1]; exact hp.map _) (List.pairwise_map.mpr (hs.imp fun z => by unfold leT; rw [z]; rfl))
      refine end_lst r ?_ af p hn
      rw [← e2]
      exact vrs_keys fun v hv => (k2 v (hp.mem_iff.mp hv)).1
  · exact af.elim
theorem c_sortA (hK : X.K = G.K) (hc : X.calm = true) (hu : X.A.units + 64 < cLine) : CallR X (.builtin "sorted") (cM G E sortAW) := by
  intro pins s σ H xs us Q I rv ⟨ws, S, Z, μ, r, hv, af⟩
  have old : Aft G E Z μ H (sortW ws S) (PQ G Q) → wpAny (model X.prog X.w) X.A (call (.builtin "sorted") us) (EP X pins σ Q) X.xe s := fun af => c_sort hK hc pins s σ H xs us Q I rv ⟨ws, S, Z, μ, r, hv, af⟩
  unfold sortAW at af
  split at af
  · split at af
    · exact old af
    · obtain ⟨v, rfl, h1⟩ := one_of hv
      obtain ⟨a, vs, rfl, q1, _, q2⟩ := i_lst h1
      exact sortTL_ok hK hu I rv r (.inl (.inl q1)) q2 af
  · split at af
    · rename_i hs
      split at af
      · exact old af
      · obtain ⟨v, rfl, h1⟩ := one_of hv
        obtain ⟨a, vs, rfl, q0, q1, q2⟩ := r.lst h1 hs
        exact sortTL_ok hK hu I rv r (.inl (.inl q1)) q2 af
    · exact old af
  · exact old af
end
theorem tupsI_map : ∀ xs : List (List Int), tupsI (xs.map (eT W.int)) = some xs
  | [] => rfl
  | x :: xs => by
    rw [List.map_cons]
    unfold tupsI tupI eT
    dsimp only
    rw [intsW_map]
    dsimp only
    have := tupsI_map xs
    unfold eT at this
    rw [this]
theorem f_sortT {S : Sto} {xs : List (List Int)} : sortAW [eL (eT W.int) xs] S = .ok (eL (eT W.int) (sortT xs)) S := by
  cases xs with
  | nil => rfl
  | cons x xs =>
    unfold sortAW eL
    dsimp only
    have : intsW ((x :: xs).map (eT W.int)) = none := by rw [List.map_cons]; unfold eT intsW; rfl
    rw [this]
    dsimp only
    unfold sortTL
    rw [tupsI_map]
    rfl
theorem f_sortTR {S : Sto} {xs : List (List Int)} {n : Nat} (hn : S[n]? = some (.lst (xs.map (eT W.int)))) : sortAW [.ref n] S = .ok (eL (eT W.int) (sortT xs)) S := by
  cases xs with
  | nil =>
    unfold sortAW sortW
    dsimp only
    rw [hn]
    rfl
  | cons x xs =>
    unfold sortAW
    dsimp only
    rw [hn]
    dsimp only
    have : intsW ((x :: xs).map (eT W.int)) = none := by rw [List.map_cons]; unfold eT intsW; rfl
    rw [this]
    dsimp only
    unfold sortTL
    rw [tupsI_map]
    rfl
theorem f_sortIA {S : Sto} {xs : List Int} : sortAW [eL W.int xs] S = .ok (eL W.int (sortI xs)) S := by
  unfold sortAW eL
  dsimp only
  rw [intsW_map]
  exact f_sortI
theorem f_sortDA {α : Type} {e : α → W} {S : Sto} {n : Nat} {xs : List (Int × α)} (hn : S[n]? = some (.dict (xs.map (eK e)))) (hl : xs.length < 64) : sortAW [.ref n] S = .ok (eL W.int (sortI (xs.map Prod.fst))) S := by
  unfold sortAW
  dsimp only
  rw [hn]
  exact f_sortD hn hl
end Mo
namespace Mo
open PySem PySem.Spec L2
/-- what is never None -/
class Nn {α : Type} (e : α → W) : Prop where
  h : ∀ a S, isW (e a) .non S = .ok (.bl false) S
instance : Nn W.int := ⟨fun _ _ => rfl⟩
instance {α : Type} {e : α → W} : Nn (eT e) := ⟨fun _ _ => rfl⟩
instance {α : Type} {e : α → W} : Nn (eL e) := ⟨fun _ _ => rfl⟩
instance {α β : Type} {e : α → W} {f : β → W} : Nn (eP e f) := ⟨fun _ _ => rfl⟩
theorem f_isN {α : Type} {e : α → W} [h : Nn e] {o : Option α} {S : Sto} : isW (eO e o) .non S = .ok (.bl o.isNone) S := by
  cases o with
  | none => rfl
  | some a => exact h.h a S
theorem f_isntN {α : Type} {e : α → W} [h : Nn e] {o : Option α} {S : Sto} : isntW (eO e o) .non S = .ok (.bl (!o.isNone)) S := by
  unfold isntW
  rw [f_isN (e := e) (o := o) (S := S)]
end Mo

set_option Elab.async false
set_option linter.all false
set_option maxRecDepth 100000
set_option autoImplicit false
/-! Mon40: a, b, .. = a list of that length. -/
namespace Mo
open PySem PySem.Spec L2
def tgL (is : List Nat) : MG := fun w ρ => match w with
  | .lst ws => setAll is ws ρ
  | _ => none
theorem gm_lst {G : Glo} {K : PySem.W.Frag} {is : List Nat} {n : Nat} (hn : n = is.length) : GM G is (L2.gLst K n (gAll is)) (tgL is) := fun w ρ ρ1 x σ Z μ H S Q r hx er e q => by
  cases w with
  | lst ws =>
    unfold VR at hx
    obtain ⟨a, vs, rfl, h1, _, h2⟩ := hx
    have hl := setAll_len is ws ρ ρ1 e
    exact ⟨a, vs, rfl, SqL.of h1, by rw [h2.length, hl, hn], gm_all is ws vs ρ ρ1 σ h2 er e q⟩
  | _ => unfold tgL at e; cases e
section
variable {ρ : Env'} {S : Sto} {L : List (Nat × O)} {n : Nat} {xs : List Int} {Qn : Env' → Sto → Prop} {Qr : W → Sto → Prop} {Qe : Str → Prop}
/-- o[i] += v, of a list of whole numbers -/
theorem w_augIO {mo mi me : ME} {j v : Int} (hO : Own S L) (i : Nat) (hi : L[i]? = some (n, .lst (xs.map W.int))) (ho : mo ρ S = .ok (.ref n) S) (hj : mi ρ S = .ok (.int j) S) (he : me ρ S = .ok (.int v) S) (h : 0 ≤ j ∧ j < xs.length)
    (k : ∀ S' : Sto, Own S' (L.set i (n, .lst ((sI xs j (gI xs j + v)).map W.int))) → Qn ρ S') : Ws (mAugIx mo mi me ρ S) Qn Qr Qe := by
  have hg := own_get hO i hi
  have hx : (xs.map W.int)[j.toNat]? = some (.int (gI xs j)) := by
    have := atI_map (e := W.int) (xs := xs) (i := j) h
    have ej : (j.toNat : Int) = j := by omega
    rw [← ej, atI_natE (by simp; omega), ej] at this
    exact this
  unfold mAugIx
  rw [ho, R.bind_ok, hj, R.bind_ok]
  dsimp only
  rw [hg]
  dsimp only
  rw [List.length_map, ixN_of h]
  dsimp only
  rw [hx]
  dsimp only
  rw [he, R.bind_ok]
  dsimp only
  rw [hg]
  dsimp only
  rw [List.length_map, ixN_of h]
  unfold Ws
  refine k _ ?_
  have := own_set hO i hi (.lst ((sI xs j (gI xs j + v)).map W.int))
  unfold sI at this ⊢
  rw [List.map_set] at this ⊢
  exact this
end
theorem inV_ints (x : Int) : ∀ xs : List Int, L2.inV (.int x) (xs.map V.int) = decide (x ∈ xs)
  | [] => rfl
  | y :: xs => by
    have ih := inV_ints x xs
    unfold L2.inV at ih ⊢
    rw [List.map_cons, List.any_cons, ih]
    by_cases h : x = y
    · subst h; simp [L2.eqV]
    · have : L2.eqV (V.int y) (V.int x) = false ∨ True := .inr trivial
      simp [L2.eqV, h, Ne.symm h]
theorem f_inTI {x : Int} {xs : List Int} {S : Sto} : inW false (.int x) (eT W.int xs) S = .ok (.bl (decide (x ∈ xs))) S := by
  unfold inW flW anyL eT
  dsimp only
  rw [flWs_int]
  dsimp only
  rw [inV_ints]
  rfl
theorem f_ninTI {x : Int} {xs : List Int} {S : Sto} : inW true (.int x) (eT W.int xs) S = .ok (.bl (!decide (x ∈ xs))) S := by
  unfold inW flW anyL eT
  dsimp only
  rw [flWs_int]
  dsimp only
  rw [inV_ints]
  rfl
theorem f_inLI {x : Int} {xs : List Int} {S : Sto} : inW false (.int x) (eL W.int xs) S = .ok (.bl (decide (x ∈ xs))) S := by
  unfold inW flW anyL eL itemsL
  dsimp only
  rw [flWs_int]
  dsimp only
  rw [inV_ints]
  rfl
theorem f_ninLI {x : Int} {xs : List Int} {S : Sto} : inW true (.int x) (eL W.int xs) S = .ok (.bl (!decide (x ∈ xs))) S := by
  unfold inW flW anyL eL itemsL
  dsimp only
  rw [flWs_int]
  dsimp only
  rw [inV_ints]
  rfl
end Mo

set_option Elab.async false
set_option linter.all false
set_option maxRecDepth 100000
set_option autoImplicit false
/-! Mon41: tuple(range(..)). -/
namespace Mo
open PySem PySem.Spec L2
section
open PyProof.Rows hiding St
variable {X : Cx} {e : Expr} {te : St → Hp → (Int → Int → Hp → Prop) → Prop}
def tTupRgX (te : St → Hp → (Int → Int → Hp → Prop) → Prop) : TE := fun σ H Q => te σ H fun a b H1 => RgOk a b ∧ ∀ (q : Addr) (o : Obj), o.dict = none → H1 q = none → Q (.ref q) (upd H1 q (.frz o (.tup (rgV a b))))
theorem pe_tupRgX {p pos : Pos} (hc : X.calm = true) (hg : Gl X "tuple") (hm : X.mg "tuple" = none) (he : PRg X e te) (na : starEach [e] X.env = (false, eval e X.env) :: starEach [] X.env := by rfl) : PE X (.Call (.Name "tuple" p) [e] [] pos) (tTupRgX te) := by
  refine ⟨fun pins s σ H Q I h => ?_⟩
  refine Call_ (ld_blt I hg hm boot_tuple (PyProof.Rows.callWith_type1 (args_cons (thn (he pins s σ H _ I h) fun x s1 ⟨r, a, b, t, u, v, H1, ex, hr, I1, ok, q⟩ => args_nil ?_) na) na))
  subst ex
  obtain ⟨b1, b2, b3, b4, b5⟩ := ok
  refine call_tuple_range (n := (b - a).toNat) (I1.ok.hd hc) hr (small_one b1 b2 b3 b4) (rangeSize_nat a b) b5 fun h' tk acc hk hi => ?_
  have I2 : Inv X pins σ H1 { s1 with heap := h', toks := tk } := I1.kept hk
  have L := laid_tup (xs := rgV a b) (its := acc.toList) I2 (vals_rg hi) (by rw [rgV_length, sizeLine_eq]; omega)
  rw [Array.toArray_toList] at L
  exact ⟨.ref h'.objs.size, _, L, rfl, q _ _ rfl (I2.hok.fresh (Nat.le_refl _))⟩
end
def trngW (ws : List W) (S : Sto) : R W := match ws with
  | [.int j] => if j < 100000 ∧ -100000 < j then .ok (.tup (rangeW 0 j.toNat)) S else .stuck
  | _ => .stuck
def trng2W (ws : List W) (S : Sto) : R W := match ws with
  | [.int i, .int j] => if j < 100000 ∧ -100000 < j ∧ i < 100000 ∧ -100000 < i then .ok (.tup (rangeW i (j - i).toNat)) S else .stuck
  | _ => .stuck
section
variable {X : Cx} {G : Glo} {E : XK} {a b : Expr} {ma mb : ME} {p pos : Pos}
theorem em_trng {q pos' : Pos} (hm : X.mg "tuple" = none) (hm2 : X.mg "range" = none) (ha : PE X a (tM G E ma)) (hc : X.calm = true := by rfl) (hg : Gl X "tuple" := by rfl) (hg2 : Gl X "range" := by rfl) (na : starEach [a] X.env = (false, eval a X.env) :: starEach [] X.env := by rfl)
    (nb : starEach [.Call (.Name "range" q) [a] [] pos'] X.env = (false, eval (.Call (.Name "range" q) [a] [] pos') X.env) :: starEach [] X.env := by rfl) :
    PE X (.Call (.Name "tuple" p) [.Call (.Name "range" q) [a] [] pos'] [] pos) (tM G E (mAp trngW (mCons ma mNil))) :=
  (pe_tupRgX hc hg hm (prg_1 hg2 hm2 ha na) nb).weak fun σ H Q ⟨ρ, S, Z, μ, r, er, af⟩ => by
    have h := Aft.bind af
    unfold mCons at h
    refine ⟨ρ, S, Z, μ, r, er, Aft.imp (Aft.bind h) fun w Z1 μ1 H1 S1 _ g1 r1 a1 x hx => ?_⟩
    have a2 := Aft.here (E := E) r1 a1
    unfold trngW at a2
    split at a2
    · rename_i j he
      have e1 : w = .int j := by cases he; rfl
      subst e1
      split at a2
      · rename_i hj
        refine ⟨j, i_int hx, ⟨by omega, by omega, by omega, by omega, by omega⟩, end_tup r1 ?_ a2⟩
        have := rangeW_v (G := G) (Z := Z1) (μ := μ1) (H := H1) j.toNat 0
        unfold rgV
        rw [Int.sub_zero]
        exact this
      · exact a2.elim
    · exact a2.elim
theorem em_trng2 {q pos' : Pos} (hm : X.mg "tuple" = none) (hm2 : X.mg "range" = none) (ha : PE X a (tM G E ma)) (hb : PE X b (tM G E mb)) (hc : X.calm = true := by rfl) (hg : Gl X "tuple" := by rfl) (hg2 : Gl X "range" := by rfl)
    (na : starEach [a, b] X.env = (false, eval a X.env) :: starEach [b] X.env := by rfl) (nb : starEach [b] X.env = (false, eval b X.env) :: starEach [] X.env := by rfl) (hp : (backTo pos' (starEach [b] X.env)).any (·.1) = false := by rfl)
    (nl : starEach [.Call (.Name "range" q) [a, b] [] pos'] X.env = (false, eval (.Call (.Name "range" q) [a, b] [] pos') X.env) :: starEach [] X.env := by rfl) :
    PE X (.Call (.Name "tuple" p) [.Call (.Name "range" q) [a, b] [] pos'] [] pos) (tM G E (mAp trng2W (mCons ma (mCons mb mNil)))) :=
  (pe_tupRgX hc hg hm (prg_2 hg2 hm2 ha hb na nb hp) nl).weak fun σ H Q ⟨ρ, S, Z, μ, r, er, af⟩ => by
    simp only [mAp, mCons, mNil, R.bind_bind, R.bind_ok] at af
    refine ⟨ρ, S, Z, μ, r, er, Aft.imp (Aft.bind af) fun w Z1 μ1 H1 S1 _ g1 r1 a1 x hx => ?_⟩
    refine ⟨ρ, S1, Z1, μ1, r1, er.mono r g1, Aft.imp (Aft.bind a1) fun u Z2 μ2 H2 S2 _ g2 r2 a2 y hy => ?_⟩
    have hx2 := hx.mono r1 g2
    unfold trng2W at a2
    split at a2
    · rename_i i j he
      cases he
      split at a2
      · rename_i hj
        refine ⟨i, j, i_int hx2, i_int hy, ⟨by omega, by omega, by omega, by omega, by omega⟩, end_tup r2 ?_ a2⟩
        exact rangeW_v (G := G) (Z := Z2) (μ := μ2) (H := H2) (j - i).toNat i
      · exact a2.elim
    · exact a2.elim
end
theorem f_trng {j : Int} {S : Sto} (h : -100000 < j ∧ j < 100000) : trngW [.int j] S = .ok (eT W.int (rg j)) S := by
  unfold trngW
  dsimp only
  rw [if_pos ⟨h.2, h.1⟩, rangeW_map]
  unfold eT rg
  simp
theorem f_trng2 {i j : Int} {S : Sto} (h : (-100000 < i ∧ i < 100000) ∧ -100000 < j ∧ j < 100000) : trng2W [.int i, .int j] S = .ok (eT W.int (rg2 i j)) S := by
  unfold trng2W
  dsimp only
  rw [if_pos ⟨h.2.2, h.2.1, h.1.2, h.1.1⟩, rangeW_map]
  rfl
/-! {k: v} of whole numbers, in the store -/
def mDict1 (k : Key) (w : W) : ME := fun _ S => .ok (.ref S.length) (S ++ [.dict [(k, w)]])
theorem em_dict1 {X : Cx} {G : Glo} {E : XK} {pos : Pos} {ke ve : Expr} {c d : Int} (hk : PE X ke (tC (.int c))) (hv : PE X ve (tC (.int d))) : PE X (.Dict [some ke] [ve] pos) (tM G E (mDict1 (.inl c) (.int d))) :=
  (pe_disp (pps_cons hk hv pps_nil) rfl rfl (by simp) (by simp)).weak fun σ H Q ⟨ρ, S, Z, μ, r, er, af⟩ p hp => by
    show _ ∧ _
    refine ⟨upd_same, [(.inl c, .int d)], rfl, by simp, ?_⟩
    rw [upd_upd]
    have g : Grow Z μ H (fun a => Z a ∨ a = p) (μ ++ [p]) (upd H p (.dK [(.inl c, .int d)])) := Grow.new hp
    refine af _ _ _ g (r.new hp ⟨rfl, rfl⟩ ⟨_, upd_same, ?_⟩) _ ?_
    · unfold KVR
      exact ⟨_, _, rfl, by unfold VR; rfl, by unfold KVR; rfl⟩
    · unfold VR
      exact ⟨p, by rw [← r.len]; simp, rfl⟩
theorem w_dict1O {ρ : Env'} {S : Sto} {L : List (Nat × O)} {Qn : Env' → Sto → Prop} {Qr : W → Sto → Prop} {Qe : Str → Prop} {i : Nat} {c d : Int} (hO : Own S L) (k : ∀ (n : Nat) (S' : Sto), Own S' (L ++ [(n, .dict ([(c, d)].map (eK W.int)))]) → Qn (ρ.set i (some (.ref n))) S') : Ws (mSet i (mDict1 (.inl c) (.int d)) ρ S) Qn Qr Qe :=
  w_set rfl (k _ _ (own_new hO _))
end Mo

set_option Elab.async false
set_option linter.all false
set_option maxRecDepth 100000
set_option autoImplicit false
/-! Mon42: texts: a module's own, str(n), int(sign), joins, splits, signs, slices. -/
namespace Mo
open PySem PySem.Spec L2
section
open PyProof.Rows hiding St
variable {G : Glo} {Z : Addr → Prop} {μ : List Addr} {H : Hp} {S : Sto}
theorem strs_vrs : ∀ (ys : List Str), VRs G Z μ H (ys.map W.str) (ys.map V.str)
  | [] => VRs.nil
  | n :: ns => VRs.cons (vr_str _ _ _) (strs_vrs ns)
def strsW : List W → Option (List Str)
  | [] => some []
  | .str b :: ws => match strsW ws with
    | some bs => some (b :: bs)
    | none => none
  | _ => none
theorem strs_of_vrs : ∀ {ws : List W} {ys : List Str} {vs : List V}, strsW ws = some ys → VRs G Z μ H ws vs → vs = ys.map V.str
  | [], ys, vs, e, h => by
    unfold strsW at e; cases e
    unfold VRs at h; exact h
  | w :: ws, ys, vs, e, h => by
    unfold VRs at h
    obtain ⟨v, q, rfl, h1, h2⟩ := h
    unfold strsW at e
    split at e
    · rename_i heq; cases heq
    · rename_i b ws' heq
      cases heq
      split at e
      · rename_i bs e2
        cases e
        rw [i_str h1, strs_of_vrs e2 h2]; rfl
      · cases e
    · cases e
theorem anyL_at (r : Rel G Z μ H S) {w : W} {v : V} {xs : List W} (e : anyL S w = some xs) (h : VR G Z μ H w v) : ∃ a vs, v = .ref a ∧ (SqL G.K H a vs ∨ SqT G.K H a vs) ∧ VRs G Z μ H xs vs := by
  unfold anyL at e
  split at e
  · cases e
    obtain ⟨a, vs, rfl, q1, q2⟩ := i_tup h
    exact ⟨a, vs, rfl, .inr q1.sq, q2⟩
  · obtain ⟨a, vs, rfl, q1, q2⟩ := itemsL_ok r e h
    exact ⟨a, vs, rfl, .inl q1, q2⟩
end
/-! ### a text of the module -/
section
open PyProof.Rows hiding St
variable {X : Cx} {G : Glo} {E : XK} {x : Str} {pos : Pos}
theorem em_gs {z : Str} (hm : ∃ t, X.mg x = some (.str z t)) (hg : Gl X x := by rfl) (hdb : (x == ("__debug__" : Str)) = false := by decide) : PE X (.Name x pos) (tM G E (mC (.str z))) := by
  obtain ⟨t, ht⟩ := hm
  exact em_c (v := .str z) (pe_glob hg ht ⟨_, rfl⟩ hdb) vr_str
/-! ### str(n), int(x) -/
def strW (ws : List W) (S : Sto) : R W := match ws with
  | [.int i] => if i.natAbs.log2 < 1920 then .ok (.str (toString i)) S else .stuck
  | _ => .stuck
theorem c_str : CallR X (.type "str") (cM G E strW) := by
  intro pins s σ H vs us Q I rv ⟨ws, S, Z, μ, r, hv, af⟩
  unfold strW at af
  split at af
  · obtain ⟨v, rfl, h1⟩ := one_of hv
    split at af
    · rename_i h
      exact call_str_int pins s σ H _ us Q I rv ⟨_, by rw [i_int h1], h, end_val r (vr_str _ _ _) af⟩
    · exact af.elim
  · exact af.elim
def intXW (ws : List W) (S : Sto) : R W := match ws with
  | [.str a] => (match PySem.intText? a with
    | some n => if a.length ≤ 640 then .ok (.int n) S else .stuck
    | none => .stuck)
  | ws => intW ws S
theorem c_intX : CallR X (.type "int") (cM G E intXW) := by
  intro pins s σ H vs us Q I rv ⟨ws, S, Z, μ, r, hv, af⟩
  unfold intXW at af
  split at af
  · obtain ⟨v, rfl, h1⟩ := one_of hv
    split at af
    · rename_i n e
      split at af
      · rename_i h
        exact call_int_str pins s σ H _ us Q I rv ⟨_, n, by rw [i_str h1], e, h, end_val r (vr_int _ _ _) af⟩
      · exact af.elim
    · exact af.elim
  · exact c_int pins s σ H vs us Q I rv ⟨ws, S, Z, μ, r, hv, af⟩
/-! ### methods of a text, one argument -/
def mS1 (f : Str → W → Sto → R W) (o e : ME) : ME := fun ρ S => (o ρ S).bind fun w S1 => match w with
  | .str a => (e ρ S1).bind fun u S2 => f a u S2
  | _ => .stuck
def srM (G : Glo) (E : XK) (f : Str → W → Sto → R W) : V → List V → Hp → VK → Prop := fun x xs H Q => ∃ a w v S Z μ, x = .str a ∧ xs = [v] ∧ Rel G Z μ H S ∧ VR G Z μ H w v ∧ Aft G E Z μ H (f a w S) (PQ G Q)
theorem em_s1 {o e : Expr} {mo me : ME} {f : Str → W → Sto → R W} {id : String} {name : Str} {apos pos : Pos} (slot : Slot "str" name id) (ty : typeOf (.builtin id) = pure (.type "method_descriptor")) (rule : MtR X id (srM G E f)) (ho : PE X o (tM G E mo)) (he : PE X e (tM G E me))
    (hs : starEach [e] X.env = [(false, eval e X.env)] := by rfl) (hbase : attributeBase o name X.env (eval o X.env) = eval o X.env := by rfl) (hline : (apos.endLine == pos.line) = true := by rfl) :
    PE X (.Call (.Attribute o name apos) [e] [] pos) (tM G E (mS1 f mo me)) :=
  (pe_m1 slot ty rule ho he hs hbase hline).weak fun σ H Q ⟨ρ, S, Z, μ, r, er, af⟩ =>
    ⟨ρ, S, Z, μ, r, er, Aft.imp (Aft.bind af) fun w Z1 μ1 H1 S1 _ g1 r1 a1 x hx => by
      cases w <;> first | exact a1.elim | skip
      · rename_i a _
        refine ⟨⟨a, i_str hx⟩, ρ, S1, Z1, μ1, r1, er.mono r g1, Aft.imp (Aft.bind a1) fun u Z2 μ2 H2 S2 _ g2 r2 a2 y hy => ⟨a, u, y, S2, Z2, μ2, i_str hx, rfl, r2, hy, a2⟩⟩⟩
def splitW (a : Str) (w : W) (S : Sto) : R W := match w with
  | .str b => if b.length ≠ 0 ∧ a.length ≤ 100000 then .ok (.lst ((Txt.split a b).map .str)) S else .stuck
  | _ => .stuck
theorem m_split : MtR X "str.split" (srM G E splitW) := by
  intro pins s σ H x xs v us Q I rx rs ⟨a, w, y, S, Z, μ, ex, ey, r, hy, af⟩
  unfold splitW at af
  split at af
  · rename_i b
    split at af
    · rename_i h
      have e1 : (b.length == 0) = false := by simpa using h.1
      exact mt_split pins s σ H x xs v us Q I rx rs ⟨a, b, ex, by rw [ey, i_str hy], e1, by have := h.2; rw [sizeLine_eq]; omega, end_lst r (strs_vrs _) af⟩
    · exact af.elim
  · exact af.elim
def joinW (a : Str) (w : W) (S : Sto) : R W := match anyL S w with
  | some xs => (match strsW xs with
    | some ys => if (ys.map (·.length)).sum + ys.length * a.length ≤ 100000 then .ok (.str (Txt.join a ys)) S else .stuck
    | none => .stuck)
  | none => .stuck
theorem m_join (hK : X.K = G.K) : MtR X "str.join" (srM G E joinW) := by
  intro pins s σ H x xs v us Q I rx rs ⟨a, w, y, S, Z, μ, ex, ey, r, hy, af⟩
  unfold joinW at af
  split at af
  · rename_i ws e1
    split at af
    · rename_i ys e2
      split at af
      · rename_i h
        obtain ⟨p, vs, rfl, q1, q2⟩ := anyL_at r e1 hy
        rw [strs_of_vrs e2 q2, ← hK] at q1
        exact mt_join pins s σ H x xs v us Q I rx rs ⟨a, p, ys, ex, ey, q1, by omega, end_val r (vr_str _ _ _) af⟩
      · exact af.elim
    · exact af.elim
  · exact af.elim
def stripW (a : Str) (w : W) (S : Sto) : R W := match w with
  | .str b => if a.length ≤ 100000 then .ok (.str (Txt.stripChars a b)) S else .stuck
  | _ => .stuck
theorem m_strip : MtR X "str.strip" (srM G E stripW) := by
  intro pins s σ H x xs v us Q I rx rs ⟨a, w, y, S, Z, μ, ex, ey, r, hy, af⟩
  unfold stripW at af
  split at af
  · rename_i b
    split at af
    · rename_i h
      exact mt_stripChars pins s σ H x xs v us Q I rx rs ⟨a, b, ex, by rw [ey, i_str hy], by rw [sizeLine_eq]; omega, end_val r (vr_str _ _ _) af⟩
    · exact af.elim
  · exact af.elim
/-! ### a sign in a text -/
def sgnW (neg : Bool) (x y : W) (S : Sto) : R W := match x, y with
  | .str a, .str z => (match a.cps.toList with
    | [c] => .ok (.bl (if neg then !decide (c ∈ z.cps.toList) else decide (c ∈ z.cps.toList))) S
    | _ => .stuck)
  | _, _ => .stuck
theorem one_sign {a : Str} {c : Nat} (h : a.cps.toList = [c]) : a = ⟨#[c]⟩ := by
  cases a
  congr 1
  exact Array.ext' h
theorem o_sgn : OpR X (compareOp .In) (rM G E (sgnW false)) := by
  intro pins s σ H x y v u Q I rx ry ⟨w1, w2, S, Z, μ, r, h1, h2, af⟩
  unfold sgnW at af
  split at af
  · rename_i a z
    split at af
    · rename_i c e
      exact op_in_sign pins s σ H x y v u Q I rx ry ⟨c, z, by rw [i_str h1, one_sign e], i_str h2, end_val r (vr_bl _ _ _) af⟩
    · exact af.elim
  · exact af.elim
theorem o_nsgn : OpR X (compareOp .NotIn) (rM G E (sgnW true)) := by
  intro pins s σ H x y v u Q I rx ry ⟨w1, w2, S, Z, μ, r, h1, h2, af⟩
  unfold sgnW at af
  split at af
  · rename_i a z
    split at af
    · rename_i c e
      exact op_notIn_sign pins s σ H x y v u Q I rx ry ⟨c, z, by rw [i_str h1, one_sign e], i_str h2, end_val r (vr_bl _ _ _) af⟩
    · exact af.elim
  · exact af.elim
/-! ### a text, sign by sign -/
def sgnsW (z : Str) : List W := z.cps.toList.map fun c => .str ⟨#[c]⟩
def mIts (a : ME) : MI := fun ρ S => (a ρ S).bind fun w S1 => match w with
  | .str z => .ok ⟨sgnsW z, none⟩ S1
  | _ => .stuck
theorem im_str {tg e : Expr} {ma : ME} (h : PE X e (tM G E ma)) : PI X tg e (tI G E (mIts ma)) := (pi_str h).weak fun σ H Q ⟨ρ, S, Z, μ, r, er, af⟩ =>
  ⟨ρ, S, Z, μ, r, er, Aft.imp (Aft.bind af) fun w Z1 μ1 H1 S1 _ g1 r1 a1 x hx => by
    cases w <;> first | exact a1.elim | skip
    · rename_i z _
      refine ⟨z, i_str hx, Aft.here (E := E) (P := PI' G Q) r1 a1 _ ⟨?_, ?_⟩⟩
      · intro Z' μ' H' S' g r' _ i w hw
        unfold sgnsW at hw
        rw [List.getElem?_map] at hw
        cases hc : z.cps.toList[i]? with
        | none => rw [hc] at hw; cases hw
        | some c =>
          rw [hc] at hw
          have hw : W.str ⟨#[c]⟩ = w := Option.some.inj hw
          have hc2 : z.cps[i]? = some c := by rw [← Array.getElem?_toList]; exact hc
          refine ⟨(Array.getElem?_eq_some_iff.mp hc2).1, fun x H2 y => ?_⟩
          obtain ⟨rfl, c', k1, rfl⟩ := y
          rw [hc2] at k1; cases k1
          refine ⟨fun _ _ q => q, ?_⟩
          rw [← hw]
          exact vr_str _ _ _
      · intro Z' μ' H' S' g r' _
        show z.cps.size ≤ (sgnsW z).length
        unfold sgnsW
        rw [List.length_map, Array.length_toList]
        exact Nat.le_refl _⟩
end
/-! ### typed -/
section
variable {S S1 S2 S3 : Sto} {o a : ME} {ρ : Env'} {w z : W} {x : Str}
theorem q_s1 {f : Str → W → Sto → R W} (ho : o ρ S = .ok (.str x) S1) (ha : a ρ S1 = .ok w S2) (hf : f x w S2 = .ok z S3) : mS1 f o a ρ S = .ok z S3 := by
  unfold mS1; rw [ho, R.bind_ok]; dsimp only; rw [ha, R.bind_ok, hf]
theorem i_str' (h : a ρ S = .ok (.str x) S1) : mIts a ρ S = .ok ⟨sgnsW x, none⟩ S1 := by unfold mIts; rw [h]; rfl
theorem strsW_map : ∀ ys : List Str, strsW (ys.map W.str) = some ys
  | [] => rfl
  | y :: ys => by rw [List.map_cons]; unfold strsW; rw [strsW_map ys]
theorem f_join {ys : List Str} (h : (ys.map (·.length)).sum + ys.length * x.length ≤ 100000) : joinW x (eL W.str ys) S = .ok (.str (Txt.join x ys)) S := by
  unfold joinW eL anyL itemsL
  dsimp only
  rw [strsW_map]
  dsimp only
  rw [if_pos h]
theorem f_split {b : Str} (h : b.length ≠ 0 ∧ x.length ≤ 100000) : splitW x (.str b) S = .ok (eL W.str (Txt.split x b)) S := by
  unfold splitW; dsimp only; rw [if_pos h]; rfl
theorem f_str {i : Int} (h : i.natAbs.log2 < 1920) : strW [.int i] S = .ok (.str (toString i)) S := by
  unfold strW; dsimp only; rw [if_pos h]
end
end Mo

set_option Elab.async false
set_option linter.all false
set_option maxRecDepth 100000
set_option autoImplicit false
/-! Mon43: len(set(..)) of whole numbers; a, b, c = x, y, z. -/
namespace Mo
open PySem PySem.Spec L2 PySem.SeqAt PySem.W
open PyProof.Rows hiding St
section
variable {X : Cx} {G : Glo} {E : XK} {a : Expr} {ma : ME} {p p2 pos pos2 : Pos}
theorem cr_lenSet : CallR X (.builtin "len") (fun vs H Q => ∃ (a : Addr) (S : Int → Bool) (n : Nat), vs = [V.ref a] ∧ H a = some (SetO X.w a S n) ∧ Q (.int n) H) := by
  intro pins s σ H vs us Q I r ⟨a, S, n, e, ha, q⟩
  subst e
  have R := setO_get I ha
  rw [Vals.ref1 r]
  obtain ⟨o, es, ep, t, ho, hex, hd, _, _, _, hb, hf, hn, _⟩ := R
  exact PySem.call_len_set ho hex hd hf (by unfold scanBound at hb; omega) ⟨.int n, H, I.tok _, ⟨_, by rw [hn]⟩, q⟩
theorem em_lset (hK : X.K = G.K) (hm : X.mg "len" = none) (hm2 : X.mg "set" = none) (ha : PE X a (tM G E ma)) (hc : X.calm = true := by rfl) (hg : Gl X "len" := by rfl) (hg2 : Gl X "set" := by rfl)
    (na : starEach [a] X.env = (false, eval a X.env) :: starEach [] X.env := by rfl) (nb : starEach [.Call (.Name "set" p2) [a] [] pos2] X.env = (false, eval (.Call (.Name "set" p2) [a] [] pos2) X.env) :: starEach [] X.env := by rfl) :
    PE X (.Call (.Name "len" p) [.Call (.Name "set" p2) [a] [] pos2] [] pos) (tM G E (mAp lsetW (mCons ma mNil))) :=
  (pe_callB cr_lenSet hg hm rfl (pa_cons (pe_callTy (cr_setLT hc) hg2 hm2 rfl (pa_cons ha pa_nil na) (by decide) (by decide) na) pa_nil nb) (by decide) (by decide) nb).weak fun σ H Q ⟨ρ, S, Z, μ, r, er, af⟩ => by
    have h := Aft.bind af
    unfold mCons at h
    refine ⟨ρ, S, Z, μ, r, er, Aft.imp (Aft.bind h) fun w Z1 μ1 H1 S1 _ g1 r1 a1 x hx => ?_⟩
    have a2 := Aft.here (E := E) r1 a1
    unfold lsetW at a2
    dsimp only at a2
    cases e : intsOf S1 w with
    | none => rw [e] at a2; exact a2.elim
    | some is =>
      rw [e] at a2
      dsimp only at a2
      split at a2
      · rename_i hl
        obtain ⟨ad, rfl, hs⟩ := intsOf_ok r1 e hx
        refine ⟨ad, is, rfl, by rw [hK]; exact hs, by unfold scanBound; omega, fun q Sb hS hq => ⟨q, Sb, _, rfl, upd_same, ?_⟩⟩
        have r2 := r1.add (o := SetO X.w q Sb (dedupI is).length) hq
        exact end_val r2 (vr_int _ _ _) (Aft.mono r2 (Grow.add hq) a2)
      · exact a2.elim
end
/-! ### three names at once -/
def mPar3 (i j l : Nat) (r : MA) : MS := fun ρ S => (r ρ S).bind fun ws S1 => match ws with
  | [v, u, w] => .ok (.nx (((ρ.set i (some v)).set j (some u)).set l (some w))) S1
  | _ => .stuck
theorem three_of {G : Glo} {Z : Addr → Prop} {μ : List Addr} {H : Hp} {a b c : W} {vs : List V} (h : VRs G Z μ H [a, b, c] vs) : ∃ v u w, vs = [v, u, w] ∧ VR G Z μ H a v ∧ VR G Z μ H b u ∧ VR G Z μ H c w := by
  unfold VRs at h
  obtain ⟨v, q, rfl, h1, h2⟩ := h
  obtain ⟨u, w, rfl, h3, h4⟩ := two_of h2
  exact ⟨v, u, w, rfl, h1, h3, h4⟩
theorem sm_par3 {X : Cx} {G : Glo} {E : XK} {mr : MA} {pos : Pos} {i j l : Nat} {x y z : Str} {a b c : Expr} {px py pz pt : Pos} {kt k2 : Nat} {pt2 : Pos} (hc : X.calm = true) (hN : X.N.Nodup) (hi : X.N[i]? = some x) (hj : X.N[j]? = some y) (hl : X.N[l]? = some z) (hij : i ≠ j) (hil : i ≠ l) (hjl : j ≠ l)
    (hx : X.env.scope.names.lookup x = some .local) (hy : X.env.scope.names.lookup y = some .local) (hz : X.env.scope.names.lookup z = some .local) (ha : PA X [a, b, c] (tMA G E mr))
    (hw : swappedStores [.Tuple [.Name x px, .Name y py, .Name z pz] kt pt] (.Tuple [a, b, c] k2 pt2) X.env = pure (some [x, y, z]))
    (hs : swapsWithSole [.Tuple [.Name x px, .Name y py, .Name z pz] kt pt] (.Tuple [a, b, c] k2 pt2) pos.line X.env = pure false := by rfl) :
    PS X (.Assign [.Tuple [.Name x px, .Name y py, .Name z pz] kt pt] (.Tuple [a, b, c] k2 pt2) pos) (tS G E (mPar3 i j l mr)) := (ps_par3 hc hN hi hj hl hij hil hjl hx hy hz ha hw hs).weak fun D σ H ⟨ρ, S, Z, μ, r, er, af⟩ => by
  refine ⟨ρ, S, Z, μ, r, er, Aft.imp (Aft.bind af) fun ws Z1 μ1 H1 S1 _ g1 r1 a1 vs hvs => ?_⟩
  split at a1
  · obtain ⟨v, u, w, rfl, h1, h2, h3⟩ := three_of hvs
    exact ⟨v, u, w, rfl, Aft.here (E := E) (P := PF G D) r1 a1 _ ((((er.mono r g1).set h1 i).set h2 j).set h3 l)⟩
  · exact a1.elim
theorem w_par3 {ρ : Env'} {S S1 : Sto} {i j l : Nat} {r : MA} {v u w : W} {Qn : Env' → Sto → Prop} {Qr : W → Sto → Prop} {Qe : Str → Prop} (ha : r ρ S = .ok [v, u, w] S1) (h : Qn (((ρ.set i (some v)).set j (some u)).set l (some w)) S1) : Ws (mPar3 i j l r ρ S) Qn Qr Qe := by
  unfold mPar3 Ws; rw [ha]; exact h
end Mo

set_option Elab.async false
set_option linter.all false
set_option maxRecDepth 100000
set_option autoImplicit false
/-! Mon44: slices of texts. -/
namespace Mo
open PySem PySem.Spec L2
open PyProof.Rows hiding St
def slcSW (x : W) (lo hi : Option Int) (S : Sto) : R W := match x with
  | .str z => if z.length ≤ 100000 then .ok (.str (cutS z lo hi)) S else .stuck
  | _ => .stuck
def mSlcS (mo : ME) (ml mh : Option ME) : ME := fun ρ S => (mo ρ S).bind fun x S1 => (partM ml ρ S1).bind fun lo S2 => (partM mh ρ S2).bind fun hi S3 => slcSW x lo hi S3
section
variable {X : Cx} {G : Glo} {E : XK} {o : Expr} {mo : ME} {pos p2 : Pos}
theorem em_slcS {lo hi : Option Expr} {ml mh : Option ME} (ho : PE X o (tM G E mo)) (hl : PO X lo (tPM G E ml)) (hh : PO X hi (tPM G E mh)) : PE X (.Subscript o (.Slice lo hi none p2) pos) (tM G E (mSlcS mo ml mh)) :=
  (pe_slice sl_str ho hl hh).weak fun σ H Q ⟨ρ, S, Z, μ, r, er, af⟩ => by
    refine ⟨ρ, S, Z, μ, r, er, Aft.imp (Aft.bind af) fun ow Z1 μ1 H1 S1 _ g1 r1 a1 x hx => ?_⟩
    have er1 := er.mono r g1
    refine ⟨ρ, S1, Z1, μ1, r1, er1, Aft.imp (Aft.bind a1) fun l Z2 μ2 H2 S2 _ g2 r2 a2 => ?_⟩
    refine ⟨ρ, S2, Z2, μ2, r2, er1.mono r1 g2, Aft.imp (Aft.bind a2) fun u Z3 μ3 H3 S3 _ g3 r3 a3 => ?_⟩
    have hx3 := (hx.mono r1 g2).mono r2 g3
    unfold slcSW at a3
    split at a3
    · split at a3
      · rename_i z hz
        exact ⟨_, i_str hx3, by rw [sizeLine_eq]; omega, end_val r3 (vr_str _ _ _) a3⟩
      · exact a3.elim
    · exact a3.elim
end
theorem q_slcS {mo : ME} {ml mh : Option ME} {ρ : Env'} {S : Sto} {z : Str} {lo hi : Option Int} (ho : mo ρ S = .ok (.str z) S) (hl : partM ml ρ S = .ok lo S) (hh : partM mh ρ S = .ok hi S) (hz : z.length ≤ 100000) : mSlcS mo ml mh ρ S = .ok (.str (cutS z lo hi)) S := by
  unfold mSlcS slcSW
  rw [ho, R.bind_ok, hl, R.bind_ok, hh, R.bind_ok]
  dsimp only
  rw [if_pos hz]
end Mo

set_option Elab.async false
set_option linter.all false
set_option maxRecDepth 100000
set_option autoImplicit false
/-! Mon45: makers that may raise. -/
namespace Mo
open PySem PySem.Spec L2
open PyProof.Rows hiding St
def mkSE (L : Nat) (b : MS) : MD := fun ws S => if nrs ws && ncs ws then (match mDef L b ws [] with
    | .ok w _ => if w.nr && w.nc then .ok w S else .stuck
    | .err c _ => .err c S
    | .stuck => .stuck) else .stuck
theorem mkSE_sp {G G' : Glo} {L n : Nat} {b : MS} {vs : List V} {H : Hp} {Q : VK} {E : XK} (hK : G'.K = G.K) (hm : G'.mg = G.mg) (he : G'.ex = G.ex) (hi : G'.inv = G.inv) (h : spM G n (mkSE L b) vs H Q E) : spM G' n (mDef L b) vs H Q E := by
  obtain ⟨hl, ws, S, Z, μ, r, hv, af⟩ := h
  have hiH : G'.inv H := by rw [hi]; exact r.inv
  unfold mkSE at af
  split at af
  case isFalse => exact af.elim
  rename_i hn
  rw [Bool.and_eq_true] at hn
  have r' : Rel G' Z [] H [] := ⟨rfl, List.nodup_nil, fun b hb => absurd hb List.not_mem_nil, r.zm, hiH, fun j b o1 h1 h2 => by simp at h1⟩
  refine ⟨hl, ws, [], Z, [], r', VRs.nr (fun _ z => z) hn.1 (VRs.reG hK hm he hn.2 hv), ?_⟩
  cases e2 : mDef L b ws [] with
  | stuck => rw [e2] at af; exact af.elim
  | err c S' =>
    rw [e2] at af
    intro Z' μ' H' g r2
    have q := r.extN (H' := H') (fun a o q ht => g.keep a o q (by simp) ht) g.th (by rw [← hi]; exact r2.inv)
    obtain ⟨a, h1, h2⟩ := af Z μ H' q.2 q.1
    exact ⟨a, by rw [hm]; exact h1, h2⟩
  | ok w S' =>
    rw [e2] at af
    dsimp only at af
    split at af
    case isFalse => exact af.elim
    rename_i q
    rw [Bool.and_eq_true] at q
    intro Z' μ' H' g r2 v hw
    have gt : Grow Z μ H Z' μ H' := ⟨⟨[], by simp, fun a h => by simp at h⟩, g.zz, g.zk, fun b ob hb hnb ht => g.keep b ob hb List.not_mem_nil ht, g.th⟩
    have rt : Rel G Z' μ H' S := by
      refine ⟨r.len, r.nd, fun b hb => g.zk b (r.mz b hb), r2.zm, by rw [← hi]; exact r2.inv, fun j b o1 h1 h2 => ?_⟩
      have hb : b ∈ μ := List.mem_of_getElem? h1
      obtain ⟨hob, h3, h4, h5⟩ := r.zm b (r.mz b hb)
      exact OR.mono r gt ((g.keep b hob h3 List.not_mem_nil h5).trans h3.symm) (r.ob j b o1 h1 h2)
    exact af Z' μ H' gt rt v (VR.nr (fun _ z => z) q.1 (VR.reG hK.symm hm.symm he.symm q.2 hw))
section
open LamX (CodeO TabS Tabs ExtN TabB)
variable {P : Program} {w : World} {K : PySem.W.Frag} {mg : Str → Option Value} {base : Heap} {x qual : Str} {params : Arguments} {body : List Stmt} {scope : Scope} {dvs : List V} {kws : List (Str × V)} {f : Addr} {fd : FuncData} {T : List (Addr × Str)} {lams lams' : List LamD} {q : Str} {cells : List (Str × Addr)} {cv : Nat → List V → Prop}
theorem fn_mkSE {N ps : List Str} {k : Nat} {mb : MS} (F : FunD K x qual params body scope dvs kws f fd) (S : FnScope N ps scope)
    (hbody : ∀ (c : Addr) (A : Around) (outer : List Env) (s : Shared) (H : Hp) (E : XK), fd.code = .ref c → Room k (A.deeper (envOfC qual scope s.heap.objs.size f (.ref c))) →
      PSs (cxOf (L2.CX P w) P w K mg base N qual scope f (.ref c) A outer s H E) body (tS (gloM (cxOf (L2.CX P w) P w K mg base N qual scope f (.ref c) A outer s H E) T lams fun _ vs => vs = []) E mb)) :
    FnOk P w K mg base (L2.CX P w) (k + 1) f fd ps (spM (glo K mg T q lams' cells cv) ps.length (mkSE N.length mb)) := by
  obtain ⟨oc, od, dV, kV, doc, pm, an, cdv, ct, osl, rfl, lk, hcd, _, _⟩ := F.ex
  obtain ⟨c, rfl⟩ := He.codeIn_ref hcd
  refine fn_of lk hcd S (fun vs H Q E h => h.1) fun A outer s H vs Q E hr hsp => ?_
  have hb := hbody c A outer s H E rfl hr
  have key : ∀ (q' : Str) (cells' : List (Str × Addr)) (cv' : Nat → List V → Prop), spM (glo K mg T q' lams cells' cv') ps.length (mDef N.length mb) vs H Q E := fun q' cells' cv' => mkSE_sp (G := glo K mg T q lams' cells cv) rfl rfl rfl rfl hsp
  have h3 := def_reads (key ((cxOf (L2.CX P w) P w K mg base N qual scope f (.ref c) A outer s H E).env.qual ++ "<lambda>") (cxOf (L2.CX P w) P w K mg base N qual scope f (.ref c) A outer s H E).env.cells fun _ vs => vs = [])
  exact ⟨_, hb, h3⟩
end
section
variable {P : Program} {w : World} {K : PySem.W.Frag} {mg : Str → Option Value} {base : Heap} {G : Glo} {d : He.DefD} {N ps : List Str} {k : Nat} {mb : MS} {T : List (Addr × Str)} {lams lams' : List LamD} {q : Str} {cells : List (Str × Addr)} {cv : Nat → List V → Prop}
theorem Df.mkSE_ (D : Df K mg d) (S : FnScope N ps d.scope) (hb : ∀ (kV doc pm : Value) (an : Option Addr) (cdv ct : Value) (us : List Value), us.length = ps.length → bindArgs (PySem.W.fnOf d.name d.qual d.params d.body d.scope .none kV doc pm an cdv ct) ⟨us, []⟩ = pure (ps.zip us))
    (hbody : ∀ (A : Around) (outer : List Env) (s : Shared) (H : Hp) (E : XK), Room k (A.deeper (envOfC d.qual d.scope s.heap.objs.size (He.fAd K d.at_) (.ref (He.cT K d.at_).1))) →
      PSs (cxOf (L2.CX P w) P w K mg base N d.qual d.scope (He.fAd K d.at_) (.ref (He.cT K d.at_).1) A outer s H E) d.body (tS (gloM (cxOf (L2.CX P w) P w K mg base N d.qual d.scope (He.fAd K d.at_) (.ref (He.cT K d.at_).1) A outer s H E) T lams fun _ vs => vs = []) E mb)) :
    FG P w K mg base (glo K mg T q lams' cells cv) d.name (k + 1) ps.length (mkSE N.length mb) := by
  obtain ⟨fd, F⟩ := D.ex
  have e := F.ex
  obtain ⟨oc, od, dV, kV, doc, pm, an, cdv, ct, osl, efd, lk, _⟩ := e
  refine ⟨_, fd, ps, D.at_, rfl, fn_mkSE (lams := lams) F S fun c A outer s H E ec hr => ?_, F.bindsN hb, F.kp, oc, od, osl, lk⟩
  have e2 : (He.cT K d.at_).1 = c := He.codeOf_eq lk ec
  rw [← e2] at hr ⊢
  exact hbody A outer s H E hr
end
/-! a def called with closures and with lists of the maker's own, which it reads -/
def cvtG (S : Sto) (ms : List LamM) (ρ : Env') (w : W) : Option W := match w with
  | .clo k [] => cvt ms ρ (.clo k [])
  | w => match fz S 4 w with
    | some u => if u.nc then some u else none
    | none => none
def gCallG (n : Nat) (m : MD) (ms : List LamM) (ρ : Env') (ws : List W) (S : Sto) : R W := if ws.length = n then (match mapO (cvtG S ms ρ) ws with
  | none => .stuck
  | some us => match m us [] with
    | .ok w S' => match fz S' 6 w with
      | none => .stuck
      | some w' => if w'.nc && w'.nl then .ok w' S else .stuck
    | .err c _ => .err c S
    | .stuck => .stuck) else .stuck
def mCallCG (n : Nat) (m : MD) (ms : List LamM) (r : MA) : ME := fun ρ S => (r ρ S).bind fun ws S1 => gCallG n m ms ρ ws S1
theorem capOf_nr {ρ : Env'} : ∀ {js : List Nat} {us : List W}, capOf ρ js = some us → nrs us = true
  | [], us, e => by unfold capOf at e; cases e; rfl
  | j :: js, us, e => by
    unfold capOf at e
    split at e
    · split at e
      · rename_i hn
        split at e
        · rename_i e2
          cases e
          unfold nrs
          rw [Bool.and_eq_true]
          exact ⟨(Bool.and_eq_true_iff.mp hn).1, capOf_nr e2⟩
        · cases e
      · cases e
    · cases e
section
open LamX (CodeO TabS Tabs ExtN TabB)
variable {X : Cx} {T : List (Addr × Str)} {lams : List LamD} {ms : List LamM} {gs : List (Str × Nat × MD)} {E : XK}
theorem cvtG_ok {pins : List (Addr × Obj)} {σ : L2.St} {H : Hp} {s : Shared} {Z : Addr → Prop} {μ : List Addr} {ρ : Env'} {S : Sto} (I : Inv X pins σ H s) (r : Rel (gloM X T lams fun _ vs => vs = []) Z μ H S) (er : ER (gloM X T lams fun _ vs => vs = []) Z μ H ρ σ) (hcap : ∀ (k : Nat) (L : LamD) (M : LamM), lams[k]? = some L → ms[k]? = some M → Capt X L M) :
    ∀ (w u : W) (v : V), cvtG S ms ρ w = some u → VR (gloM X T lams fun _ vs => vs = []) Z μ H w v → VR (gloM X T lams fun k vs => ∃ L, lams[k]? = some L ∧ CV (baseP X s) X.env.cells L vs) (fun a => Z a ∧ a ∉ μ) [] H u v := fun w u v e h => by
  unfold cvtG at e
  split at e
  · rename_i k
    refine VR.nr (fun _ z => z.1) ?_ (cvt_ok I er hcap _ u v e h)
    unfold cvt at e
    dsimp only at e
    split at e
    · split at e
      · rename_i eu
        cases e
        unfold W.nr
        exact capOf_nr eu
      · cases e
    · cases e
  · split at e
    · rename_i e1
      split at e
      · rename_i hn
        cases e
        exact VR.reG (G := gloM X T lams fun _ vs => vs = []) (G' := gloM X T lams fun k vs => ∃ L, lams[k]? = some L ∧ CV (baseP X s) X.env.cells L vs) rfl rfl rfl hn (fz_vr r (fun _ z => z.1) (fun a ha z => z.2 ha) 4 _ u v e1 h)
      · cases e
    · cases e
/-- f(e, ..) in the maker's own frame -/
theorem em_callCG {kf kk n : Nat} {f : Addr} {x : Str} {p pos : Pos} {e : Expr} {es : List Expr} {mr : MA} {m : MD} (hfn : ∀ x, X.fn x = true) (hlen : lams.length = ms.length) (hcap : ∀ (k : Nat) (L : LamD) (M : LamM), lams[k]? = some L → ms[k]? = some M → Capt X L M)
    (hl : ∀ (B : Heap) (cv : Nat → List V → Prop) (k : Nat) (L : LamD) (M : LamM), lams[k]? = some L → ms[k]? = some M → X.Ok → (∀ (c P : Addr), LamX.TabB X.base X.mg c P → LamX.TabB B X.mg c P) → LamOk X.prog X.w X.K X.mg B (gloM X T lams cv) kk (X.env.qual ++ "<lambda>") X.env.cells L M)
    (hgl : ∀ (B : Heap) (cv : Nat → List V → Prop) (x : Str) (n : Nat) (m : MD), gs.lookup x = some (n, m) → GlobOk X.prog X.w X.K X.mg B (gloM X T lams cv) (kk + 1) x n m)
    (F : ∀ (B : Heap) (cv : Nat → List V → Prop), CallC X.prog X.w X.K X.mg B (gloM X T lams cv) (kk + 1) (apM ms gs) → FG X.prog X.w X.K X.mg B (gloM X T lams cv) x kf n m)
    (hr : Room kf X.A) (hg : Gl X x) (hm : X.mg x = some (.ref f)) (hk : PySem.W.keepIn X.K (.ref f) = true)
    (hx : Passes (L2.CX X.prog X.w) X E) (ha : PA X (e :: es) (tMA (gloM X T lams fun _ vs => vs = []) E mr)) (hdb : (x == ("__debug__" : Str)) = false := by decide) (he : starEach (e :: es) X.env = (false, eval e X.env) :: starEach es X.env := by rfl) (hpl : (backTo pos (starEach es X.env)).any (·.1) = false := by rfl) :
    PE X (.Call (.Name x p) (e :: es) [] pos) (tM (gloM X T lams fun _ vs => vs = []) E (mCallCG n m ms mr)) := by
  refine ⟨fun pins s σ H Q I h => ?_⟩
  obtain ⟨ρ, S, Z, μ, r, er, af⟩ := h
  refine wpAny_Call_Name_kw (ld_glob I hg hm ?_ hdb)
  refine PySem.W.callWith_K (h₀ := X.base) I.ok.mod.kin hk (thn (ha.run pos pins s σ H (fun vs H1 => ∃ ws S1 Z1 μ1, Rel (gloM X T lams fun _ vs => vs = []) Z1 μ1 H1 S1 ∧ ER (gloM X T lams fun _ vs => vs = []) Z1 μ1 H1 ρ σ ∧ VRs (gloM X T lams fun _ vs => vs = []) Z1 μ1 H1 ws vs ∧ Aft (gloM X T lams fun _ vs => vs = []) E Z1 μ1 H1 (gCallG n m ms ρ ws S1) (PQ (gloM X T lams fun _ vs => vs = []) Q)) I ?_) fun us s1 ⟨vs, H1, I1, rv, q⟩ => ⟨I1.kIn, ?_⟩) he hpl
  · exact ⟨ρ, S, Z, μ, r, er, Aft.imp (Aft.bind af) fun ws Z1 μ1 H1 S1 _ g1 r1 a1 vs hvs => ⟨ws, S1, Z1, μ1, r1, er.mono r g1, hvs, a1⟩⟩
  · obtain ⟨ws, S1, Z1, μ1, r1, er1, hvs, a1⟩ := q
    have e0 := env0_plus I1 hfn
    have C : CallC X.prog X.w X.K X.mg (baseP X s1) (gloM X T lams fun k vs => ∃ L, lams[k]? = some L ∧ CV (baseP X s1) X.env.cells L vs) (kk + 1) (apM ms gs) :=
      callC_of I1.ok.inj (fun k vs ⟨L, h1, h2⟩ L' h3 => by rw [h1] at h3; cases h3; exact h2) hlen (fun k L M h1 h2 => hl _ _ k L M h1 h2 I1.ok fun c P => tabB_keep fun b o h => baseP_base I1 h) (fun x n m h => hgl _ _ x n m h)
    obtain ⟨f', fd, ps, g1, _, Fn, hb, _, _⟩ := (F _ _ C).ex
    have ef := g1.symm.trans hm
    cases ef
    have hsp : spM (gloM X T lams fun k vs => ∃ L, lams[k]? = some L ∧ CV (baseP X s1) X.env.cells L vs) n m vs H1 Q E := by
      unfold gCallG at a1
      split at a1
      case isFalse => exact a1.elim
      rename_i hn
      refine ⟨by rw [hvs.length]; exact hn, ?_⟩
      cases e1 : mapO (cvtG S1 ms ρ) ws with
      | none => rw [e1] at a1; exact a1.elim
      | some us' =>
        rw [e1] at a1
        dsimp only at a1
        have fin : ∀ {Z' : Addr → Prop} {μ' : List Addr} {H' : Hp}, Grow (fun a => Z1 a ∧ a ∉ μ1) [] H1 Z' μ' H' → Tabs T H' → Rel (gloM X T lams fun _ vs => vs = []) Z1 μ1 H' S1 ∧ Grow Z1 μ1 H1 Z1 μ1 H' := fun g hi => r1.extN (fun a o q ht => g.keep a o q (by simp) ht) g.th hi
        refine ⟨us', [], fun a => Z1 a ∧ a ∉ μ1, [], ⟨rfl, List.nodup_nil, fun a (h : a ∈ []) => (List.not_mem_nil h).elim, fun a h => r1.zm a h.1, r1.inv, fun n a o h => by simp at h⟩, mapO_vr2 (G := gloM X T lams fun _ vs => vs = []) (fun w u v q1 q2 => cvtG_ok I1 r1 er1 hcap w u v q1 q2) e1 hvs, ?_⟩
        cases e2 : m us' [] with
        | stuck => rw [e2] at a1; exact a1.elim
        | err c S' =>
          rw [e2] at a1
          exact fun Z' μ' H' g r' => a1 Z1 μ1 H' (fin g r'.inv).2 (fin g r'.inv).1
        | ok w S' =>
          rw [e2] at a1
          dsimp only at a1
          cases e3 : fz S' 6 w with
          | none => rw [e3] at a1; exact a1.elim
          | some w' =>
            rw [e3] at a1
            dsimp only at a1
            split at a1
            case isFalse => exact a1.elim
            rename_i hnc
            rw [Bool.and_eq_true] at hnc
            intro Z' μ' H' g r' v hw
            exact a1 Z1 μ1 H' (fin g r'.inv).2 (fin g r'.inv).1 v (VR.reG (G := gloM X T lams fun k vs => ∃ L, lams[k]? = some L ∧ CV (baseP X s1) X.env.cells L vs) (G' := gloM X T lams fun _ vs => vs = []) rfl rfl rfl hnc.1 (VR.nl hnc.2 (fz_vr (Zn := fun _ => False) (μn := []) r' (fun _ h => h.elim) (fun _ _ h => h) 6 w w' v e3 hw)))
    have hl' : (us ++ [] : List Value).length = ps.length := by rw [List.append_nil, ← rv.length]; exact Fn.len _ _ _ _ hsp
    have hb' := hb s1 us I1.kIn hl'
    rw [List.append_nil] at hb'
    refine wpAny_call (codeAny_mono (Fn.run X.A X.stack s1 H1 ⟨us, []⟩ us vs Q E hr e0 hb' rv hsp) fun r s' hq => ?_)
    cases r with
    | error e => exact hx pins σ H1 s1 e s' I1 hq
    | ok fl =>
      cases fl with
      | ret u => exact I1.after hq
      | next => exact False.elim hq
      | brk => exact False.elim hq
      | cont => exact False.elim hq
end
end Mo

set_option Elab.async false
set_option linter.all false
set_option maxRecDepth 100000
set_option autoImplicit false
/-! Mon46: o[i], p[j] = x, y. -/
namespace Mo
open PySem PySem.Spec L2
open PyProof.Rows hiding St
def mPutIx (v : W) (mo mi : ME) (ρ : Env') (S : Sto) : R Unit := (mo ρ S).bind fun o S2 => (mi ρ S2).bind fun i S3 => match o with
  | .ref n => (match i with
    | .int k => (match S3[n]? with
      | some (.lst xs) => (match L2.ixN xs.length k with
        | some j => .ok () (S3.set n (.lst (xs.set j v)))
        | none => .stuck)
      | _ => .stuck)
    | _ => .stuck)
  | _ => .stuck
def mPut2 (ma mo mi mo2 mi2 : ME) : MS := fun ρ S => (ma ρ S).bind fun w S1 => match w with
  | .tup [v, u] => (mPutIx v mo mi ρ S1).bind fun _ S2 => (mPutIx u mo2 mi2 ρ S2).bind fun _ S3 => .ok (.nx ρ) S3
  | _ => .stuck
section
variable {X : Cx} {G : Glo} {E : XK} {e o i o2 i2 : Expr} {ma mo mi mo2 mi2 : ME} {pos p p2 pt : Pos}
theorem put_sub {Z : Addr → Prop} {μ : List Addr} {H : Hp} {S : Sto} {ρ : Env'} {σ : L2.St} {w : W} {x : V} {Q : L2.St → Hp → Prop} {P : Unit → (Addr → Prop) → List Addr → Hp → Sto → Prop} (r : Rel G Z μ H S) (er : ER G Z μ H ρ σ) (hx : VR G Z μ H w x)
    (af : Aft G E Z μ H (mPutIx w mo mi ρ S) P) (k : ∀ Z' μ' H' S', Grow Z μ H Z' μ' H' → Rel G Z' μ' H' S' → P () Z' μ' H' S' → ER G Z' μ' H' ρ σ → Q σ H') :
    gSub (tM G E mo) (tM G E mi) rSetL x σ H Q := by
  refine ⟨ρ, S, Z, μ, r, er, Aft.imp (Aft.bind af) fun ow Z2 μ2 H2 S2 _ g2 r2 a2 ov hov => ?_⟩
  have er2 := er.mono r g2
  refine ⟨ρ, S2, Z2, μ2, r2, er2, Aft.imp (Aft.bind a2) fun iw Z3 μ3 H3 S3 _ g3 r3 a3 iv hiv => ?_⟩
  have er3 := er2.mono r2 g3
  have hx3 := (hx.mono r g2).mono r2 g3
  have ho3 := hov.mono r2 g3
  split at a3
  · split at a3
    · split at a3
      · rename_i hs
        split at a3
        · rename_i j hj
          obtain ⟨a, xs, rfl, q0, q1, q2⟩ := r3.lst ho3 hs
          refine ⟨a, xs, _, j, rfl, i_int hiv, q1, by rw [q2.length]; exact hj, ?_⟩
          have g : Grow Z3 μ3 H3 Z3 μ3 (upd H3 a (.lst (xs.set j x))) := Grow.put (List.mem_of_getElem? q0)
          have r4 := r3.put q0 (o := .lst _) ⟨rfl, rfl⟩ ⟨_, upd_same, VRs.mono r3 g (q2.set hx3 j)⟩
          exact k _ _ _ _ (Grow.trans r2 g2 (Grow.trans r3 g3 g)) r4 (a3 _ _ _ g r4) (er3.mono r3 g)
        · exact a3.elim
      · exact a3.elim
    · exact a3.elim
  · exact a3.elim
theorem sm_put2 (hK : X.K = G.K) (hc : X.calm = true) (hv : PE X e (tM G E ma)) (ho : PE X o (tM G E mo)) (hi : PE X i (tM G E mi)) (ho2 : PE X o2 (tM G E mo2)) (hi2 : PE X i2 (tM G E mi2)) {kt : Nat}
    (ha : ∀ v, assign (.Subscript o i p) X.env v = (do
      let ov ← holding [v] (eval o X.env)
      let iv ← holding [v, ov] (eval i X.env)
      standAt p
      holding [v, ov, iv] (setItem ov iv v)
      release [v, ov, iv] []) := by intro _; rfl)
    (ha2 : ∀ v, assign (.Subscript o2 i2 p2) X.env v = (do
      let ov ← holding [v] (eval o2 X.env)
      let iv ← holding [v, ov] (eval i2 X.env)
      standAt p2
      holding [v, ov, iv] (setItem ov iv v)
      release [v, ov, iv] []) := by intro _; rfl)
    (hs : swapsWithSole [.Tuple [.Subscript o i p, .Subscript o2 i2 p2] kt pt] e pos.line X.env = pure false := by rfl) (hw : swappedStores [.Tuple [.Subscript o i p, .Subscript o2 i2 p2] kt pt] e X.env = pure none := by rfl)
    (h1 : (assignEach [.Tuple [.Subscript o i p, .Subscript o2 i2 p2] kt pt] X.env).map (·.2) = [assign (.Tuple [.Subscript o i p, .Subscript o2 i2 p2] kt pt) X.env] := by rfl)
    (hq : (assignEach [.Subscript o i p, .Subscript o2 i2 p2] X.env).map (·.2) = assign (.Subscript o i p) X.env :: (assignEach [.Subscript o2 i2 p2] X.env).map (·.2) := by rfl)
    (hq2 : (assignEach [.Subscript o2 i2 p2] X.env).map (·.2) = assign (.Subscript o2 i2 p2) X.env :: (assignEach [] X.env).map (·.2) := by rfl)
    (hn : (assignEach [.Subscript o i p, .Subscript o2 i2 p2] X.env).length = 2 := by rfl) (hst : (assignEach [.Subscript o i p, .Subscript o2 i2 p2] X.env).findIdx? (·.1) = none := by rfl) :
    PS X (.Assign [.Tuple [.Subscript o i p, .Subscript o2 i2 p2] kt pt] e pos) (tS G E (mPut2 ma mo mi mo2 mi2)) :=
  (ps_asg hv (pg_tup hc (pgs_cons (pg_sub ho hi set_list ha) (pgs_cons (pg_sub ho2 hi2 set_list ha2) pgs_nil hq2) hq) hn hst) hs hw h1).weak fun D σ H ⟨ρ, S, Z, μ, r, er, af⟩ => by
    refine ⟨ρ, S, Z, μ, r, er, Aft.imp (Aft.bind af) fun w Z1 μ1 H1 S1 _ g1 r1 a1 x hx => ?_⟩
    have er1 := er.mono r g1
    split at a1
    · rename_i v u
      obtain ⟨a, vs, rfl, k1, k2⟩ := i_tup hx
      obtain ⟨xv, xu, rfl, hv', hu'⟩ := two_of k2
      refine ⟨a, _, rfl, by rw [hK]; exact k1.sq, rfl, xv, [xu], rfl, ?_⟩
      refine put_sub r1 er1 hv' (Aft.bind a1) fun Z2 μ2 H2 S2 g2 r2 a2 er2 => ?_
      refine ⟨xu, [], rfl, ?_⟩
      refine put_sub r2 er2 (hu'.mono r1 g2) (Aft.bind a2) fun Z3 μ3 H3 S3 g3 r3 a3 er3 => ?_
      exact ⟨rfl, Aft.here r3 a3 σ er3⟩
    · exact a1.elim
end
end Mo

set_option Elab.async false
set_option linter.all false
set_option maxRecDepth 100000
set_option autoImplicit false
/-! Mon47: sorted(..), min, max of deep data: tuples and lists nested, lists of the store among them. -/
namespace Mo
open PySem PySem.Spec L2
open PyProof.Rows hiding St
def encS (S : Sto) : List W → Option (List PyData)
  | [] => some []
  | w :: ws => match dataS S w with
    | some d => (match encS S ws with
      | some ds => some (d :: ds)
      | none => none)
    | none => none
def tupB : PyData → Bool
  | .tuple (_ :: _) => true
  | _ => false
def othB : PyData → Bool
  | .none => false
  | .tuple _ => false
  | _ => true
def sortOk (ds : List PyData) : Bool := (ds.all fun d => ds.all fun e => PySem.W.alike d e) && (ds.all tupB || ds.all othB) && decide (ds.length ≤ 100000) && ds.all fun d => decide (d.depth ≤ 50)
/-- no two of them stand alike -/
def strictB : List PyData → Bool
  | [] => true
  | d :: ds => (ds.all fun e => PySem.W.dataLt d e || PySem.W.dataLt e d) && strictB ds
def sortDs (rev : Bool) (ws : List W) (ds : List PyData) : List W := (isort (PySem.W.dataLe rev Prod.snd) (ws.zip ds)).map Prod.fst
def sortDL (rev : Bool) (ws : List W) (S : Sto) : R W := match encS S ws with
  | some ds => if sortOk ds && strictB ds then .ok (.lst (sortDs rev ws ds)) S else .stuck
  | none => .stuck
theorem strict_zip : ∀ {ws : List W} {ds : List PyData}, strictB ds = true → ∀ x ∈ ws.zip ds, ∀ y ∈ ws.zip ds, x = y ∨ PySem.W.dataLt x.2 y.2 = true ∨ PySem.W.dataLt y.2 x.2 = true
  | [], _, _, x, hx, _, _ => by cases hx
  | _ :: _, [], _, x, hx, _, _ => by cases hx
  | w :: ws, d :: ds, h, x, hx, y, hy => by
    unfold strictB at h
    rw [Bool.and_eq_true] at h
    rw [List.zip_cons_cons, List.mem_cons] at hx hy
    have one : ∀ z ∈ ws.zip ds, PySem.W.dataLt d z.2 = true ∨ PySem.W.dataLt z.2 d = true := fun z hz => by
      have := List.all_eq_true.mp h.1 z.2 (List.of_mem_zip hz).2
      rwa [Bool.or_eq_true] at this
    rcases hx with rfl | hx
    · rcases hy with rfl | hy
      · exact .inl rfl
      · exact .inr (one y hy)
    · rcases hy with rfl | hy
      · exact .inr (one x hx).symm
      · exact strict_zip h.2 x hx y hy
theorem sort_eq {rev : Bool} {ws : List W} {ds : List PyData} (h : strictB ds = true) : (ws.zip ds).mergeSort (PySem.W.dataLe rev Prod.snd) = isort (PySem.W.dataLe rev Prod.snd) (ws.zip ds) := by
  have T : PySem.W.TotalLe (PySem.W.dataLe (β := W × PyData) rev Prod.snd) := PySem.W.sortLe_total _ _ _
  refine List.Perm.eq_of_pairwise (le := fun a b => PySem.W.dataLe (β := W × PyData) rev Prod.snd a b = true) (fun x y hx hy h1 h2 => ?_) (List.pairwise_mergeSort (fun a b c => T.trans a b c) (fun a b => by have := T.total a b; simpa using this) _) (isort_pw _ (fun a b => by have := T.total a b; simpa using this) (fun a b c => T.trans a b c) _) ((List.mergeSort_perm _ _).trans (isort_perm _ _).symm)
  have hx' : x ∈ ws.zip ds := (List.mergeSort_perm _ _).mem_iff.mp hx
  have hy' : y ∈ ws.zip ds := (isort_perm _ _).mem_iff.mp hy
  rw [PySem.W.dataLe_eq] at h1 h2
  rcases strict_zip h x hx' y hy' with e | e | e
  · exact e
  · cases rev
    · have h2 : (!PySem.W.dataLt x.2 y.2) = true := h2
      rw [e] at h2; cases h2
    · have h1 : (!PySem.W.dataLt x.2 y.2) = true := h1
      rw [e] at h1; cases h1
  · cases rev
    · have h1 : (!PySem.W.dataLt y.2 x.2) = true := h1
      rw [e] at h1; cases h1
    · have h2 : (!PySem.W.dataLt y.2 x.2) = true := h2
      rw [e] at h2; cases h2
def sortDW (ws : List W) (S : Sto) : R W := match ws with
  | [.lst xs] => sortDL false xs S
  | [.ref n] => (match S[n]? with
    | some (.lst xs) => sortDL false xs S
    | _ => .stuck)
  | _ => .stuck
section
variable {X : Cx} {G : Glo} {E : XK} {Z : Addr → Prop} {μ : List Addr} {H : Hp} {S : Sto}
theorem encS_dps (r : Rel G Z μ H S) : ∀ {ws : List W} {vs : List V} {ds : List PyData}, encS S ws = some ds → VRs G Z μ H ws vs → DpAll G.K H vs ds
  | [], vs, ds, e, h => by unfold encS at e; cases e; unfold VRs at h; subst h; exact .nil
  | w :: ws, vs, ds, e, h => by
    unfold encS at e
    cases e1 : dataS S w with
    | none => rw [e1] at e; cases e
    | some d =>
      rw [e1] at e
      cases e2 : encS S ws with
      | none => rw [e2] at e; cases e
      | some ds' =>
        rw [e2] at e; cases e
        unfold VRs at h
        obtain ⟨v, q, rfl, h1, h2⟩ := h
        exact .cons (dataS_dp r e1 h1) (encS_dps r e2 h2)
theorem encS_len : ∀ {ws : List W} {ds : List PyData}, encS S ws = some ds → ws.length = ds.length
  | [], ds, e => by unfold encS at e; cases e; rfl
  | w :: ws, ds, e => by
    unfold encS at e
    cases e1 : dataS S w with
    | none => rw [e1] at e; cases e
    | some d =>
      rw [e1] at e
      cases e2 : encS S ws with
      | none => rw [e2] at e; cases e
      | some ds' => rw [e2] at e; cases e; rw [List.length_cons, List.length_cons, encS_len e2]
theorem sortOk_of {ds : List PyData} (h : sortOk ds = true) : PySem.W.AllAlike ds ∧ PySem.W.Sortable ds ∧ ds.length ≤ 100000 ∧ ∀ d ∈ ds, d.depth ≤ 50 := by
  unfold sortOk at h
  rw [Bool.and_eq_true, Bool.and_eq_true, Bool.and_eq_true, Bool.or_eq_true] at h
  obtain ⟨⟨⟨h1, h2⟩, h3⟩, h4⟩ := h
  refine ⟨fun d hd e he => List.all_eq_true.mp (List.all_eq_true.mp h1 d hd) e he, ?_, of_decide_eq_true h3, fun d hd => of_decide_eq_true (List.all_eq_true.mp h4 d hd)⟩
  rcases h2 with h2 | h2
  · refine .inl fun d hd => ?_
    have q := List.all_eq_true.mp h2 d hd
    unfold tupB at q
    split at q
    · exact ⟨_, _, rfl⟩
    · cases q
  · refine .inr fun d hd => ?_
    have q := List.all_eq_true.mp h2 d hd
    refine ⟨?_, ?_⟩
    · rintro rfl; cases q
    · rintro xs rfl; cases q
theorem each_pairs : ∀ {ws : List W} {vs : List V} {us : List Value} {ds : List PyData}, VRs G Z μ H ws vs → Vals vs us → ws.length = ds.length → PySem.W.EachIs (fun (u : Value) (p : W × PyData) => ∃ x : V, VR G Z μ H p.1 x ∧ RelV x u) us (ws.zip ds)
  | [], vs, us, ds, h, r, _ => by unfold VRs at h; subst h; cases r; exact .nil
  | w :: ws, vs, us, [], h, r, hl => by cases hl
  | w :: ws, vs, us, d :: ds, h, r, hl => by
    unfold VRs at h
    obtain ⟨v, q, rfl, h1, h2⟩ := h
    cases r with
    | cons a b => exact .cons ⟨v, h1, a⟩ (each_pairs h2 b (Nat.succ.inj hl))
theorem each_reads {h : Heap} : ∀ {ws : List W} {us : List Value} {ds : List PyData} {as : List Addr}, ReadsAll h us ds as → ws.length = ds.length → PySem.W.EachIs (fun (u : Value) (p : W × PyData) => ∃ as, Reads h u p.2 as) us (ws.zip ds)
  | [], us, [], as, r, _ => by cases r; exact .nil
  | w :: ws, us, [], as, r, hl => by cases hl
  | [], us, d :: ds, as, r, hl => by cases hl
  | w :: ws, us, d :: ds, as, r, hl => by
    cases r with
    | cons a b => exact .cons ⟨_, a⟩ (each_reads b (Nat.succ.inj hl))
theorem each_back : ∀ {ps : List (W × PyData)} {us : List Value}, PySem.W.EachIs (fun (u : Value) (p : W × PyData) => ∃ x : V, VR G Z μ H p.1 x ∧ RelV x u) us ps → ∃ vs, Vals vs us ∧ VRs G Z μ H (ps.map Prod.fst) vs
  | _, _, .nil => ⟨[], .nil, VRs.nil⟩
  | _, _, .cons ⟨x, h1, h2⟩ t => by
    obtain ⟨vs, k1, k2⟩ := each_back t
    exact ⟨x :: vs, .cons h2 k1, VRs.cons h1 k2⟩
theorem zip_snd : ∀ {ws : List W} {ds : List PyData}, ws.length = ds.length → (ws.zip ds).map Prod.snd = ds
  | [], [], _ => rfl
  | w :: ws, d :: ds, h => by rw [List.zip_cons_cons, List.map_cons, zip_snd (Nat.succ.inj h)]
  | [], _ :: _, h => by cases h
  | _ :: _, [], h => by cases h
theorem sortDL_ok (hK : X.K = G.K) (hu : X.A.units + 64 < cLine) {pins : List (Addr × Obj)} {s : Shared} {σ : L2.St} {us : List Value} {Q : VK} {a : Addr} {xs : List W} {vs : List V} (I : Inv X pins σ H s) (rv : Vals [V.ref a] us) (r : Rel G Z μ H S) (q1 : SqL G.K H a vs) (q2 : VRs G Z μ H xs vs) (af : Aft G E Z μ H (sortDL false xs S) (PQ G Q)) :
    wpAny (model X.prog X.w) X.A (call (.builtin "sorted") us) (EP X pins σ Q) X.xe s := by
  unfold sortDL at af
  split at af
  case h_2 => exact af.elim
  rename_i ds e
  split at af
  case isFalse => exact af.elim
  rename_i ho
  rw [Bool.and_eq_true] at ho
  obtain ⟨o1, o2, o3, o4⟩ := sortOk_of ho.1
  have hl := encS_len e
  obtain ⟨its, rvi, hli, hz⟩ := I.list (by rw [hK]; exact q1)
  obtain ⟨u, rfl, ru⟩ := vals1 rv
  obtain rfl : u = Value.ref a := ru
  obtain ⟨as, rd⟩ := Dp.readsAll I _ _ _ (by rw [hK]; exact encS_dps r e q2) rvi
  have ez := zip_snd hl
  have lz : (xs.zip ds).length = ds.length := by rw [List.length_zip, hl, Nat.min_self]
  refine PySem.W.sorted_data (enc := Prod.snd) (vs := its) (bs := xs.zip ds) hli.isList (each_pairs q2 rvi hl) (each_reads rd hl) (by rw [ez]; exact o1) (by rw [ez]; exact o2) (by rw [lz]; exact Nat.le_trans o3 (by decide)) (fun b hb => ?_) fun out k1 k2 => ?_
  · have := o4 b.2 (by rw [← ez]; exact List.mem_map.mpr ⟨b, hb, rfl⟩)
    omega
  · rw [sort_eq ho.2] at k2
    obtain ⟨ys, y1, y2⟩ := each_back k2
    obtain ⟨n, hn⟩ := PyProof.Rows.sortedAll_at s.heap its out.toArray
    have ly : ys.length ≤ sizeLine := by
      have : ys.length = out.length := y1.length
      rw [this, k1, lz]
      exact Nat.le_trans o3 (by decide)
    exact ⟨.ref (s.heap.objs.size + 1), upd H _ (.lst ys), I.laid (t' := s.toks) (fun b o e => PyProof.Rows.sortedAll_old e) (Nat.le_succ _) ⟨ly, out, n, y1, hn⟩, rfl, end_lst r y2 af _ (I.hok.fresh (Nat.le_succ _))⟩
theorem c_sortD (hK : X.K = G.K) (hu : X.A.units + 64 < cLine) : CallR X (.builtin "sorted") (cM G E sortDW) := by
  intro pins s σ H xs us Q I rv ⟨ws, S, Z, μ, r, hv, af⟩
  unfold sortDW at af
  split at af
  · obtain ⟨v, rfl, h1⟩ := one_of hv
    obtain ⟨a, vs, rfl, q1, _, q2⟩ := i_lst h1
    exact sortDL_ok hK hu I rv r (.inl (.inl q1)) q2 af
  · split at af
    · rename_i hs
      obtain ⟨v, rfl, h1⟩ := one_of hv
      obtain ⟨a, vs, rfl, q0, q1, q2⟩ := r.lst h1 hs
      exact sortDL_ok hK hu I rv r (.inl (.inl q1)) q2 af
    · exact af.elim
  · exact af.elim
/-- the place of the least -/
def leastAt (ds : List PyData) : Nat := argBest (fun i j => PySem.W.dataLt (ds.getD i .none) (ds.getD j .none)) (ds.length - 1)
def minDL (ws : List W) (S : Sto) : R W := match encS S ws with
  | some ds => if sortOk ds && !ds.isEmpty then (match ws[leastAt ds]? with
    | some w => .ok w S
    | none => .stuck) else .stuck
  | none => .stuck
def minDW (ws : List W) (S : Sto) : R W := match ws with
  | [.lst xs] => minDL xs S
  | [.ref n] => (match S[n]? with
    | some (.lst xs) => minDL xs S
    | _ => .stuck)
  | _ => .stuck
open PySem.SeqAt PySem.W in
theorem min_at {prog : Program} {w : World} {A : Around} {E : Value → Shared → Prop} {s : Shared} {l : Addr} {vs : Array Value} {xs : List PyData} {as : List Addr} {Q : Value → Shared → Prop} (hh : A.handled = none) (hl : s.heap.IsList l vs) (hr : ReadsAll s.heap vs.toList xs as) (ha : AlikeAll xs) (hu : A.units + 1 + PyData.depthAll xs < cLine) (h0 : 0 < xs.length)
    (h : ∀ v h' tk, vs[leastAt xs]? = some v → (∀ b o, s.heap.get? b = some o → h'.get? b = some o) → Q v { s with heap := h', toks := tk }) :
    wpAny (model prog w) A (call (.builtin "min") [.ref l]) Q E s := by
  have hn : vs.size = xs.length := readsAll_len hr
  refine call_min_walkH (iter_listW (A := A.in1) hh hl fun s₂ e W st hfp hw hk => ?_)
  refine ⟨_, _, _, _, _, _, _, s.heap, _, rfl, W, st, hfp, by omega, hw, hk, cmpIn_lt (A := A.in1) hr ha (by show A.units + 1 + _ < _; exact hu), fun v s' hP m => ?_⟩
  obtain ⟨h', tk, rfl, hk'⟩ := moved_old e rfl m
  rw [hn] at hP
  exact h v h' tk hP hk'
theorem vrs_at : ∀ {ws : List W} {vs : List V} {us : List Value} {i : Nat} {w : W} {u : Value}, VRs G Z μ H ws vs → Vals vs us → ws[i]? = some w → us[i]? = some u → ∃ x, VR G Z μ H w x ∧ RelV x u
  | [], _, _, i, w, u, _, _, e, _ => by simp at e
  | w :: ws, vs, us, i, w', u, h, r, e, e2 => by
    unfold VRs at h
    obtain ⟨v, q, rfl, h1, h2⟩ := h
    cases r with
    | cons a b =>
      cases i with
      | zero =>
        simp at e e2
        subst e; subst e2
        exact ⟨v, h1, a⟩
      | succ i => exact vrs_at h2 b (by simpa using e) (by simpa using e2)
theorem depthAll_le : ∀ {ds : List PyData} {k : Nat}, (∀ d ∈ ds, d.depth ≤ k) → PyData.depthAll ds ≤ k
  | [], k, _ => by simp [PyData.depthAll]
  | d :: ds, k, h => by
    rw [PyData.depthAll]
    exact Nat.max_le.mpr ⟨h d List.mem_cons_self, depthAll_le fun e he => h e (List.mem_cons_of_mem _ he)⟩
open PySem.SeqAt PySem.W in
theorem minDL_ok (hK : X.K = G.K) (hc : X.calm = true) (hu : X.A.units + 64 < cLine) {pins : List (Addr × Obj)} {s : Shared} {σ : L2.St} {us : List Value} {Q : VK} {a : Addr} {xs : List W} {vs : List V} (I : Inv X pins σ H s) (rv : Vals [V.ref a] us) (r : Rel G Z μ H S) (q1 : SqL G.K H a vs) (q2 : VRs G Z μ H xs vs) (af : Aft G E Z μ H (minDL xs S) (PQ G Q)) :
    wpAny (model X.prog X.w) X.A (call (.builtin "min") us) (EP X pins σ Q) X.xe s := by
  unfold minDL at af
  split at af
  case h_2 => exact af.elim
  rename_i ds e
  split at af
  case isFalse => exact af.elim
  rename_i ho
  rw [Bool.and_eq_true] at ho
  obtain ⟨o1, o2, o3, o4⟩ := sortOk_of ho.1
  split at af
  case h_2 => exact af.elim
  rename_i w hw
  have hl := encS_len e
  obtain ⟨its, rvi, hli, hz⟩ := I.list (by rw [hK]; exact q1)
  obtain ⟨u, rfl, ru⟩ := vals1 rv
  obtain rfl : u = Value.ref a := ru
  obtain ⟨as, rd⟩ := Dp.readsAll I _ _ _ (by rw [hK]; exact encS_dps r e q2) rvi
  have ne : 0 < ds.length := by
    cases ds with
    | nil => exact absurd ho.2 (by decide)
    | cons d ds => exact Nat.succ_pos _
  have dm := depthAll_le o4
  refine min_at (xs := ds) (I.ok.hd hc) hli.isList (by simpa using rd) ⟨fun x hx y hy => o1 x hx y hy, fun x hx => ?_⟩ (by omega) ne fun v h' tk hv hk => ?_
  · rcases o2 with o2 | o2
    · obtain ⟨y, z, e⟩ := o2 x hx
      rw [e]; exact nofun
    · exact (o2 x hx).1
  · obtain ⟨x, k1, k2⟩ := vrs_at q2 rvi hw (by simpa using hv)
    exact ⟨x, H, I.kept hk, k2, end_val r k1 af⟩
theorem c_minD (hK : X.K = G.K) (hc : X.calm = true) (hu : X.A.units + 64 < cLine) : CallR X (.builtin "min") (cM G E minDW) := by
  intro pins s σ H xs us Q I rv ⟨ws, S, Z, μ, r, hv, af⟩
  unfold minDW at af
  split at af
  · obtain ⟨v, rfl, h1⟩ := one_of hv
    obtain ⟨a, vs, rfl, q1, _, q2⟩ := i_lst h1
    exact minDL_ok hK hc hu I rv r (.inl (.inl q1)) q2 af
  · split at af
    · rename_i hs
      obtain ⟨v, rfl, h1⟩ := one_of hv
      obtain ⟨a, vs, rfl, q0, q1, q2⟩ := r.lst h1 hs
      exact minDL_ok hK hc hu I rv r (.inl (.inl q1)) q2 af
    · exact af.elim
  · exact af.elim
end
/-! ### list.index over deep data -/
def indD (w : W) (ws : List W) (S : Sto) : R W := match itemsL S w with
  | some xs => (match ws with
    | [k] => (match datas xs with
      | some ds => (match k.data with
        | some d => if (SeqAt.shaped (.list ds) && SeqAt.shaped d) && (decide (true ∈ ds.map fun e => PyData.eqv e d) && decide (ds.length ≤ 100000)) then .ok (.int ((ds.map fun e => PyData.eqv e d).idxOf true : Nat)) S else .stuck
        | none => .stuck)
      | none => .stuck)
    | _ => .stuck)
  | none => .stuck
section
variable {X : Cx} {G : Glo} {E : XK}
theorem plainAll_mem : ∀ {xs : List PyData} {x : PyData}, PyData.plainAll xs = true → x ∈ xs → x.plain = true
  | [], _, _, h => absurd h List.not_mem_nil
  | y :: ys, x, h, hm => by
    rw [PyData.plainAll, Bool.and_eq_true] at h
    rcases List.mem_cons.mp hm with rfl | hm
    · exact h.1
    · exact plainAll_mem h.2 hm
open PySem.SeqAt PySem.W in
theorem m_indexD (hK : X.K = G.K) (hu : X.A.units + 65 < cLine) : MtR X "list.index" (mtM G E indD) := by
  intro pins s σ H x vs v us Q I rx rv ⟨w, ws, S, Z, μ, r, hw, hv, af⟩
  unfold indD at af
  split at af
  · rename_i xs e0
    split at af
    · rename_i k
      obtain ⟨y, rfl, h1⟩ := one_of hv
      split at af
      · rename_i ds e1
        split at af
        · rename_i d e2
          split at af
          · rename_i e3
            rw [Bool.and_eq_true, Bool.and_eq_true, Bool.and_eq_true] at e3
            obtain ⟨⟨s1, s2⟩, m1, m2⟩ := e3
            have m2 := of_decide_eq_true m2
            obtain ⟨a, xs, rfl, q1, q2⟩ := itemsL_ok r e0 hw
            obtain rfl : v = .ref a := rx
            obtain ⟨u, rfl, ru⟩ := vals1 rv
            obtain ⟨its, r1, pl, hz⟩ := I.list (by rw [hK]; exact q1)
            obtain ⟨as, rd⟩ := Dp.readsAll I _ _ _ (by rw [hK]; exact data_dps e1 q2) r1
            obtain ⟨bs, rk⟩ := Dp.reads I _ _ _ (by rw [hK]; exact data_dp e2 h1) ru
            have hn := readsAll_len (vs := its.toArray) (by simpa using rd)
            refine call_list_index (vs := its) (ks := ds.map fun e => PyData.eqv e d) (k := true) pl.isList ⟨by rw [List.length_map]; simpa using hn, fun j j1 j2 => ?_⟩ (by rw [List.length_map]; exact Nat.le_trans m2 (by decide)) (of_decide_eq_true m1) ⟨.int _, H, I.tok _, ⟨_, rfl⟩, end_val r (vr_int _ _ _) af⟩
            rw [List.length_map] at j2
            obtain ⟨cs, rj, _, mj, _⟩ := readsAll_at rd j its[j] (List.getElem?_eq_getElem j1)
            have ej : ds.getD j .none = ds[j] := by rw [List.getD_eq_getElem?_getD, List.getElem?_eq_getElem j2]; rfl
            rw [ej] at rj
            have ed : decide ((ds.map fun e => PyData.eqv e d)[j]'(by rw [List.length_map]; exact j2) = true) = PyData.eqv ds[j] d := by
              rw [List.getElem_map]; cases PyData.eqv ds[j] d <;> rfl
            rw [ed]
            refine eqAt_plain _ _ _ s _ _ cs bs rj rk (plainAll_mem (plainAll_of s1) (List.getElem_mem j2)) (PyData.plain_of_canLay0 _ (SeqAt.canLay_of_shaped s2)) ?_
            have h1 := SeqAt.depth_of_shaped s2
            have h2 : min ds[j].depth d.depth ≤ d.depth := Nat.min_le_right _ _
            show X.A.units + 1 + _ < _
            omega
          · exact af.elim
        · exact af.elim
      · exact af.elim
    · exact af.elim
  · exact af.elim
end
end Mo

set_option Elab.async false
set_option linter.all false
set_option maxRecDepth 100000
set_option autoImplicit false
/-! Mon48: a def run apart whose rows of the store are taken over by the caller. -/
namespace Mo
open PySem PySem.Spec L2
open PyProof.Rows hiding St
mutual
def W.sh (k : Nat) : W → W
  | .ref n => .ref (k + n)
  | .tup ws => .tup (shs k ws)
  | .itm ws => .itm (shs k ws)
  | .lst ws => .lst (shs k ws)
  | .clo j ws => .clo j (shs k ws)
  | .non => .non
  | .bl b => .bl b
  | .int i => .int i
  | .str x => .str x
  | .ty n => .ty n
  | .scr ns => .scr ns
  | .ed => .ed
  | .glob x => .glob x
  | .exc c => .exc c
def shs (k : Nat) : List W → List W
  | [] => []
  | w :: ws => w.sh k :: shs k ws
end
def O.sh (k : Nat) : O → O
  | .lst ws => .lst (shs k ws)
  | .dict kvs => .dict (kvs.map fun p => (p.1, p.2.sh k))
  | .ins c fs => .ins c (fs.map fun p => (p.1, p.2.sh k))
  | .gone => .gone
section
variable {G : Glo} {Z : Addr → Prop} {μ μ' : List Addr} {H : Hp}
mutual
theorem VR.sh : ∀ {w : W} {v : V}, VR G Z μ' H w v → VR G Z (μ ++ μ') H (w.sh μ.length) v
  | .non, _, h => by unfold W.sh; exact h
  | .bl _, _, h => by unfold W.sh; exact h
  | .int _, _, h => by unfold W.sh; exact h
  | .str _, _, h => by unfold W.sh; exact h
  | .ty _, _, h => by unfold W.sh; exact h
  | .tup ws, v, h => by
    unfold W.sh
    unfold VR at h ⊢
    obtain ⟨a, vs, e, ha, hs⟩ := h
    exact ⟨a, vs, e, ha, VRs.sh hs⟩
  | .itm ws, v, h => by
    unfold W.sh
    unfold VR at h ⊢
    obtain ⟨a, vs, e, ha, hs⟩ := h
    exact ⟨a, vs, e, ha, VRs.sh hs⟩
  | .lst ws, v, h => by
    unfold W.sh
    unfold VR at h ⊢
    obtain ⟨a, vs, e, ha, q, hs⟩ := h
    exact ⟨a, vs, e, ha, q, VRs.sh hs⟩
  | .ed, _, h => by unfold W.sh; unfold VR at h ⊢; exact h
  | .scr _, _, h => by unfold W.sh; unfold VR at h ⊢; exact h
  | .ref n, v, h => by
    unfold W.sh
    unfold VR at h ⊢
    obtain ⟨a, h1, h2⟩ := h
    refine ⟨a, ?_, h2⟩
    rw [List.getElem?_append_right (Nat.le_add_right _ _), Nat.add_sub_cancel_left]
    exact h1
  | .glob _, _, h => by unfold W.sh; unfold VR at h ⊢; exact h
  | .exc _, _, h => by unfold W.sh; unfold VR at h ⊢; exact h
  | .clo k cap, v, h => by
    unfold W.sh
    unfold VR at h ⊢
    obtain ⟨a, vs, h1, h2, h3, h4⟩ := h
    exact ⟨a, vs, h1, h2, h3, VRs.sh h4⟩
theorem VRs.sh : ∀ {ws : List W} {vs : List V}, VRs G Z μ' H ws vs → VRs G Z (μ ++ μ') H (shs μ.length ws) vs
  | [], _, h => by unfold shs; unfold VRs at h ⊢; exact h
  | w :: ws, vs, h => by
    unfold shs
    unfold VRs at h ⊢
    obtain ⟨v, q, e, h1, h2⟩ := h
    exact ⟨v, q, e, VR.sh h1, VRs.sh h2⟩
end
theorem KVR.sh : ∀ {kvs : List (Key × W)} {es : List (Key × V)}, KVR G Z μ' H kvs es → KVR G Z (μ ++ μ') H (kvs.map fun p => (p.1, p.2.sh μ.length)) es
  | [], _, h => by unfold KVR at h; subst h; exact rfl
  | (k, w) :: kvs, es, h => by
    unfold KVR at h
    obtain ⟨v, q, e, h1, h2⟩ := h
    rw [List.map_cons]
    unfold KVR
    exact ⟨v, q, e, VR.sh h1, KVR.sh h2⟩
theorem shs_snd (k : Nat) : ∀ fs : List (Str × W), shs k (fs.map Prod.snd) = (fs.map fun p => (p.1, p.2.sh k)).map Prod.snd
  | [] => by unfold shs; rfl
  | p :: fs => by
    rw [List.map_cons, List.map_cons, List.map_cons]
    unfold shs
    rw [shs_snd k fs]
theorem OR.sh {a : Addr} {o : O} (h : OR G Z μ' H a o) : OR G Z (μ ++ μ') H a (o.sh μ.length) := by
  cases o with
  | lst ws =>
    obtain ⟨vs, h1, h2⟩ := h
    exact ⟨vs, h1, VRs.sh h2⟩
  | dict kvs =>
    obtain ⟨es, h1, h2⟩ := h
    exact ⟨es, h1, KVR.sh h2⟩
  | ins c fs =>
    obtain ⟨C, dx, es, q1, q2, q3, q4⟩ := h
    refine ⟨C, dx, es, q1, ?_, q3, ?_⟩
    · rw [q2, List.map_map]; rfl
    · have := VRs.sh (μ := μ) q4
      rw [shs_snd] at this
      exact this
  | gone => exact True.intro
end
/-- apart, over an empty store; its rows are then the caller's -/
def gGraft (n : Nat) (m : MD) (ws : List W) (S : Sto) : R W := if ws.length = n ∧ nrs ws = true then (match m ws [] with
    | .ok w S' => .ok (w.sh S.length) (S ++ S'.map (O.sh S.length))
    | .err c _ => .err c S
    | .stuck => .stuck) else .stuck
section
variable {G : Glo} {E : XK} {n : Nat} {m : MD} {Q : VK} {vs : List V} {H : Hp}
theorem call_spG (h : cM G E (gGraft n m) vs H Q) : spM G n m vs H Q E := by
  obtain ⟨ws, S, Z, μ, r, hv, af⟩ := h
  unfold gGraft at af
  split at af
  case isFalse => exact af.elim
  rename_i hl
  have fin : ∀ {Z' : Addr → Prop} {μ' : List Addr} {H' : Hp}, Grow Z [] H Z' μ' H' → G.inv H' → Rel G Z μ H' S ∧ Grow Z μ H Z μ H' := fun g hi => r.extN (fun a o q ht => g.keep a o q (by simp) ht) g.th hi
  refine ⟨by rw [hv.length]; exact hl.1, ws, [], Z, [], rel_nil r.zm r.inv, VRs.nr (fun _ h => h) hl.2 hv, ?_⟩
  cases e2 : m ws [] with
  | stuck => rw [e2] at af; exact af.elim
  | err c S' =>
    rw [e2] at af
    exact fun Z' μ' H' g r' => af Z μ H' (fin g r'.inv).2 (fin g r'.inv).1
  | ok w S' =>
    rw [e2] at af
    dsimp only at af
    intro Z' μ' H' g r' v hw
    obtain ⟨e, he, fr⟩ := g.mu
    have he : μ' = e := he
    subst he
    have dis : ∀ a ∈ μ, a ∉ μ' := fun a ha hb => by
      obtain ⟨o, h1, _⟩ := r.zm a (r.mz a ha)
      rw [fr a hb] at h1
      cases h1
    have gg : Grow Z μ H Z' (μ ++ μ') H' := ⟨⟨μ', rfl, fr⟩, g.zz, g.zk, fun a o h hm ht => g.keep a o h List.not_mem_nil ht, g.th⟩
    have rr : Rel G Z' (μ ++ μ') H' (S ++ S'.map (O.sh S.length)) := by
      refine ⟨by rw [List.length_append, List.length_append, List.length_map, r.len, r'.len], List.nodup_append.mpr ⟨r.nd, r'.nd, fun a ha b hb e => dis a ha (e ▸ hb)⟩, fun a ha => ?_, r'.zm, r'.inv, fun j a o h1 h2 => ?_⟩
      · rcases List.mem_append.mp ha with ha | ha
        · exact g.zk a (r.mz a ha)
        · exact r'.mz a ha
      · by_cases hj : j < μ.length
        · rw [List.getElem?_append_left hj] at h1
          rw [List.getElem?_append_left (by rw [← r.len]; exact hj)] at h2
          obtain ⟨hob, h3, h4, h5⟩ := r.zm a (r.mz a (List.mem_of_getElem? h1))
          exact OR.mono r gg ((g.keep a hob h3 List.not_mem_nil h5).trans h3.symm) (r.ob j a o h1 h2)
        · rw [List.getElem?_append_right (by omega)] at h1
          rw [List.getElem?_append_right (by rw [← r.len]; omega), List.getElem?_map] at h2
          obtain ⟨o', h3, rfl⟩ := Option.map_eq_some_iff.mp h2
          rw [← r.len] at h3 ⊢
          exact OR.sh (r'.ob _ a o' h1 h3)
    exact af Z' (μ ++ μ') H' gg rr v (by rw [← r.len]; exact VR.sh hw)
end
section
variable {X : Cx} {G : Glo} {E : XK} {e : Expr} {es : List Expr} {mr : MA} {pos p : Pos} {k kr n : Nat} {m : MD} {x : Str}
theorem em_fG (F : FG X.prog X.w X.K X.mg X.base G x k n m) (hr : Room kr X.A) (hx : Passes (L2.CX X.prog X.w) X E) (ha : PA X (e :: es) (tMA G E mr)) (hg : Gl X x := by rfl) (hk : k ≤ kr := by decide) (hdb : (x == ("__debug__" : Str)) = false := by decide) (he : starEach (e :: es) X.env = (false, eval e X.env) :: starEach es X.env := by rfl) (hpl : (backTo pos (starEach es X.env)).any (·.1) = false := by rfl) :
    PE X (.Call (.Name x p) (e :: es) [] pos) (tM G E (mAp (gGraft n m) mr)) := by
  obtain ⟨f, fd, ps, h1, h2, h3, h4, h5, h6⟩ := F.ex
  exact em_call (fun _ _ _ h => call_spG h) h3 (hr.mono hk) hg h1 h5 h4 hx ha hdb he hpl
end
/-! sorted(..) as a list of the store -/
def sortDNL (rev : Bool) (ws : List W) (S : Sto) : R W := match encS S ws with
  | some ds => if sortOk ds && strictB ds then .ok (.ref S.length) (S ++ [.lst (sortDs rev ws ds)]) else .stuck
  | none => .stuck
def sortDNW (ws : List W) (S : Sto) : R W := match ws with
  | [.lst xs] => sortDNL false xs S
  | [.ref n] => (match S[n]? with
    | some (.lst xs) => sortDNL false xs S
    | _ => .stuck)
  | _ => .stuck
section
variable {X : Cx} {G : Glo} {E : XK} {Z : Addr → Prop} {μ : List Addr} {H : Hp} {S : Sto}
theorem sortDNL_ok (hK : X.K = G.K) (hu : X.A.units + 64 < cLine) {pins : List (Addr × Obj)} {s : Shared} {σ : L2.St} {us : List Value} {Q : VK} {a : Addr} {xs : List W} {vs : List V} (I : Inv X pins σ H s) (rv : Vals [V.ref a] us) (r : Rel G Z μ H S) (q1 : SqL G.K H a vs) (q2 : VRs G Z μ H xs vs) (af : Aft G E Z μ H (sortDNL false xs S) (PQ G Q)) :
    wpAny (model X.prog X.w) X.A (call (.builtin "sorted") us) (EP X pins σ Q) X.xe s := by
  unfold sortDNL at af
  split at af
  case h_2 => exact af.elim
  rename_i ds e
  split at af
  case isFalse => exact af.elim
  rename_i ho
  rw [Bool.and_eq_true] at ho
  obtain ⟨o1, o2, o3, o4⟩ := sortOk_of ho.1
  have hl := encS_len e
  obtain ⟨its, rvi, hli, hz⟩ := I.list (by rw [hK]; exact q1)
  obtain ⟨u, rfl, ru⟩ := vals1 rv
  obtain rfl : u = Value.ref a := ru
  obtain ⟨as, rd⟩ := Dp.readsAll I _ _ _ (by rw [hK]; exact encS_dps r e q2) rvi
  have ez := zip_snd hl
  have lz : (xs.zip ds).length = ds.length := by rw [List.length_zip, hl, Nat.min_self]
  refine PySem.W.sorted_data (enc := Prod.snd) (vs := its) (bs := xs.zip ds) hli.isList (each_pairs q2 rvi hl) (each_reads rd hl) (by rw [ez]; exact o1) (by rw [ez]; exact o2) (by rw [lz]; exact Nat.le_trans o3 (by decide)) (fun b hb => ?_) fun out k1 k2 => ?_
  · have := o4 b.2 (by rw [← ez]; exact List.mem_map.mpr ⟨b, hb, rfl⟩)
    omega
  · rw [sort_eq ho.2] at k2
    obtain ⟨ys, y1, y2⟩ := each_back k2
    obtain ⟨n, hn⟩ := PyProof.Rows.sortedAll_at s.heap its out.toArray
    have ly : ys.length ≤ sizeLine := by
      have : ys.length = out.length := y1.length
      rw [this, k1, lz]
      exact Nat.le_trans o3 (by decide)
    exact ⟨.ref (s.heap.objs.size + 1), upd H _ (.lst ys), I.laid (t' := s.toks) (fun b o e => PyProof.Rows.sortedAll_old e) (Nat.le_succ _) ⟨ly, out, n, y1, hn⟩, rfl, end_new r y2 af _ (I.hok.fresh (Nat.le_succ _))⟩
theorem c_sortDN (hK : X.K = G.K) (hu : X.A.units + 64 < cLine) : CallR X (.builtin "sorted") (cM G E sortDNW) := by
  intro pins s σ H xs us Q I rv ⟨ws, S, Z, μ, r, hv, af⟩
  unfold sortDNW at af
  split at af
  · obtain ⟨v, rfl, h1⟩ := one_of hv
    obtain ⟨a, vs, rfl, q1, _, q2⟩ := i_lst h1
    exact sortDNL_ok hK hu I rv r (.inl (.inl q1)) q2 af
  · split at af
    · rename_i hs
      obtain ⟨v, rfl, h1⟩ := one_of hv
      obtain ⟨a, vs, rfl, q0, q1, q2⟩ := r.lst h1 hs
      exact sortDNL_ok hK hu I rv r (.inl (.inl q1)) q2 af
    · exact af.elim
  · exact af.elim
end
end Mo

set_option Elab.async false
set_option linter.all false
set_option maxRecDepth 100000
set_option autoImplicit false
/-! Mon49: closures and makers over the caller's whole store. -/
namespace Mo
open PySem PySem.Spec L2
open PyProof.Rows hiding St
/-! ### stores without closures -/
def O.ncO : O → Bool
  | .lst ws => ncs ws
  | .dict kvs => kvs.all fun p => p.2.nc
  | .ins _ fs => ncs (fs.map Prod.snd)
  | .gone => true
/-- what holds closures is let go -/
def O.cl (o : O) : O := if o.ncO then o else .gone
def clean (S : Sto) : Sto := S.map O.cl
section
variable {G G' : Glo} {Z : Addr → Prop} {μ : List Addr} {H : Hp} {S : Sto}
theorem KVR.reN (hK : G'.K = G.K) (hm : G'.mg = G.mg) (he : G'.ex = G.ex) : ∀ {kvs : List (Key × W)} {es : List (Key × V)}, (kvs.all fun p => p.2.nc) = true → KVR G Z μ H kvs es → KVR G' Z μ H kvs es
  | [], es, _, h => by unfold KVR at h ⊢; exact h
  | (k, w) :: r, es, n, h => by
    rw [List.all_cons, Bool.and_eq_true] at n
    unfold KVR at h ⊢
    obtain ⟨v, r', e, q1, q2⟩ := h
    exact ⟨v, r', e, VR.reG hK hm he n.1 q1, KVR.reN hK hm he n.2 q2⟩
theorem OR.reN {a : Addr} (hK : G'.K = G.K) (hm : G'.mg = G.mg) (he : G'.ex = G.ex) {o : O} (n : o.ncO = true) (h : OR G Z μ H a o) : OR G' Z μ H a o := by
  cases o with
  | lst ws =>
    obtain ⟨vs, h1, h2⟩ := h
    exact ⟨vs, h1, VRs.reG hK hm he n h2⟩
  | dict kvs =>
    obtain ⟨es, h1, h2⟩ := h
    exact ⟨es, h1, KVR.reN hK hm he n h2⟩
  | ins c fs =>
    obtain ⟨C, dx, es, q1, q2, q3, q4⟩ := h
    exact ⟨C, dx, es, by rw [hm]; exact q1, q2, q3, VRs.reG hK hm he n q4⟩
  | gone => exact True.intro
theorem Rel.reN (hK : G'.K = G.K) (hm : G'.mg = G.mg) (he : G'.ex = G.ex) (hi : G'.inv = G.inv) (r : Rel G Z μ H S) : Rel G' Z μ H (clean S) :=
  ⟨by unfold clean; rw [List.length_map]; exact r.len, r.nd, r.mz, r.zm, by rw [hi]; exact r.inv, fun j a o h1 h2 => by
    unfold clean at h2
    rw [List.getElem?_map] at h2
    cases q : S[j]? with
    | none => rw [q] at h2; cases h2
    | some o' =>
      rw [q] at h2
      cases h2
      have k := r.ob j a o' h1 q
      show OR G' Z μ H a o'.cl
      unfold O.cl
      split
      · rename_i n
        exact OR.reN hK hm he n k
      · exact True.intro⟩
end
/-! ### a def with lambdas of its own, in the caller's store -/
def mkH (L : Nat) (b : MS) : MD := fun ws S => if ncs ws then (match mDef L b ws (clean S) with
    | .ok w S' => if w.nc then .ok w (clean S') else .stuck
    | .err c S' => .err c (clean S')
    | .stuck => .stuck) else .stuck
theorem mkH_sp {G G' : Glo} {L n : Nat} {b : MS} {vs : List V} {H : Hp} {Q : VK} {E : XK} (hK : G'.K = G.K) (hm : G'.mg = G.mg) (he : G'.ex = G.ex) (hi : G'.inv = G.inv) (h : spM G n (mkH L b) vs H Q E) : spM G' n (mDef L b) vs H Q E := by
  obtain ⟨hl, ws, S, Z, μ, r, hv, af⟩ := h
  unfold mkH at af
  split at af
  case isFalse => exact af.elim
  rename_i hn
  refine ⟨hl, ws, clean S, Z, μ, r.reN hK hm he hi, VRs.reG hK hm he hn hv, ?_⟩
  cases e2 : mDef L b ws (clean S) with
  | stuck => rw [e2] at af; exact af.elim
  | err c S' =>
    rw [e2] at af
    intro Z' μ' H' g r2
    obtain ⟨a, h1, h2⟩ := af Z' μ' H' g (r2.reN hK.symm hm.symm he.symm hi.symm)
    exact ⟨a, by rw [hm]; exact h1, h2⟩
  | ok w S' =>
    rw [e2] at af
    dsimp only at af
    split at af
    case isFalse => exact af.elim
    rename_i q
    intro Z' μ' H' g r2 v hw
    exact af Z' μ' H' g (r2.reN hK.symm hm.symm he.symm hi.symm) v (VR.reG hK.symm hm.symm he.symm q hw)
section
open LamX (CodeO TabS Tabs ExtN TabB)
variable {P : Program} {w : World} {K : PySem.W.Frag} {mg : Str → Option Value} {base : Heap} {x qual : Str} {params : Arguments} {body : List Stmt} {scope : Scope} {dvs : List V} {kws : List (Str × V)} {f : Addr} {fd : FuncData} {T : List (Addr × Str)} {lams lams' : List LamD} {q : Str} {cells : List (Str × Addr)} {cv : Nat → List V → Prop}
theorem fn_mkH {N ps : List Str} {k : Nat} {mb : MS} (F : FunD K x qual params body scope dvs kws f fd) (S : FnScope N ps scope)
    (hbody : ∀ (c : Addr) (A : Around) (outer : List Env) (s : Shared) (H : Hp) (E : XK), fd.code = .ref c → Room k (A.deeper (envOfC qual scope s.heap.objs.size f (.ref c))) →
      PSs (cxOf (L2.CX P w) P w K mg base N qual scope f (.ref c) A outer s H E) body (tS (gloM (cxOf (L2.CX P w) P w K mg base N qual scope f (.ref c) A outer s H E) T lams fun _ vs => vs = []) E mb)) :
    FnOk P w K mg base (L2.CX P w) (k + 1) f fd ps (spM (glo K mg T q lams' cells cv) ps.length (mkH N.length mb)) := by
  obtain ⟨oc, od, dV, kV, doc, pm, an, cdv, ct, osl, rfl, lk, hcd, _, _⟩ := F.ex
  obtain ⟨c, rfl⟩ := He.codeIn_ref hcd
  refine fn_of lk hcd S (fun vs H Q E h => h.1) fun A outer s H vs Q E hr hsp => ?_
  have hb := hbody c A outer s H E rfl hr
  have key : ∀ (q' : Str) (cells' : List (Str × Addr)) (cv' : Nat → List V → Prop), spM (glo K mg T q' lams cells' cv') ps.length (mDef N.length mb) vs H Q E := fun q' cells' cv' => mkH_sp (G := glo K mg T q lams' cells cv) rfl rfl rfl rfl hsp
  have h3 := def_reads (key ((cxOf (L2.CX P w) P w K mg base N qual scope f (.ref c) A outer s H E).env.qual ++ "<lambda>") (cxOf (L2.CX P w) P w K mg base N qual scope f (.ref c) A outer s H E).env.cells fun _ vs => vs = [])
  exact ⟨_, hb, h3⟩
end
section
variable {P : Program} {w : World} {K : PySem.W.Frag} {mg : Str → Option Value} {base : Heap} {G : Glo} {d : He.DefD} {N ps : List Str} {k : Nat} {mb : MS} {T : List (Addr × Str)} {lams lams' : List LamD} {q : Str} {cells : List (Str × Addr)} {cv : Nat → List V → Prop}
theorem Df.mkH_ (D : Df K mg d) (S : FnScope N ps d.scope) (hb : ∀ (kV doc pm : Value) (an : Option Addr) (cdv ct : Value) (us : List Value), us.length = ps.length → bindArgs (PySem.W.fnOf d.name d.qual d.params d.body d.scope .none kV doc pm an cdv ct) ⟨us, []⟩ = pure (ps.zip us))
    (hbody : ∀ (A : Around) (outer : List Env) (s : Shared) (H : Hp) (E : XK), Room k (A.deeper (envOfC d.qual d.scope s.heap.objs.size (He.fAd K d.at_) (.ref (He.cT K d.at_).1))) →
      PSs (cxOf (L2.CX P w) P w K mg base N d.qual d.scope (He.fAd K d.at_) (.ref (He.cT K d.at_).1) A outer s H E) d.body (tS (gloM (cxOf (L2.CX P w) P w K mg base N d.qual d.scope (He.fAd K d.at_) (.ref (He.cT K d.at_).1) A outer s H E) T lams fun _ vs => vs = []) E mb)) :
    FG P w K mg base (glo K mg T q lams' cells cv) d.name (k + 1) ps.length (mkH N.length mb) := by
  obtain ⟨fd, F⟩ := D.ex
  have e := F.ex
  obtain ⟨oc, od, dV, kV, doc, pm, an, cdv, ct, osl, efd, lk, _⟩ := e
  refine ⟨_, fd, ps, D.at_, rfl, fn_mkH (lams := lams) F S fun c A outer s H E ec hr => ?_, F.bindsN hb, F.kp, oc, od, osl, lk⟩
  have e2 : (He.cT K d.at_).1 = c := He.codeOf_eq lk ec
  rw [← e2] at hr ⊢
  exact hbody A outer s H E hr
end
/-! ### a def called with closures, over the maker's store -/
def capS (ρ : Env') : List Nat → Option (List W)
  | [] => some []
  | j :: js => match ρ[j]? with
    | some (some u) => if u.nc then (match capS ρ js with
      | some us => some (u :: us)
      | none => none) else none
    | _ => none
def cvtS (ms : List LamM) (ρ : Env') (w : W) : Option W := match w with
  | .clo k [] => (match ms[k]? with
    | some M => (match capS ρ M.js with
      | some us => some (.clo k us)
      | none => none)
    | none => none)
  | w => if w.nc then some w else none
def gCallH (n : Nat) (m : MD) (ms : List LamM) (ρ : Env') (ws : List W) (S : Sto) : R W := if ws.length = n then (match mapO (cvtS ms ρ) ws with
  | none => .stuck
  | some us => match m us (clean S) with
    | .ok w S' => if w.nc then .ok w (clean S') else .stuck
    | .err c S' => .err c (clean S')
    | .stuck => .stuck) else .stuck
def mCallH (n : Nat) (m : MD) (ms : List LamM) (r : MA) : ME := fun ρ S => (r ρ S).bind fun ws S1 => gCallH n m ms ρ ws S1
section
open LamX (CodeO TabS Tabs ExtN TabB)
variable {X : Cx} {T : List (Addr × Str)} {lams : List LamD} {ms : List LamM} {gs : List (Str × Nat × MD)} {E : XK}
theorem capS_ok {pins : List (Addr × Obj)} {σ : L2.St} {H : Hp} {s : Shared} {Z : Addr → Prop} {μ : List Addr} {ρ : Env'} {G G' : Glo} (hK : G'.K = G.K) (hm : G'.mg = G.mg) (he : G'.ex = G.ex) (I : Inv X pins σ H s) (er : ER G Z μ H ρ σ) : ∀ (js : List Nat) (fr : List Str) (us : List W), capS ρ js = some us → js.length = fr.length → (∀ (i : Nat) (y : Str), fr[i]? = some y → ∃ j : Nat, js[i]? = some j ∧ X.N[j]? = some y ∧ X.env.scope.names.lookup y = some .cell) →
    ∃ vs, VRs G' Z μ H us vs ∧ vs.length = fr.length ∧ ∀ (i : Nat) (y : Str), fr[i]? = some y → ∃ (c : Addr) (oc : Obj) (u : Value) (v : V), X.env.cells.lookup y = some c ∧ (baseP X s).get? c = some oc ∧ oc.data = .cell (some u) ∧ vs[i]? = some v ∧ RelV v u
  | [], [], us, e, _, _ => by
    unfold capS at e; cases e
    exact ⟨[], VRs.nil, rfl, fun i y h => by simp at h⟩
  | j :: js, y :: fr, us, e, hl, hat => by
    unfold capS at e
    split at e
    · rename_i u hu
      split at e
      · rename_i hn
        split at e
        · rename_i us' e2
          cases e
          obtain ⟨vs, h1, h2, h3⟩ := capS_ok hK hm he I er js fr us' e2 (by simpa using hl) fun i y h => by simpa using hat (i + 1) y (by simpa using h)
          obtain ⟨j', k1, k2, k3⟩ := hat 0 y rfl
          simp at k1
          subst k1
          obtain ⟨v, q1, q2⟩ := er.at_ j u hu
          obtain ⟨m, _, hl'⟩ := I.loc
          obtain ⟨uv, ru, lk⟩ := hl' j y v k2 q1 (.inr (.inl k3))
          refine ⟨v :: vs, VRs.cons (VR.reG hK hm he hn q2) h1, by simp [h2], fun i z hz => ?_⟩
          cases i with
          | zero =>
            simp at hz
            subst hz
            rcases lk with ⟨lk, _⟩ | ⟨_, c, hc, oc, ho, hd⟩
            · have lk' : X.env.scope.names.lookup y = some .local := lk
              rw [k3] at lk'; cases lk'
            · exact ⟨c, oc, uv, v, hc, baseP_at ho (.inr (isCellOf_lookup hc)), hd, rfl, ru⟩
          | succ i =>
            obtain ⟨c, oc, u2, v2, p1, p2, p3, p4, p5⟩ := h3 i z (by simpa using hz)
            exact ⟨c, oc, u2, v2, p1, p2, p3, by simpa using p4, p5⟩
        · cases e
      · cases e
    · cases e
  | [], _ :: _, _, _, hl, _ => by simp at hl
  | _ :: _, [], _, _, hl, _ => by simp at hl
theorem cvtS_ok {pins : List (Addr × Obj)} {σ : L2.St} {H : Hp} {s : Shared} {Z : Addr → Prop} {μ : List Addr} {ρ : Env'} (I : Inv X pins σ H s) (er : ER (gloM X T lams fun _ vs => vs = []) Z μ H ρ σ) (hcap : ∀ (k : Nat) (L : LamD) (M : LamM), lams[k]? = some L → ms[k]? = some M → Capt X L M) :
    ∀ (w u : W) (v : V), cvtS ms ρ w = some u → VR (gloM X T lams fun _ vs => vs = []) Z μ H w v → VR (gloM X T lams fun k vs => ∃ L, lams[k]? = some L ∧ CV (baseP X s) X.env.cells L vs) Z μ H u v := fun w u v e h => by
  unfold cvtS at e
  split at e
  · rename_i k
    split at e
    · rename_i M eM
      split at e
      · rename_i us eu
        cases e
        unfold VR at h ⊢
        obtain ⟨a, vs, rfl, ⟨L, c', h1, h2, h3⟩, h4, h5⟩ := h
        have cp := hcap k L M h1 eM
        rw [cp.js] at eu
        obtain ⟨cs, k1, k2, k3⟩ := capS_ok (G := gloM X T lams fun _ vs => vs = []) (G' := gloM X T lams fun k vs => ∃ L, lams[k]? = some L ∧ CV (baseP X s) X.env.cells L vs) rfl rfl rfl I er L.js L.fr us eu cp.len cp.at_
        exact ⟨a, cs, rfl, ⟨L, c', h1, h2, h3⟩, ⟨L, h1, k2, k3⟩, k1⟩
      · cases e
    · cases e
  · split at e
    · rename_i hn
      cases e
      exact VR.reG (G := gloM X T lams fun _ vs => vs = []) (G' := gloM X T lams fun k vs => ∃ L, lams[k]? = some L ∧ CV (baseP X s) X.env.cells L vs) rfl rfl rfl hn h
    · cases e
/-- f(e, ..) in the maker's own frame -/
theorem em_callH {kf kk n : Nat} {f : Addr} {x : Str} {p pos : Pos} {e : Expr} {es : List Expr} {mr : MA} {m : MD} (hfn : ∀ x, X.fn x = true) (hlen : lams.length = ms.length) (hcap : ∀ (k : Nat) (L : LamD) (M : LamM), lams[k]? = some L → ms[k]? = some M → Capt X L M)
    (hl : ∀ (B : Heap) (cv : Nat → List V → Prop) (k : Nat) (L : LamD) (M : LamM), lams[k]? = some L → ms[k]? = some M → X.Ok → (∀ (c P : Addr), LamX.TabB X.base X.mg c P → LamX.TabB B X.mg c P) → LamOk X.prog X.w X.K X.mg B (gloM X T lams cv) kk (X.env.qual ++ "<lambda>") X.env.cells L M)
    (hgl : ∀ (B : Heap) (cv : Nat → List V → Prop) (x : Str) (n : Nat) (m : MD), gs.lookup x = some (n, m) → GlobOk X.prog X.w X.K X.mg B (gloM X T lams cv) (kk + 1) x n m)
    (F : ∀ (B : Heap) (cv : Nat → List V → Prop), CallC X.prog X.w X.K X.mg B (gloM X T lams cv) (kk + 1) (apM ms gs) → FG X.prog X.w X.K X.mg B (gloM X T lams cv) x kf n m)
    (hr : Room kf X.A) (hg : Gl X x) (hm : X.mg x = some (.ref f)) (hk : PySem.W.keepIn X.K (.ref f) = true)
    (hx : Passes (L2.CX X.prog X.w) X E) (ha : PA X (e :: es) (tMA (gloM X T lams fun _ vs => vs = []) E mr)) (hdb : (x == ("__debug__" : Str)) = false := by decide) (he : starEach (e :: es) X.env = (false, eval e X.env) :: starEach es X.env := by rfl) (hpl : (backTo pos (starEach es X.env)).any (·.1) = false := by rfl) :
    PE X (.Call (.Name x p) (e :: es) [] pos) (tM (gloM X T lams fun _ vs => vs = []) E (mCallH n m ms mr)) := by
  refine ⟨fun pins s σ H Q I h => ?_⟩
  obtain ⟨ρ, S, Z, μ, r, er, af⟩ := h
  refine wpAny_Call_Name_kw (ld_glob I hg hm ?_ hdb)
  refine PySem.W.callWith_K (h₀ := X.base) I.ok.mod.kin hk (thn (ha.run pos pins s σ H (fun vs H1 => ∃ ws S1 Z1 μ1, Rel (gloM X T lams fun _ vs => vs = []) Z1 μ1 H1 S1 ∧ ER (gloM X T lams fun _ vs => vs = []) Z1 μ1 H1 ρ σ ∧ VRs (gloM X T lams fun _ vs => vs = []) Z1 μ1 H1 ws vs ∧ Aft (gloM X T lams fun _ vs => vs = []) E Z1 μ1 H1 (gCallH n m ms ρ ws S1) (PQ (gloM X T lams fun _ vs => vs = []) Q)) I ?_) fun us s1 ⟨vs, H1, I1, rv, q⟩ => ⟨I1.kIn, ?_⟩) he hpl
  · exact ⟨ρ, S, Z, μ, r, er, Aft.imp (Aft.bind af) fun ws Z1 μ1 H1 S1 _ g1 r1 a1 vs hvs => ⟨ws, S1, Z1, μ1, r1, er.mono r g1, hvs, a1⟩⟩
  · obtain ⟨ws, S1, Z1, μ1, r1, er1, hvs, a1⟩ := q
    have e0 := env0_plus I1 hfn
    have C : CallC X.prog X.w X.K X.mg (baseP X s1) (gloM X T lams fun k vs => ∃ L, lams[k]? = some L ∧ CV (baseP X s1) X.env.cells L vs) (kk + 1) (apM ms gs) :=
      callC_of I1.ok.inj (fun k vs ⟨L, h1, h2⟩ L' h3 => by rw [h1] at h3; cases h3; exact h2) hlen (fun k L M h1 h2 => hl _ _ k L M h1 h2 I1.ok fun c P => tabB_keep fun b o h => baseP_base I1 h) (fun x n m h => hgl _ _ x n m h)
    obtain ⟨f', fd, ps, g1, _, Fn, hb, _, _⟩ := (F _ _ C).ex
    have ef := g1.symm.trans hm
    cases ef
    have hsp : spM (gloM X T lams fun k vs => ∃ L, lams[k]? = some L ∧ CV (baseP X s1) X.env.cells L vs) n m vs H1 Q E := by
      unfold gCallH at a1
      split at a1
      case isFalse => exact a1.elim
      rename_i hn
      refine ⟨by rw [hvs.length]; exact hn, ?_⟩
      cases e1 : mapO (cvtS ms ρ) ws with
      | none => rw [e1] at a1; exact a1.elim
      | some us' =>
        rw [e1] at a1
        dsimp only at a1
        refine ⟨us', clean S1, Z1, μ1, r1.reN (G := gloM X T lams fun _ vs => vs = []) rfl rfl rfl rfl, mapO_vr2 (G := gloM X T lams fun _ vs => vs = []) (fun w u v q1 q2 => cvtS_ok I1 er1 hcap w u v q1 q2) e1 hvs, ?_⟩
        cases e2 : m us' (clean S1) with
        | stuck => rw [e2] at a1; exact a1.elim
        | err c S' =>
          rw [e2] at a1
          exact fun Z' μ' H' g r' => a1 Z' μ' H' g (r'.reN (G := gloM X T lams fun k vs => ∃ L, lams[k]? = some L ∧ CV (baseP X s1) X.env.cells L vs) rfl rfl rfl rfl)
        | ok w S' =>
          rw [e2] at a1
          dsimp only at a1
          split at a1
          case isFalse => exact a1.elim
          rename_i hnc
          intro Z' μ' H' g r' v hw
          exact a1 Z' μ' H' g (r'.reN (G := gloM X T lams fun k vs => ∃ L, lams[k]? = some L ∧ CV (baseP X s1) X.env.cells L vs) rfl rfl rfl rfl) v (VR.reG (G := gloM X T lams fun k vs => ∃ L, lams[k]? = some L ∧ CV (baseP X s1) X.env.cells L vs) (G' := gloM X T lams fun _ vs => vs = []) rfl rfl rfl hnc hw)
    have hl' : (us ++ [] : List Value).length = ps.length := by rw [List.append_nil, ← rv.length]; exact Fn.len _ _ _ _ hsp
    have hb' := hb s1 us I1.kIn hl'
    rw [List.append_nil] at hb'
    refine wpAny_call (codeAny_mono (Fn.run X.A X.stack s1 H1 ⟨us, []⟩ us vs Q E hr e0 hb' rv hsp) fun r s' hq => ?_)
    cases r with
    | error e => exact hx pins σ H1 s1 e s' I1 hq
    | ok fl =>
      cases fl with
      | ret u => exact I1.after hq
      | next => exact False.elim hq
      | brk => exact False.elim hq
      | cont => exact False.elim hq
end
end Mo

set_option Elab.async false
set_option linter.all false
set_option maxRecDepth 100000
set_option autoImplicit false
/-! Mon50: instances of own classes; tuples of the module; pop(). -/
namespace Mo
open PySem PySem.Spec L2
open PyProof.Rows hiding St
/-- a class of the module whose instances are made, read, written -/
structure CC (K : PySem.W.Frag) (mg : Str → Option Value) (c : Str) : Prop where
  at_ : mg c = some (.ref (He.ga K c))
  cls : Cls K (He.ga K c)
def putFW (f : Str) (w : W) : List (Str × W) → List (Str × W)
  | [] => [(f, w)]
  | (g, x) :: r => if g = f then (g, w) :: r else (g, x) :: putFW f w r
section
variable {G : Glo} {Z : Addr → Prop} {μ : List Addr} {H : Hp}
theorem fld_at {f : Str} {u : W} : ∀ {fs : List (Str × W)} {es : List (Str × V)}, es.map Prod.fst = fs.map Prod.fst → VRs G Z μ H (fs.map Prod.snd) (es.map Prod.snd) → fs.lookup f = some u → ∃ v, es.lookup f = some v ∧ VR G Z μ H u v
  | [], _, _, _, h => by cases h
  | (g, x) :: fs, [], e, _, _ => by cases e
  | (g, x) :: fs, (g', y) :: es, e, k, h => by
    rw [List.map_cons, List.map_cons] at e
    injection e with e1 e2
    have e1 : g' = g := e1
    subst e1
    rw [List.map_cons, List.map_cons] at k
    unfold VRs at k
    obtain ⟨v, r, e3, k1, k2⟩ := k
    injection e3 with e4 e5
    have e4 : y = v := e4
    subst e4
    subst e5
    unfold List.lookup at h ⊢
    cases q : f == g' with
    | true => rw [q] at h; cases h; exact ⟨y, rfl, k1⟩
    | false => rw [q] at h; exact fld_at e2 k2 h
theorem fld_none {f : Str} : ∀ {fs : List (Str × W)} {es : List (Str × V)}, es.map Prod.fst = fs.map Prod.fst → fs.lookup f = none → es.lookup f = none
  | [], [], _, _ => rfl
  | [], _ :: _, e, _ => by cases e
  | _ :: _, [], e, _ => by cases e
  | (g, x) :: fs, (g', y) :: es, e, h => by
    rw [List.map_cons, List.map_cons] at e
    injection e with e1 e2
    have e1 : g' = g := e1
    subst e1
    unfold List.lookup at h ⊢
    cases q : f == g' with
    | true => rw [q] at h; cases h
    | false => rw [q] at h; exact fld_none e2 h
theorem putF_rel {f : Str} {w : W} {v : V} (hv : VR G Z μ H w v) : ∀ {fs : List (Str × W)} {es : List (Str × V)}, es.map Prod.fst = fs.map Prod.fst → VRs G Z μ H (fs.map Prod.snd) (es.map Prod.snd) →
    (putF f v es).map Prod.fst = (putFW f w fs).map Prod.fst ∧ VRs G Z μ H ((putFW f w fs).map Prod.snd) ((putF f v es).map Prod.snd)
  | [], [], _, _ => ⟨rfl, VRs.cons hv VRs.nil⟩
  | [], _ :: _, e, _ => by cases e
  | _ :: _, [], e, _ => by cases e
  | (g, x) :: fs, (g', y) :: es, e, k => by
    rw [List.map_cons, List.map_cons] at e
    injection e with e1 e2
    have e1 : g' = g := e1
    subst e1
    rw [List.map_cons, List.map_cons] at k
    unfold VRs at k
    obtain ⟨v', r, e3, k1, k2⟩ := k
    injection e3 with e4 e5
    have e4 : y = v' := e4
    subst e4
    subst e5
    unfold putF putFW
    by_cases q : g' = f
    · rw [if_pos q, if_pos q]
      exact ⟨by rw [List.map_cons, List.map_cons, e2], VRs.cons hv k2⟩
    · rw [if_neg q, if_neg q]
      obtain ⟨h1, h2⟩ := putF_rel (f := f) hv e2 k2
      exact ⟨by rw [List.map_cons, List.map_cons, h1], VRs.cons k1 h2⟩
end
/-- o.f -/
def mFld (c f : Str) (m : ME) : ME := fun ρ S => (m ρ S).bind fun o S1 => match o with
  | .ref n => (match S1[n]? with
    | some (.ins d fs) => if d = c then (match fs.lookup f with
      | some u => .ok u S1
      | none => .stuck) else .stuck
    | _ => .stuck)
  | _ => .stuck
def mSetFld (c f : Str) (mv mo : ME) : MS := fun ρ S => (mv ρ S).bind fun v S1 => (mo ρ S1).bind fun o S2 => match o with
  | .ref n => (match S2[n]? with
    | some (.ins d fs) => if d = c ∧ fs.length < 1000 then .ok (.nx ρ) (S2.set n (.ins d (putFW f v fs))) else .stuck
    | _ => .stuck)
  | _ => .stuck
/-- o.m(..) -/
def mMeth (c m : Str) (n : Nat) (md : MD) (mo : ME) (mr : MA) : ME := fun ρ S => (mo ρ S).bind fun o S1 => match o with
  | .ref i => (match S1[i]? with
    | some (.ins d fs) => if d = c ∧ (fs.lookup m).isNone = true then (mr ρ S1).bind fun ws S2 => gCall n md (.ref i :: ws) S2 else .stuck
    | _ => .stuck)
  | _ => .stuck
def gMake (c : Str) (md : MD) (S : Sto) : R W := match md [.ref S.length] (S ++ [.ins c []]) with
  | .ok .non S' => .ok (.ref S.length) S'
  | .ok _ _ => .stuck
  | .err d S' => .err d S'
  | .stuck => .stuck
def mMake (c : Str) (md : MD) : ME := fun _ S => gMake c md S
/-- the method m of the class c does md -/
structure FM (P : Program) (w : World) (K : PySem.W.Frag) (mg : Str → Option Value) (base : Heap) (G : Glo) (c m : Str) (k n : Nat) (md : MD) : Prop where
  ex : ∃ (f : Addr) (fd : FuncData) (ps : List Str), Meth K (He.ga K c) m f ∧ ps.length = n ∧ FnOk P w K mg base (L2.CX P w) k f fd ps (spM G n md) ∧ Binds K fd ps []
structure FI (P : Program) (w : World) (K : PySem.W.Frag) (mg : Str → Option Value) (base : Heap) (G : Glo) (c : Str) (k : Nat) (md : MD) : Prop where
  ex : ∃ (f : Addr) (fd : FuncData) (ps : List Str), Mk K (He.ga K c) f ∧ FnOk P w K mg base (L2.CX P w) k f fd ps (spM G 1 md) ∧ Binds K fd ps []
/-- a method as the head tells it -/
structure Dm (K : PySem.W.Frag) (c : Str) (d : He.DefD) : Prop where
  me : Meth K (He.ga K c) d.name (He.fAd K d.at_)
  ex : ∃ fd, FunD K d.name d.qual d.params d.body d.scope [] [] (He.fAd K d.at_) fd
structure Di (K : PySem.W.Frag) (c : Str) (d : He.DefD) : Prop where
  mkr : Mk K (He.ga K c) (He.fAd K d.at_)
  ex : ∃ fd, FunD K d.name d.qual d.params d.body d.scope [] [] (He.fAd K d.at_) fd
section
variable {P : Program} {w : World} {K : PySem.W.Frag} {mg : Str → Option Value} {base : Heap} {G : Glo} {d : He.DefD} {N ps : List Str} {k : Nat} {mb : MS} {c : Str}
theorem Dm.fm (D : Dm K c d) (S : FnScope N ps d.scope) (hb : ∀ (kV doc pm : Value) (an : Option Addr) (cdv ct : Value) (us : List Value), us.length = ps.length → bindArgs (PySem.W.fnOf d.name d.qual d.params d.body d.scope .none kV doc pm an cdv ct) ⟨us, []⟩ = pure (ps.zip us))
    (hbody : ∀ (cdv : Value) (A : Around) (outer : List Env) (s : Shared) (H : Hp) (E : XK), Room k (A.deeper (envOfC d.qual d.scope s.heap.objs.size (He.fAd K d.at_) cdv)) → PSs (cxOf (L2.CX P w) P w K mg base N d.qual d.scope (He.fAd K d.at_) cdv A outer s H E) d.body (tS G E mb)) :
    FM P w K mg base G c d.name (k + 1) ps.length (mDef N.length mb) := by
  obtain ⟨fd, F⟩ := D.ex
  exact ⟨_, fd, ps, D.me, rfl, fn_ok F S hbody, F.bindsN hb⟩
theorem Di.fi {x : Str} (D : Di K c d) (S : FnScope N [x] d.scope) (hb : ∀ (kV doc pm : Value) (an : Option Addr) (cdv ct : Value) (us : List Value), us.length = [x].length → bindArgs (PySem.W.fnOf d.name d.qual d.params d.body d.scope .none kV doc pm an cdv ct) ⟨us, []⟩ = pure ([x].zip us))
    (hbody : ∀ (cdv : Value) (A : Around) (outer : List Env) (s : Shared) (H : Hp) (E : XK), Room k (A.deeper (envOfC d.qual d.scope s.heap.objs.size (He.fAd K d.at_) cdv)) → PSs (cxOf (L2.CX P w) P w K mg base N d.qual d.scope (He.fAd K d.at_) cdv A outer s H E) d.body (tS G E mb)) :
    FI P w K mg base G c (k + 1) (mDef N.length mb) := by
  obtain ⟨fd, F⟩ := D.ex
  exact ⟨_, fd, [x], D.mkr, fn_ok F S hbody, F.bindsN hb⟩
end
section
variable {X : Cx} {G : Glo} {E : XK} {o e value : Expr} {es : List Expr} {mo mv : ME} {mr : MA} {c f m x : Str} {p pos pos' apos : Pos} {k kr n : Nat} {md : MD}
theorem em_fld (hG : G.mg = X.mg) (D : CC X.K X.mg c) (na : NoAttr X.K (He.ga X.K c) f) (he : PE X o (tM G E mo)) (hb : attributeBase o f X.env (eval o X.env) = eval o X.env := by rfl) : PE X (.Attribute o f pos) (tM G E (mFld c f mo)) :=
  (pe_fld he hb).weak fun σ H Q ⟨ρ, S, Z, μ, r, er, af⟩ => ⟨ρ, S, Z, μ, r, er, Aft.imp (Aft.bind af) fun w Z1 μ1 H1 S1 _ g1 r1 a1 v hv => by
    split at a1
    · split at a1
      · rename_i hs
        split at a1
        · rename_i hd
          split at a1
          · rename_i u hl
            unfold VR at hv
            obtain ⟨a, h1, rfl⟩ := hv
            obtain ⟨C, dx, es', q1, q2, q3, q4⟩ := r1.ob _ a _ h1 hs
            rw [hd, hG, D.at_] at q1
            cases q1
            obtain ⟨y, l, hy⟩ := fld_at q2 q4 hl
            exact ⟨a, _, dx, es', y, rfl, q3, D.cls, na, l, Aft.here (E := E) (P := PQ G Q) r1 a1 _ hy⟩
          · exact a1.elim
        · exact a1.elim
      · exact a1.elim
    · exact a1.elim⟩
theorem sm_setFld (hG : G.mg = X.mg) (D : CC X.K X.mg c) (na : NoAttr X.K (He.ga X.K c) f) (hv : PE X value (tM G E mv)) (ho : PE X o (tM G E mo)) (hs : swapsWith value (some (.Attribute o f pos')) pos.line X.env = pure false := by rfl) : PS X (.Assign [.Attribute o f pos'] value pos) (tS G E (mSetFld c f mv mo)) :=
  (ps_fld ho hv hs).weak fun Dn σ H ⟨ρ, S, Z, μ, r, er, af⟩ => by
    refine ⟨ρ, S, Z, μ, r, er, Aft.imp (Aft.bind af) fun w Z1 μ1 H1 S1 _ g1 r1 a1 y hy => ?_⟩
    have er1 := er.mono r g1
    refine ⟨ρ, S1, Z1, μ1, r1, er1, Aft.imp (Aft.bind a1) fun ow Z2 μ2 H2 S2 _ g2 r2 a2 ov hov => ?_⟩
    have er2 := er1.mono r1 g2
    have hy2 := hy.mono r1 g2
    split at a2
    · split at a2
      · rename_i hs
        split at a2
        · rename_i hd
          unfold VR at hov
          obtain ⟨a, h1, rfl⟩ := hov
          obtain ⟨C, dx, es', q1, q2, q3, q4⟩ := r2.ob _ a _ h1 hs
          have eC := q1
          rw [hd.1, hG, D.at_] at eC
          cases eC
          obtain ⟨k1, k2⟩ := putF_rel (f := f) hy2 q2 q4
          have hlen : es'.length < 1000 := by
            have := congrArg List.length q2
            rw [List.length_map, List.length_map] at this
            omega
          have g : Grow Z2 μ2 H2 Z2 μ2 (upd H2 a (.ins (He.ga X.K c) dx (putF f y es'))) := Grow.put (List.mem_of_getElem? h1)
          refine ⟨a, _, dx, es', rfl, q3, D.cls, na, hlen, ?_⟩
          exact a2 _ _ _ g (r2.put h1 ⟨rfl, rfl⟩ ⟨_, dx, _, q1, k1, upd_same, VRs.mono r2 g k2⟩) σ (er2.mono r2 g)
        · exact a2.elim
      · exact a2.elim
    · exact a2.elim
theorem meth_reads (hG : G.mg = X.mg) (D : CC X.K X.mg c) {fs : List Str} {fa : Addr} {t : TA} (ht : ∀ σ H Q, tMA G E mr σ H Q → t σ H Q) {σ : L2.St} {H : Hp} {Q : VK} (h : tM G E (mMeth c m n md mo mr) σ H Q) : tMeth (He.ga X.K c) m (spM G n md) [] E (tM G E mo) t σ H Q := by
  obtain ⟨ρ, S, Z, μ, r, er, af⟩ := h
  refine ⟨ρ, S, Z, μ, r, er, Aft.imp (Aft.bind af) fun w Z1 μ1 H1 S1 _ g1 r1 a1 v hv => ?_⟩
  split at a1
  · split at a1
    · rename_i hs
      split at a1
      · rename_i hd
        have hv0 := hv
        unfold VR at hv
        obtain ⟨a, h1, rfl⟩ := hv
        obtain ⟨C, dx, es', q1, q2, q3, q4⟩ := r1.ob _ a _ h1 hs
        rw [hd.1, hG, D.at_] at q1
        cases q1
        refine ⟨a, dx, es', rfl, q3, fld_none q2 (by have := hd.2; rwa [Option.isNone_iff_eq_none] at this), ht _ _ _ ⟨ρ, S1, Z1, μ1, r1, er.mono r g1, Aft.imp (Aft.bind a1) fun ws Z2 μ2 H2 S2 _ g2 r2 a2 vs hvs => ?_⟩⟩
        show spM G n md (V.ref a :: (vs ++ [])) H2 Q E
        rw [List.append_nil]
        exact call_spS ⟨_, S2, Z2, μ2, r2, VRs.cons (hv0.mono r1 g2) hvs, a2⟩
      · exact a1.elim
    · exact a1.elim
  · exact a1.elim
theorem em_meth {pl : Sem Bool} (hG : G.mg = X.mg) (D : CC X.K X.mg c) (F : FM X.prog X.w X.K X.mg X.base G c m k n md) (hr : Room kr X.A) (hx : Passes (L2.CX X.prog X.w) X E) (ho : PE X o (tM G E mo)) (ha : PA X (e :: es) (tMA G E mr)) (hk : k ≤ kr := by decide)
    (hst : starEach (e :: es) X.env = (false, eval e X.env) :: starEach es X.env := by rfl) (hpl : (backTo pos (starEach es X.env)).any (·.1) = false := by rfl)
    (ht : eval (.Call (.Attribute o m apos) (e :: es) [] pos) X.env = (do
      let ov ← eval o X.env
      standAt apos.atName
      let (f, first) ← holding [ov] (getMethod ov m pl)
      callWith pos f first (backTo pos (starEach (e :: es) X.env)) (backToKw pos (keywordEach [] X.env))) := by rfl) :
    PE X (.Call (.Attribute o m apos) (e :: es) [] pos) (tM G E (mMeth c m n md mo mr)) := by
  obtain ⟨f, fd, ps, h1, h2, h3, h4⟩ := F.ex
  exact (pe_meth ho D.cls h1 h3 (hr.mono hk) h4 .nil hx ha hst hpl ht).weak fun σ H Q h => meth_reads (fs := []) (fa := 0) hG D (fun _ _ _ z => z) h
theorem em_meth0 {pl : Sem Bool} (hG : G.mg = X.mg) (D : CC X.K X.mg c) (F : FM X.prog X.w X.K X.mg X.base G c m k n md) (hr : Room kr X.A) (hx : Passes (L2.CX X.prog X.w) X E) (ho : PE X o (tM G E mo)) (hk : k ≤ kr := by decide)
    (ht : eval (.Call (.Attribute o m apos) [] [] pos) X.env = (do
      let ov ← eval o X.env
      standAt apos.atName
      let (f, first) ← holding [ov] (getMethod ov m pl)
      callWith pos f first (backTo pos (starEach [] X.env)) (backToKw pos (keywordEach [] X.env))) := by rfl) :
    PE X (.Call (.Attribute o m apos) [] [] pos) (tM G E (mMeth c m n md mo mNil)) := by
  obtain ⟨f, fd, ps, h1, h2, h3, h4⟩ := F.ex
  refine (pe_meth0 ho D.cls h1 h3 (hr.mono hk) h4 .nil hx ht).weak fun σ H Q h => meth_reads (fs := []) (fa := 0) hG D (fun _ _ _ z => ?_) h
  obtain ⟨ρ, S, Z, μ, r, er, af⟩ := z
  exact Aft.here (E := E) r af _ VRs.nil
theorem em_make0 (hG : G.mg = X.mg) (D : CC X.K X.mg c) (F : FI X.prog X.w X.K X.mg X.base G c k md) (hr : Room kr X.A) (hx : Passes (L2.CX X.prog X.w) X E) (hk : k + 1 ≤ kr := by decide) (hg : Gl X c := by rfl) (hdb : (c == ("__debug__" : Str)) = false := by decide) :
    PE X (.Call (.Name c p) [] [] pos) (tM G E (mMake c md)) := by
  obtain ⟨f, fd, ps, h1, h3, h4⟩ := F.ex
  refine (pe_make0 h1 h3 (hr.mono hk) hg D.at_ h4 .nil hx hdb).weak fun σ H Q ⟨ρ, S, Z, μ, r, er, af⟩ => fun x dx hxn hdn hne => ?_
  have ra : Rel G Z μ (upd H dx (.own x)) S := r.add hdn
  have hx' : upd H dx (.own x) x = none := by rw [upd_ne (Ne.symm hne)]; exact hxn
  have rn := ra.new (ho := .ins (He.ga X.K c) dx []) (o := .ins c []) hx' ⟨rfl, rfl⟩ ⟨_, dx, [], by rw [hG]; exact D.at_, rfl, upd_same, VRs.nil⟩
  have g : Grow Z μ H (fun a => Z a ∨ a = x) (μ ++ [x]) (upd (upd H dx (.own x)) x (.ins (He.ga X.K c) dx [])) := Grow.trans ra (Grow.add hdn) (Grow.new hx')
  have hat : (μ ++ [x])[S.length]? = some x := by rw [← r.len, List.getElem?_append_right (Nat.le_refl _), Nat.sub_self]; rfl
  refine ⟨rfl, [.ref S.length], S ++ [.ins c []], _, _, rn, VRs.cons ?_ VRs.nil, ?_⟩
  · unfold VR
    exact ⟨x, hat, rfl⟩
  · unfold mMake gMake at af
    cases e2 : md [.ref S.length] (S ++ [.ins c []]) with
    | stuck => rw [e2] at af; exact af.elim
    | err d S' =>
      rw [e2] at af
      exact fun Z' μ' H' g' r' => af Z' μ' H' (Grow.trans rn g g') r'
    | ok w S' =>
      rw [e2] at af
      cases w with
      | non =>
        intro Z' μ' H' g' r' v hv
        refine ⟨by unfold VR at hv; exact hv, af Z' μ' H' (Grow.trans rn g g') r' (.ref x) ?_⟩
        unfold VR
        exact ⟨x, g'.get hat, rfl⟩
      | _ => exact af.elim
end
/-! ### x in a tuple of texts of the module -/
def inGW (neg : Bool) (g : Str) (xs : List Str) (x y : W) (S : Sto) : R W := match x, y with
  | .str s, .glob h => if h = g then .ok (.bl (if neg then !decide (s ∈ xs) else decide (s ∈ xs))) S else .stuck
  | _, _ => .stuck
theorem inV_str (s : Str) : ∀ xs : List Str, inV (.str s) (xs.map V.str) = decide (s ∈ xs)
  | [] => rfl
  | x :: xs => by
    have ih := inV_str s xs
    unfold inV at ih ⊢
    rw [List.map_cons, List.any_cons, ih]
    show (x == s || decide (s ∈ xs)) = _
    by_cases h : x = s
    · subst h; simp
    · have h2 : (x == s) = false := beq_eq_false_iff_ne.mpr h
      have h3 : s ≠ x := fun z => h z.symm
      rw [h2, Bool.false_or]
      simp [h3]
theorem flat_strs : ∀ xs : List Str, (xs.map V.str).all flatV = true
  | [] => rfl
  | x :: xs => by rw [List.map_cons, List.all_cons, flat_strs xs]; rfl
section
variable {X : Cx} {G : Glo} {E : XK} {g : Str} {xs : List Str}
theorem map_dv (K : PySem.W.Frag) : ∀ xs : List Str, (xs.map He.Dv.str).map (He.Dv.v K) = xs.map V.str
  | [] => rfl
  | x :: xs => by rw [List.map_cons, List.map_cons, map_dv K xs]; rfl
theorem o_inG (hG : G.mg = X.mg) (hm : X.mg g = some (.ref (He.ga X.K g))) (tb : He.tupB X.K g (xs.map He.Dv.str) = true) : OpR X (compareOp .In) (rM G E (inGW false g xs)) := by
  intro pins s σ H x y v u Q I rx ry ⟨w1, w2, S, Z, μ, r, h1, h2, af⟩
  unfold inGW at af
  split at af
  · rename_i z h
    split at af
    · rename_i e
      subst e
      unfold VR at h2
      obtain ⟨a, q1, rfl⟩ := h2
      rw [hG, hm] at q1
      cases q1
      have tq := He.tupB_ok tb H
      rw [map_dv] at tq
      refine op_in_seq pins s σ H x _ v u Q I rx ry ⟨_, xs.map V.str, rfl, .inr tq, by rw [i_str h1]; rfl, flat_strs xs, ?_⟩
      rw [i_str h1, inV_str]
      exact end_val r (vr_bl _ _ _) af
    · exact af.elim
  · exact af.elim
end
/-! ### pop() -/
def pop0W (w : W) (ws : List W) (S : Sto) : R W := match w with
  | .ref n => (match S[n]? with
    | some (.lst xs) => (match ws with
      | [] => (match xs[xs.length - 1]? with
        | some u => .ok u (S.set n (.lst xs.dropLast))
        | none => .stuck)
      | _ => .stuck)
    | _ => .stuck)
  | _ => .stuck
section
variable {X : Cx} {G : Glo} {E : XK} {o : Expr} {ma : ME} {name : Str} {apos cpos : Pos} {id : String}
theorem VRs.dropLast {Z : Addr → Prop} {μ : List Addr} {H : Hp} {ws : List W} {vs : List V} (h : VRs G Z μ H ws vs) : VRs G Z μ H ws.dropLast vs.dropLast := by
  rw [List.dropLast_eq_take, List.dropLast_eq_take, h.length]
  exact h.take _
theorem m_pop0 : MtR X "list.pop" (mtM G E pop0W) := by
  intro pins s σ H x vs v us Q I rx rv ⟨w, ws, S, Z, μ, r, hw, hv, af⟩
  unfold pop0W at af
  split at af
  · split at af
    · rename_i hs
      split at af
      · split at af
        · rename_i u e2
          obtain ⟨a, xs, rfl, q0, q1, q2⟩ := r.lst hw hs
          unfold VRs at hv
          obtain ⟨z, k1, k2⟩ := q2.get e2
          exact mt_pop pins s σ H _ _ v us Q I rx rv ⟨a, xs, z, rfl, hv, q1, by rw [q2.length]; exact k1, end_put r q0 q2.dropLast k2 af⟩
        · exact af.elim
      · exact af.elim
    · exact af.elim
  · exact af.elim
theorem em_mt0 (hK : X.K = G.K) {f : W → List W → Sto → R W} (slot : Slot "list" name id) (hty : typeOf (.builtin id) = pure (.type "method_descriptor")) (hm : MtR X id (mtM G E f)) (ho : PE X o (tM G E ma))
    (hbase : attributeBase o name X.env (eval o X.env) = eval o X.env := by rfl) (hline : (apos.endLine == cpos.line) = true := by rfl) :
    PE X (.Call (.Attribute o name apos) [] [] cpos) (tM G E (mMt f ma mNil)) := (pe_bm0 PySem.F.plainAttrs_list slot hty hm ho hbase hline).weak fun σ H Q h => by
  obtain ⟨ρ, S, Z, μ, r, er, af⟩ := h
  refine ⟨ρ, S, Z, μ, r, er, Aft.imp (Aft.bind af) fun w Z1 μ1 H1 S1 _ g1 r1 a1 x hx => ?_⟩
  split at a1
  · rename_i e
    obtain ⟨a, vs, rfl, q1, q2⟩ := itemsL_ok r1 e hx
    exact ⟨.inl ⟨rfl, vs, by rw [hK]; exact q1⟩, w, [], S1, Z1, μ1, r1, hx, VRs.nil, a1⟩
  · exact a1.elim
end
end Mo

set_option Elab.async false
set_option linter.all false
set_option maxRecDepth 100000
set_option autoImplicit false
/-! Mon51: xs + ys as a new list of the store; a class's defs. -/
namespace Mo
open PySem PySem.Spec L2
open PyProof.Rows hiding St
def lstOf (S : Sto) : W → Option (List W)
  | .lst xs => some xs
  | .ref n => (match S[n]? with
    | some (.lst xs) => some xs
    | _ => none)
  | _ => none
def addN (x y : W) (S : Sto) : R W := match lstOf S x with
  | some xs => (match lstOf S y with
    | some ys => if xs.length + ys.length ≤ 100000 then .ok (.ref S.length) (S ++ [.lst (xs ++ ys)]) else .stuck
    | none => .stuck)
  | none => .stuck
section
variable {X : Cx} {G : Glo} {E : XK} {Z : Addr → Prop} {μ : List Addr} {H : Hp} {S : Sto}
theorem lstOf_ok (r : Rel G Z μ H S) {w : W} {v : V} {xs : List W} (e : lstOf S w = some xs) (h : VR G Z μ H w v) : ∃ a vs, v = .ref a ∧ H a = some (.lst vs) ∧ VRs G Z μ H xs vs := by
  unfold lstOf at e
  split at e
  · cases e
    obtain ⟨a, vs, rfl, q1, _, q2⟩ := i_lst h
    exact ⟨a, vs, rfl, q1, q2⟩
  · split at e
    · rename_i hs
      cases e
      obtain ⟨a, vs, rfl, _, q1, q2⟩ := r.lst h hs
      exact ⟨a, vs, rfl, q1, q2⟩
    · cases e
  · cases e
theorem o_addN : OpR X (binaryOp .Add) (rM G E addN) := by
  intro pins s σ H x y v u Q I rx ry ⟨w1, w2, S, Z, μ, r, h1, h2, af⟩
  unfold addN at af
  split at af
  · rename_i e1
    split at af
    · rename_i e2
      split at af
      · rename_i hl
        obtain ⟨a, vs, rfl, q1, q2⟩ := lstOf_ok r e1 h1
        obtain ⟨b, us, rfl, q3, q4⟩ := lstOf_ok r e2 h2
        exact op_cat pins s σ H _ _ v u Q I rx ry ⟨a, b, vs, us, rfl, rfl, q1, q3, by rw [q2.length, q4.length]; exact Nat.le_trans hl (by decide), end_new r (q2.append q4) af⟩
      · exact af.elim
    · exact af.elim
  · exact af.elim
end
/-! ### x.partition(sep) -/
def partW (a : Str) (w : W) (S : Sto) : R W := match w with
  | .str b => if b.length ≠ 0 ∧ a.length ≤ 100000 then .ok (.itm [.str (Txt.partition a b).1, .str (Txt.partition a b).2.1, .str (Txt.partition a b).2.2]) S else .stuck
  | _ => .stuck
section
variable {X : Cx} {G : Glo} {E : XK}
theorem m_part : MtR X "str.partition" (srM G E partW) := by
  intro pins s σ H x xs v us Q I rx rs ⟨a, w, y, S, Z, μ, ex, ey, r, hy, af⟩
  unfold partW at af
  split at af
  · rename_i b
    split at af
    · rename_i h
      have e1 : (b.length == 0) = false := by simpa using h.1
      refine mt_partition pins s σ H x xs v us Q I rx rs ⟨a, b, ex, by rw [ey, i_str hy], e1, by have := h.2; rw [sizeLine_eq]; omega, fun p hp => ?_⟩
      refine af Z μ _ (Grow.add hp) (r.add hp) _ ?_
      unfold VR
      refine ⟨p, _, rfl, upd_same, VRs.cons ?_ (VRs.cons ?_ (VRs.cons ?_ VRs.nil))⟩ <;> (unfold VR; rfl)
    · exact af.elim
  · exact af.elim
end
/-- the i-th row of a class -/
def clsAt (st : Stmt) (i : Nat) : Stmt := match st with
  | .ClassDef _ _ _ body _ _ _ _ _ _ _ => body.getD i (.Pass ⟨0, 0, 0, 0⟩)
  | _ => .Pass ⟨0, 0, 0, 0⟩
section
variable {K : PySem.W.Frag} {d : He.DefD} {cn : Str} {fa : List He.Fa} {fn : List He.DefD}
theorem dm_of (c : He.SaysD fa fn K) (hd : d ∈ fn) (hf : He.Fa.meth cn d.name ∈ fa) (h1 : d.at_ = (cn, some d.name)) (h2 : d.dfl = []) (h3 : d.kwd = []) : Dm K cn d := by
  obtain ⟨fd, F⟩ := c.defs hd
  have e1 : d.dvs K = [] := by unfold He.DefD.dvs; rw [h2]; rfl
  have e2 : d.kws K = [] := by unfold He.DefD.kws; rw [h3]; rfl
  rw [e1, e2] at F
  refine ⟨?_, fd, F⟩
  rw [h1]
  exact He.meth_ok (c.facts hf)
theorem di_of (c : He.SaysD fa fn K) (hd : d ∈ fn) (hf : He.Fa.mkr cn ∈ fa) (h1 : d.at_ = (cn, some ("__init__" : Str))) (h2 : d.dfl = []) (h3 : d.kwd = []) : Di K cn d := by
  obtain ⟨fd, F⟩ := c.defs hd
  have e1 : d.dvs K = [] := by unfold He.DefD.dvs; rw [h2]; rfl
  have e2 : d.kws K = [] := by unfold He.DefD.kws; rw [h3]; rfl
  rw [e1, e2] at F
  refine ⟨?_, fd, F⟩
  rw [h1]
  exact He.mkr_ok (c.facts hf)
end
end Mo

set_option Elab.async false
set_option linter.all false
set_option maxRecDepth 100000
set_option autoImplicit false
/-! Mon52: comprehensions whose element may raise. -/
namespace Mo
open PySem PySem.Spec L2
open PyProof.Rows hiding St
/-! ### an exception out of the block -/
def blkX (X : Cx) (ce : Env) : Value → Shared → Prop := notedBy (model X.prog X.w) X.A ce (CompFails (model X.prog X.w) X.A X.xe ce)
abbrev blkR (X : Cx) (s : Shared) (H : Hp) (scope : Scope) (ce : Env) (fp : List Addr) : Cx := { X.blk s H scope ce fp with xe := blkX X ce }
section
variable {X : Cx} {pins : List (Addr × Obj)} {σ : St} {H : Hp} {s : Shared} {E : XK}
theorem ok_xe {xe : Value → Shared → Prop} (ok : X.Ok) : Cx.Ok { X with xe := xe } := ok.toTry (xe := xe) X.pn
theorem inv_xe {xe : Value → Shared → Prop} (I : Inv X pins σ H s) : Inv { X with xe := xe } pins σ H s :=
  ⟨ok_xe I.ok, I.os, I.bare, I.base, I.loc, I.cell, I.free, I.freeC, I.pin, I.hok, I.len⟩
/-- a call's exception flies -/
theorem of_callF (I : Inv X pins σ H s) {u : Value} {s' : Shared} (c : CX X.prog X.w X.stack H s E u s') :
    ∃ (a : Addr) (B : Heap) (sI : Shared) (pins' : List (Addr × Obj)) (σ' : St) (H' : Hp) (cls : Value) (d : Option Addr), u = .ref a ∧ Inv X pins' σ' H' sI ∧ (∀ b o, sI.heap.get? b = some o → b ∉ frs X.stack → B.get? b = some o) ∧ sI.heap.UpToSlots s'.heap ∧
      HandSPX.FlyingZ B X.stack a (Zc cls d) s'.heap ∧ H' a = none ∧ s'.os = sI.os ∧ AllBare s'.gens ∧ E cls d H' := by
  obtain ⟨a, B, sI, pins', σ', H', cls, d, eu, J, nb, up, sky, na, os, ag, w⟩ := XE.of_call (W := fun cls d _ H' => E cls d H') I (fun _ _ _ h => h) c
  obtain ⟨a0, _, _, _, _, e0, fl0, _⟩ := c
  rw [eu] at e0
  cases e0
  obtain ⟨_, _, _, oe, vs, T, oT, ts, he, _, hd, h1, _, _, hT, hdT, h3⟩ := fl0
  refine ⟨a, B, sI, pins', σ', H', cls, d, eu, J, nb, up, ?_, na, os, ag, w⟩
  rcases sky with ⟨_, _, _, oe2, vs2, he2, _, hd2, h2⟩ | fl | ⟨_, _, _, oe2, vs2, T2, oT2, ts2, he2, _, hd2, h2, _, _, hT2, hdT2, h4⟩
  · rw [he] at he2
    cases he2
    rw [hd] at hd2
    cases hd2
    rw [h1] at h2
    cases h2
  · exact fl
  · rw [he] at he2
    cases he2
    rw [hd] at hd2
    cases hd2
    rw [h1] at h2
    cases h2
    rw [hT] at hT2
    cases hT2
    rw [hdT] at hdT2
    cases hdT2
    rw [h3] at h4
    unfold rawInt at h4
    cases h4
theorem blk_passes {s3 : Shared} {H3 : Hp} {scope : Scope} {cl : List (Str × Addr)} {fp : List Addr} (hs : X.stack = X.env :: X.outer) (hf : X.env.frame = some X.env.locals) (tk : Takes X (fun cls d _ H => E cls d H)) (I3 : Inv X pins σ H3 s3) (hfp : ∀ b ∈ fp, FpOk X pins H3 b) :
    Passes (L2.CX X.prog X.w) (blkR X s3 H3 scope (compEnvC scope cl s3.heap.objs.size X.env) fp) E := by
  intro pins1 σ1 H1 s1 e s' I1 c
  obtain ⟨a, B, sI, pins', σ', H', cls, d, rfl, J, nb, up, fl, na, os, ag, w⟩ := of_callF I1 c
  have hfr : X.A.frames = some (X.env :: X.outer) := by rw [I3.ok.frames, hs]
  have hstk : (blkR X s3 H3 scope (compEnvC scope cl s3.heap.objs.size X.env) fp).stack = X.env :: X.outer := hs
  rw [hstk] at fl
  have nb : ∀ b o, sI.heap.get? b = some o → b ∉ frs X.stack → B.get? b = some o := nb
  obtain ⟨C, hC⟩ : ∃ C, s3.heap.objs.size = C := ⟨_, rfl⟩
  obtain ⟨ce, hce⟩ : ∃ ce, compEnvC scope cl s3.heap.objs.size X.env = ce := ⟨_, rfl⟩
  have hcf : ce.frame = X.env.frame := by rw [← hce]; rfl
  have hcL : ce.locals = C := by rw [← hce, ← hC]; rfl
  show blkX X (compEnvC scope cl s3.heap.objs.size X.env) (.ref a) s'
  rw [hce]
  rw [hce] at J
  unfold blkX notedBy
  rw [noteFrame_env _ hcf]
  refine HandSPX.looks_onZ Zc.steady hfr hf fl fun h1 hh1 up1 => ?_
  obtain ⟨m, hm, _⟩ := J.loc
  have hn0 : sI.heap.Ns ce.locals m := hm
  have hn1 : h1.Ns ce.locals m := hn0.upToSlots (up.trans up1)
  refine ⟨m, hn1, fun h2 m2 hn2 sb => ?_⟩
  rw [hcL] at hn1 hn2 sb
  have notC : ∀ {b : Addr} {o : Obj} {vs : Array Value}, h1.get? b = some o → o.data = .fields vs → b ≠ C := fun {b o vs} e1 e2 z => by
    obtain ⟨oC, es, ep, hoC, hdC, _⟩ := hn1
    rw [z, hoC] at e1
    cases e1
    rw [hdC] at e2
    cases e2
  obtain ⟨b1, b0, f1, oe, vs, T, oT, ts, he, hz, hd, ht1, hnT, hTe, hT, hdT, ht3⟩ := hh1
  have hB : ∀ b o, (PySem.W.hideAll B [C]).get? b = some o → B.get? b = some o ∧ b ≠ C := fun b o q => ⟨PySem.W.of_hideAll _ q, fun z => by
    have := PySem.W.hideAll_none (h := B) [C] (b := b) (by simp [z])
    rw [this] at q
    cases q⟩
  have hBn : ∀ b, B.get? b = none → (PySem.W.hideAll B [C]).get? b = none := fun b q => by
    cases e1 : (PySem.W.hideAll B [C]).get? b with
    | none => rfl
    | some o => rw [(hB b o e1).1] at q; cases q
  have st2 : (PySem.W.hideAll B [C]).StaysIn h2 := fun b o q => by
    obtain ⟨q1, q2⟩ := hB b o q
    exact (sb.2 b q2).trans (b1 b o q1)
  have ff2 : h2.FunFrames (PySem.W.hideAll B [C]) (X.env :: X.outer) := funFrames_none (Heap.FunFrames.sameBut sb hn2 f1) fun L hL => hBn L (f1.mem hL).1
  have hh2 : HandSPX.HeldZ (PySem.W.hideAll B [C]) (X.env :: X.outer) a (Zc cls d) X.env.locals h2 :=
    ⟨st2, hBn a b0, ff2, oe, vs, T, oT, ts, (sb.2 a (notC he hd)).trans he, hz, hd, ht1, hBn T hnT, hTe, (sb.2 T (notC hT hdT)).trans hT, hdT, ht3⟩
  unfold PySem.passOn
  refine wpAny_bind (wpAny_field ((sb.2 a (notC he hd)).trans he) hd ht1 ?_)
  rw [if_neg (show ¬ ((Value.ref T == Value.none) = true) from by simp)]
  have nC : H' C = none := by
    have z : H' ce.locals = none := J.free
    rw [hcL] at z
    exact z
  have Jout : Inv X pins σ H' sI := I3.call' (ch := fp) J.os J.base J.hok J.bare fun b hb => ⟨(hfp b hb).2.2.2.1, (hfp b hb).2.1, (hfp b hb).2.2.2.2.1, (hfp b hb).2.2.2.2.2⟩
  obtain ⟨f0, fL, f2', f3', f4', f5'⟩ := I3.fpOk (Nat.le_of_eq hC) nC
  have Iout : Inv X pins σ H' { sI with heap := PySem.W.hideAll sI.heap [C] } := Jout.turned (t' := sI.toks) (it := C) (fun b o hb q => PySem.W.hideAll_get _ q (by simp [hb])) f0 fL f3' f4' f5'
  have hsI : ∀ b o, (PySem.W.hideAll sI.heap [C]).get? b = some o → sI.heap.get? b = some o ∧ b ≠ C := fun b o q => ⟨PySem.W.of_hideAll _ q, fun z => by
    have := PySem.W.hideAll_none (h := sI.heap) [C] (b := b) (by simp [z])
    rw [this] at q
    cases q⟩
  have fin : wpAny (model X.prog X.w) X.A (setFlight (.ref a) ce.frame) (fun _ s4 => wpAny (model X.prog X.w) X.A (throw (.ref a) : Sem Value) (fun _ _ => False) X.xe s4) X.xe { s' with heap := h2 } := by
    rw [hcf, hf]
    refine HandSPX.setFlight_onZ hh2 fun h3 hh3 up3 => wpAny_throw (tk _ _ ?_)
    refine ⟨a, PySem.W.hideAll B [C], { sI with heap := PySem.W.hideAll sI.heap [C] }, pins, σ, H', cls, d, rfl, Iout, fun b o q hb => ?_, fun b o q hnf => ?_, .inr (.inr (by rw [hs]; exact hh3)), na, os, ag, w⟩
    · obtain ⟨q1, q2⟩ := hsI b o q
      exact PySem.W.hideAll_get _ (nb b o q1 hb) (by simp [q2])
    · obtain ⟨q1, q2⟩ := hsI b o q
      obtain ⟨sl, k1⟩ := up b o q1 hnf
      obtain ⟨sl1, k2⟩ := up1 b _ k1 hnf
      obtain ⟨sl2, k3⟩ := up3 b _ ((sb.2 b q2).trans k2) hnf
      exact ⟨sl2, k3⟩
  first
    | exact wpAny_bind (wpAny_pure (wpAny_bind fin))
    | exact wpAny_bind fin
end
/-! ### the comprehension -/
section
variable {X : Cx} {E : XK}
theorem lc_coreR {pins : List (Addr × Obj)} {s : Shared} {σ : St} {H : Hp} {Q : VK} {elt tg iter : Expr} {ifs : List Expr} {scope : Scope} {own : List (Str × Nat)} {pos pos' : Pos} {wi : TI} {g : TG} {tt : TT} {te : TE} {use : Option (Value → Sem Unit)} {Qf : Value → Shared → Prop}
    (hst : X.stack = X.env :: X.outer) (hfm : X.env.frame = some X.env.locals) (tk : Takes X (fun cls d _ H => E cls d H)) (hc : X.calm = true) (hN : X.N.Nodup) (I : Inv X pins σ H s) (hi : PI X tg iter wi) (ok : BlkOk X.N X.env.scope scope own)
    (hg : ∀ (s : Shared) (H : Hp) (C : Addr) (cl : List (Str × Addr)) (fp : List Addr), PG (blkR X s H scope (compEnvC scope cl C X.env) fp) tg g) (ht : ∀ (s : Shared) (H : Hp) (C : Addr) (cl : List (Str × Addr)) (fp : List Addr), PTs (blkR X s H scope (compEnvC scope cl C X.env) fp) ifs tt)
    (he : ∀ (s : Shared) (H : Hp) (C : Addr) (cl : List (Str × Addr)) (fp : List Addr), Passes (L2.CX X.prog X.w) (blkR X s H scope (compEnvC scope cl C X.env) fp) E → PE (blkR X s H scope (compEnvC scope cl C X.env) fp) elt te) (hs : ∀ x, foldedSetIterable iter X.env x = pure x)
    (h : tLc wi g tt te (own.map (·.2)) σ H Q)
    (hRR : ∀ D C s' m H', Inv X pins σ H' s' → Q (.ref D) H' → s'.heap.Ns C m → FpOk X pins H' C → ∀ ce : Env, ce.locals = C → compEnds (model X.prog X.w) X.A X.xe use Qf (.ref D) ce (.ok .next) s') :
    wpAny (model X.prog X.w) X.A (comprehension (.ListComp elt [⟨tg, iter, ifs, 0⟩] scope pos) scope X.env pos' (newList []) false (eval iter X.env) use) Qf X.xe s := by
  have hfree : ∀ y ∈ scope.names, y.2 = .free → ∃ c, X.env.cells.lookup y.1 = some c := fun y hy e => by
    rcases ok.free y hy e with k | k
    · exact I.ok.has _ (.inl k)
    · exact I.ok.has _ (.inr k)
  refine comprehension_at (use := use) rfl hs (closure_ok hfree) ok.kind (fun y hy e => by rw [ok.uniq y hy, e])
    (thn (hi.run pins s σ H _ I h) fun xv s1 hx => thn hx fun itv s2 h2 => ?_)
  obtain ⟨it, fp, tn, J, H2, e, I2, T, st2, f2, q⟩ := h2
  subst e
  refine wpAny_newObj_type (newEnv_comp ?_) (by show 0 ≤ sizeLine; decide)
  generalize hD : s2.heap.objs.size = D
  have hDn : H2 D = none := I2.hok.fresh (Nat.le_of_eq hD)
  obtain ⟨W, ⟨m0, w0⟩, turn⟩ := q D hDn
  -- the new list
  generalize hs3 : ({ s2 with heap := s2.heap.push { cls := .type "list", data := .seq ([] : List Value).toArray } } : Shared) = s3
  have I3 : Inv X pins σ (upd H2 D (.lst [])) s3 := by
    rw [← hs3]
    refine I2.laid (t' := s2.toks) (fun b o e => Heap.get?_push_of_some _ e) (Nat.le_of_eq hD) ⟨Nat.zero_le _, [], 0, .nil, ?_⟩
    rw [← hD]
    exact Heap.get?_push_size _ rfl
  have h3 : s3.heap = s2.heap.push { cls := .type "list", data := .seq ([] : List Value).toArray } := by rw [← hs3]
  have sz : ∀ b ∈ fp, b < s2.heap.objs.size := fun b hb => by
    obtain ⟨o, e, _⟩ := T.obj _ _ st2 b hb
    exact Heap.lt_size e
  have f3 : ∀ b ∈ fp, FpOk X pins (upd H2 D (.lst [])) b ∧ b < s3.heap.objs.size := fun b hb => by
    have hlt := sz b hb
    refine ⟨⟨?_, (f2 b hb).2⟩, by rw [h3, Heap.size_push]; exact Nat.lt_succ_of_lt hlt⟩
    rw [upd_ne (by rw [← hD]; exact Nat.ne_of_lt hlt)]
    exact (f2 b hb).1
  have st3 : tn 0 s3.heap := T.keep _ _ _ st2 fun b _ o e => by rw [h3]; exact Heap.get?_push_of_some _ e
  have I4 := inv_xe (xe := blkX X (compEnvC scope (cellsFrom (s3.heap.objs.size + 1) scope.names (cloFrom X.env.cells scope.names [])) s3.heap.objs.size X.env)) (block_start I3 ok hN f3)
  have pg := hg s3 (upd H2 D (.lst [])) s3.heap.objs.size (cellsFrom (s3.heap.objs.size + 1) scope.names (cloFrom X.env.cells scope.names [])) fp
  have pt := ht s3 (upd H2 D (.lst [])) s3.heap.objs.size (cellsFrom (s3.heap.objs.size + 1) scope.names (cloFrom X.env.cells scope.names [])) fp
  have pe := he s3 (upd H2 D (.lst [])) s3.heap.objs.size (cellsFrom (s3.heap.objs.size + 1) scope.names (cloFrom X.env.cells scope.names [])) fp (blk_passes hst hfm tk I3 fun b hb => (f3 b hb).1)
  show codeAny _ _ (.compStart (.ListComp elt [⟨tg, iter, ifs, 0⟩] scope pos) 0 (.ref it) (.ref D) (compEnvC scope (cellsFrom (s3.heap.objs.size + 1) scope.names (cloFrom X.env.cells scope.names [])) s3.heap.objs.size X.env)) (compEnds (model X.prog X.w) X.A X.xe use Qf (.ref D) (compEnvC scope (cellsFrom (s3.heap.objs.size + 1) scope.names (cloFrom X.env.cells scope.names [])) s3.heap.objs.size X.env)) { s3 with heap := pushCells (s3.heap.push { cls := .type "dict", data := .dict #[] }) scope.names }
  have nfp : ∀ b ∈ fp, (upd H2 D (.lst [])) b = none := fun b hb => (f3 b hb).1.1
  generalize hce : compEnvC scope (cellsFrom (s3.heap.objs.size + 1) scope.names (cloFrom X.env.cells scope.names [])) s3.heap.objs.size X.env = ce at I4 pg pt pe ⊢
  have cL : ce.locals = s3.heap.objs.size := by subst hce; rfl
  generalize hH3 : upd H2 D (.lst []) = H3 at I3 I4 pg pt pe w0 nfp f3
  generalize hs4 : ({ s3 with heap := pushCells (s3.heap.push { cls := .type "dict", data := .dict #[] }) scope.names } : Shared) = s4 at I4 ⊢
  have st4 : tn 0 s4.heap := T.keep _ _ _ st3 fun b _ o e => by rw [← hs4]; exact pushCells_keeps _ _ _ _ (Heap.get?_push_of_some _ e)
  have stat : ∀ {σ' : St} {H' : Hp} {s' : Shared}, Inv (blkR X s3 H3 scope ce fp) [] σ' H' s' → (∀ b ∈ fp, H' b = none) → ∀ b ∈ fp, FpOk (blkR X s3 H3 scope ce fp) [] H' b := fun {σ' H' s'} I' hn b hb =>
    ⟨hn b hb, (I'.ok.exf b hb).1, I'.ok.exfs b hb, .inl hb, fun x c e => (I'.ok.exf b hb).2 x c e, fun p hp => absurd (show p ∈ ([] : List (Addr × Obj)) ++ [] from hp) (by simp)⟩
  have loop : codeAny (model X.prog X.w) X.A (.compLoop (.ListComp elt [⟨tg, iter, ifs, 0⟩] scope pos) 0 (.ref it) (.ref D) ce) (compEnds (model X.prog X.w) X.A X.xe use Qf (.ref D) ce) s4 := by
    refine compLoop_any (fun n s' => ∃ i H', Inv (blkR X s3 H3 scope ce fp) [] (L2.wipe σ (own.map (·.2))) H' s' ∧ tn i s'.heap ∧ (∀ b ∈ fp, H' b = none) ∧ W i n H') ?_ m0 ⟨0, H3, I4, st4, nfp, w0⟩
    rintro n s5 ⟨i, H5, I5, st5, n5, w5⟩
    rcases turn i n H5 w5 with ⟨stop, qq⟩ | ⟨go, Nx, hNx, step⟩
    · have td := T.done (blkR X s3 H3 scope ce fp) rfl rfl rfl hc i [] s5 _ H5 (fun _ _ => False) I5 (stat I5 n5) st5 stop
      refine thnF td fun r s6 ⟨hr, I6⟩ => ?_
      subst hr
      -- back in the def's context
      have I7 : Inv X pins σ H5 s6 := I3.call' (ch := fp) I6.os I6.base I6.hok I6.bare fun b hb => ⟨(f3 b hb).1.2.2.2.1, (f3 b hb).1.2.1, (f3 b hb).1.2.2.2.2.1, (f3 b hb).1.2.2.2.2.2⟩
      have nC : H5 s3.heap.objs.size = none := by
        have z : H5 ce.locals = none := I6.free
        rw [cL] at z
        exact z
      obtain ⟨m, hn, _⟩ := I6.loc
      have hn : s6.heap.Ns ce.locals m := hn
      rw [cL] at hn
      exact hRR D s3.heap.objs.size s6 m H5 I7 qq hn (I3.fpOk (Nat.le_refl _) nC) ce cL
    · have ti := T.item (blkR X s3 H3 scope ce fp) rfl rfl rfl hc i [] s5 _ H5 (fun _ _ => False) I5 (stat I5 n5) st5 go
      refine thnF ti fun r s6 ⟨u, hr, h6⟩ => ?_
      subst hr
      refine thnF h6 fun _ s7 ⟨x, H7, I7, r7, y7, st7, n7⟩ => ?_
      have I7' := I7.pinned (stat I7 n7) (T.obj _ _ st7)
      refine thn (pg.run _ s7 _ H7 x u _ I7' r7 (step x H7 y7)) fun _ s8 ⟨σ8, H8, I8, hw8, q8⟩ => ?_
      refine thn (pt.run _ s8 σ8 H8 _ I8 q8) fun b s9 ⟨H9, I9, q9⟩ => ?_
      -- the turn's end
      have fin : ∀ {s' : Shared} {H' : Hp}, Inv (blkR X s3 H3 scope ce fp) ([] ++ pinsAt fp s7.heap) σ8 H' s' → Nx H' → ∃ m, m < n ∧ ∃ i H', Inv (blkR X s3 H3 scope ce fp) [] (L2.wipe σ (own.map (·.2))) H' s' ∧ tn i s'.heap ∧ (∀ b ∈ fp, H' b = none) ∧ W i m H' := fun {s' H'} I' nx => by
        obtain ⟨m', hm, w'⟩ := hNx H' nx
        have pin' : ∀ b ∈ fp, ∀ o, s7.heap.get? b = some o → s'.heap.get? b = some o ∧ H' b = none := fun b hb o e =>
          let z := I'.pin (b, o) (List.mem_append_right _ (List.mem_append_right _ (mem_pinsAt hb e)))
          ⟨z.1, z.2.1⟩
        have hl : (L2.wipe σ (own.map (·.2))).length = σ8.length := by rw [← hw8, L2.wipe_length]
        refine ⟨m', hm, i + 1, H', (I'.unpinned (pins := [])).weak hl (fun j v e => ?_), T.keep _ _ _ st7 fun b hb o e => (pin' b hb o e).1, fun b hb => ?_, w'⟩
        · rw [← hw8] at e
          exact (L2.wipe_some e).1
        · obtain ⟨o, e, _⟩ := T.obj _ _ st7 b hb
          exact (pin' b hb o e).2
      cases b with
      | false =>
        simp only [Bool.false_eq_true, if_false] at q9 ⊢
        exact fin I9 q9
      | true =>
        simp only [if_true] at q9 ⊢
        refine thn (pe.run _ s9 σ8 H9 _ I9 q9) fun z s10 ⟨yv, H10, I10, r10, acc, hD10, hz10, nx⟩ => ?_
        exact app_ok (X := blkR X s3 H3 scope ce fp) I10 hD10 hz10 r10 fun s11 I11 => fin I11 nx
  exact codeAny_compStart_list loop (T.self X.A 0 _ _ _ st4 loop)

theorem ps_setLcR {i : Nat} {y : Str} {py : Pos} {elt tg iter : Expr} {ifs : List Expr} {scope : Scope} {own : List (Str × Nat)} {pos spos : Pos} {wi : TI} {g : TG} {tt : TT} {te : TE} (hst : X.stack = X.env :: X.outer) (hfm : X.env.frame = some X.env.locals) (tk : Takes X (fun cls d _ H => E cls d H)) (hc : X.calm = true) (hN : X.N.Nodup) (hy : X.N[i]? = some y) (hyl : X.env.scope.names.lookup y = some .local)
    (hsw : swapsWith (.ListComp elt [⟨tg, iter, ifs, 0⟩] scope pos) (some (.Name y py)) spos.line X.env = pure true) (hi : PI X tg iter wi) (ok : BlkOk X.N X.env.scope scope own)
    (hg : ∀ (s : Shared) (H : Hp) (C : Addr) (cl : List (Str × Addr)) (fp : List Addr), PG (blkR X s H scope (compEnvC scope cl C X.env) fp) tg g) (ht : ∀ (s : Shared) (H : Hp) (C : Addr) (cl : List (Str × Addr)) (fp : List Addr), PTs (blkR X s H scope (compEnvC scope cl C X.env) fp) ifs tt)
    (he : ∀ (s : Shared) (H : Hp) (C : Addr) (cl : List (Str × Addr)) (fp : List Addr), Passes (L2.CX X.prog X.w) (blkR X s H scope (compEnvC scope cl C X.env) fp) E → PE (blkR X s H scope (compEnvC scope cl C X.env) fp) elt te) (hs : ∀ x, foldedSetIterable iter X.env x = pure x := by intro _; rfl) :
    PS X (.Assign [.Name y py] (.ListComp elt [⟨tg, iter, ifs, 0⟩] scope pos) spos) (tAsg (tLc wi g tt te (own.map (·.2))) (gName i)) := by
  refine ⟨fun pins s σ H D I h => ?_⟩
  rw [exec_Assign_Name_used _ _ _ _ hsw]
  refine wpAny_bind (wpAny_standAt (wpAny_bind ?_))
  show wpAny _ X.A (do let _ ← comprehension (.ListComp elt [⟨tg, iter, ifs, 0⟩] scope pos) scope X.env (firstIterPos [⟨tg, iter, ifs, 0⟩] pos) (newList []) false (eval iter X.env) (some (assign (.Name y py) X.env))) _ _ s
  have h : tLc wi g tt te (own.map (·.2)) σ H (fun x H1 => gName i x σ H1 D.nx) := h
  refine wpAny_bind (thn (lc_coreR (Qf := fun _ s' => SP X pins D .next s') hst hfm tk hc hN I hi ok hg ht he hs h fun L C s' m H' I' q hn f ce hce => ?_) fun _ s' hq => wpAny_pure (wpAny_pure hq))
  subst hce
  show wpAny _ _ (assign (.Name y py) X.env (.ref L)) _ _ _
  refine wpAny_assign_Name (store_ok2 (v := V.ref L) I' hN hy (.inl hyl) rfl (fun s2 I2 ⟨a, sb, ha⟩ => ?_) (.inr hyl))
  obtain ⟨f0, f1, f2, f3, f4, f5⟩ := f
  have haC : ce.locals ≠ a := by
    rcases ha with z | z
    · rw [z]; exact f1
    · exact fun e => f4 y a z e.symm
  refine ⟨m, hn.sameBut sb haC, fun h3 sb3 => ?_⟩
  exact ⟨_, H', I2.turned (t' := s2.toks) (fun b o hb e => (sb3.2 b hb).trans e) f0 f1 f3 f4 f5, q⟩
end
/-! ### its reading -/
def noErrT (t : MT) : MT := fun ρ S => match t ρ S with
  | .ok b S1 => .ok b S1
  | _ => .stuck
def mLcIR (it : MI) (own : List Nat) (g : MG) (t : MT) (m : ME) : Env' → Sto → R (List W) := fun ρ S => (it ρ S).bind fun wi S1 => if wi.ws.length ≤ 100000 then lcGo g (noErrT t) m (wipeW ρ own) wi wi.ws S1 else .stuck
def mLcR (it : MI) (own : List Nat) (g : MG) (t : MT) (m : ME) : ME := fun ρ S => (mLcIR it own g t m ρ S).bind fun ys S2 => .ok (.lst ys) S2
section
variable {X : Cx} {G : Glo} {E : XK} {e tg iter : Expr} {mi : MI} {mt : MT} {me : ME} {pos : Pos} {g : TG} {t : MG} {is own : List Nat} {Q : VK} {σ : St} {Z : Addr → Prop} {μ : List Addr} {H : Hp} {S : Sto}
theorem lc_readsR (hg : GM G is g t) (his : ∀ i ∈ is, i ∈ own) (fin : List W → Sto → R W) {m : ME} (hm : ∀ ρ S, m ρ S = (mLcIR mi own t mt me ρ S).bind fin)
    (hfin : ∀ (Z1 : Addr → Prop) (μ1 : List Addr) (H1 : Hp) (ys : List W) (acc : List V) (D : Addr) (Z : Addr → Prop) (μ : List Addr) (H : Hp) (S : Sto), H1 D = none → (∀ a, Z1 a → ∃ o, H1 a = some o ∧ isMut o = true ∧ isTbl o = false) → Grow Z1 μ1 H1 Z μ H → Rel G Z μ H S → Z D → D ∉ μ → H D = some (.lst acc) → VRs G Z μ H ys acc →
      Aft G E Z1 μ1 H1 (fin ys S) (PQ G Q) → Q (.ref D) H)
    (h : tM G E m σ H Q) : tLc (tI G E mi) g (tMT G E0' mt) (tM G E me) own σ H Q := by
  obtain ⟨ρ, S, Z, μ, r, er, af⟩ := h
  rw [hm] at af
  unfold mLcIR at af
  rw [R.bind_bind] at af
  refine ⟨ρ, S, Z, μ, r, er, Aft.imp (Aft.bind af) fun wi Z1 μ1 H1 S1 _ g1 r1 a1 J hJ D hD => ?_⟩
  by_cases hlen : wi.ws.length ≤ 100000
  case neg => rw [if_neg hlen] at a1; exact a1.elim
  rw [if_pos hlen] at a1
  obtain ⟨res, e2⟩ : ∃ res, lcGo t (noErrT mt) me (wipeW ρ own) wi wi.ws S1 = res := ⟨_, rfl⟩
  · rw [e2] at a1
    have a1 : Aft G E Z1 μ1 H1 (res.bind fin) (PQ G Q) := a1
    have er1 := er.mono r g1
    have nDm : D ∉ μ1 := fun z => r1.fresh hD (r1.mz D z)
    have g0 : Grow Z1 μ1 H1 (fun a => Z1 a ∨ a = D) μ1 (upd H1 D (.lst [])) := ⟨⟨[], by simp, fun a h => by simp at h⟩, fun a h => h.elim .inl fun e => .inr (by rw [e]; exact hD), fun _ h => .inl h, fun a u h _ _ => by rw [upd_ne (ne_of_none h hD)]; exact h, fun a u h => ⟨u, by rw [upd_ne (ne_of_none h hD)]; exact h⟩⟩
    have r0 : Rel G (fun a => Z1 a ∨ a = D) μ1 (upd H1 D (.lst [])) S1 := by
      refine ⟨r1.len, r1.nd, fun a h => .inl (r1.mz a h), fun a h => ?_, G.invk _ _ (fun b u h _ => by rw [upd_ne (ne_of_none h hD)]; exact h) r1.inv, fun n a u h1 h2 => ?_⟩
      · rcases h with h | h
        · obtain ⟨u, h1, h2⟩ := r1.zm a h
          exact ⟨u, by rw [upd_ne (ne_of_none h1 hD)]; exact h1, h2⟩
        · subst h; exact ⟨_, upd_same, rfl, rfl⟩
      · obtain ⟨u', hu⟩ := r1.some h1
        exact OR.mono r1 g0 (upd_ne (ne_of_none hu hD)) (r1.ob n a u h1 h2)
    refine ⟨fun i m H => ∃ S Z μ acc accW, Rel G Z μ H S ∧ Z D ∧ D ∉ μ ∧ H D = some (.lst acc) ∧ VRs G Z μ H accW acc ∧ ER G Z μ H (wipeW ρ own) (L2.wipe σ own) ∧ Grow Z1 μ1 H1 Z μ H ∧ i ≤ wi.ws.length ∧ m = wi.ws.length - i ∧ acc.length ≤ i ∧
        (lcGo t (noErrT mt) me (wipeW ρ own) wi (wi.ws.drop i) S).bind (fun ys S' => .ok (accW ++ ys) S') = res, ⟨wi.ws.length, S1, _, μ1, [], [], r0, .inr rfl, nDm, upd_same, VRs.nil, (er1.wipe own).mono r1 g0, g0, Nat.zero_le _, rfl, Nat.le_refl _, ?_⟩, ?_⟩
    · rw [List.drop_zero, e2]; cases res <;> rfl
    rintro i m H2 ⟨S2, Z2, μ2, acc, accW, r2, zD, nD, hDa, hacc, er2, g2, hi, rfl, hal, eq⟩
    by_cases hlt : i < wi.ws.length
    · rw [List.drop_eq_getElem_cons hlt] at eq
      have hw : wi.ws[i]? = some wi.ws[i] := List.getElem?_eq_getElem hlt
      unfold lcGo at eq
      cases st : wi.stays S2 with
      | false => rw [st, if_neg Bool.false_ne_true] at eq; rw [← eq] at a1; exact a1.elim
      | true =>
      rw [st, if_pos rfl] at eq
      obtain ⟨hgo, hy⟩ := hJ.go Z2 μ2 H2 S2 g2 r2 st i _ hw
      refine .inr ⟨hgo, fun H' => ∃ S Z μ acc accW, Rel G Z μ H' S ∧ Z D ∧ D ∉ μ ∧ H' D = some (.lst acc) ∧ VRs G Z μ H' accW acc ∧ ER G Z μ H' (wipeW ρ own) (L2.wipe σ own) ∧ Grow Z1 μ1 H1 Z μ H' ∧ acc.length ≤ i + 1 ∧
        (lcGo t (noErrT mt) me (wipeW ρ own) wi (wi.ws.drop (i + 1)) S).bind (fun ys S' => .ok (accW ++ ys) S') = res, ?_, ?_⟩
      · rintro H' ⟨S3, Z3, μ3, acc3, accW3, q1, q2, q3, q4, q5, q6, q7, q8, q9⟩
        exact ⟨wi.ws.length - (i + 1), by omega, S3, Z3, μ3, acc3, accW3, q1, q2, q3, q4, q5, q6, q7, hlt, rfl, q8, q9⟩
      · intro x H' hyx
        obtain ⟨hk, hv⟩ := hy x H' hyx
        obtain ⟨r3, g3⟩ := r2.ext hk
        have er3 := er2.mono r2 g3
        cases e3 : t wi.ws[i] (wipeW ρ own) with
        | none => rw [e3] at eq; rw [← eq] at a1; exact a1.elim
        | some ρ4 =>
          rw [e3] at eq
          simp only [R.bind_bind] at eq
          refine hg _ _ ρ4 x (L2.wipe σ own) Z2 μ2 H' S2 _ r3 hv er3 e3 fun σ4 er4 hwp => ⟨(hwp own his).trans wipe_wipe, ?_⟩
          refine ⟨ρ4, S2, Z2, μ2, r3, er4, ?_⟩
          cases e4 : mt ρ4 S2 with
          | err c S5 => simp only [noErrT, e4, R.bind_stuck] at eq; rw [← eq] at a1; exact a1.elim
          | stuck => simp only [noErrT, e4, R.bind_stuck] at eq; rw [← eq] at a1; exact a1.elim
          | ok b S5 =>
            simp only [noErrT, e4, R.bind_ok] at eq
            refine fun Z5 μ5 H5 g5 r5 => ?_
            have g25 := Grow.trans r3 (Grow.trans r2 g2 g3) g5
            have hD' : H' D = some (.lst acc) := hk _ _ hDa
            have hD5 : H5 D = some (.lst acc) := g5.keep _ _ hD' nD rfl
            have nD5 : D ∉ μ5 := by
              obtain ⟨e, rfl, fe⟩ := g5.mu
              intro z
              rcases List.mem_append.mp z with z | z
              · exact nD z
              · rw [fe D z] at hD'; cases hD'
            have zD5 : Z5 D := g5.zk D zD
            have hacc5 := (hacc.mono r2 g3).mono r3 g5
            have er5 := er3.mono r3 g5
            cases b with
            | false =>
              unfold PB
              dsimp only
              rw [if_neg Bool.false_ne_true]
              exact ⟨S5, Z5, μ5, acc, accW, r5, zD5, nD5, hD5, hacc5, er5, g25, by omega, eq⟩
            | true =>
              unfold PB
              dsimp only
              rw [if_pos rfl]
              refine ⟨ρ4, S5, Z5, μ5, r5, er4.mono r3 g5, ?_⟩
              cases e6 : me ρ4 S5 with
              | err c S6 =>
                simp only [R.bind_bind, e6, R.bind_err] at eq
                rw [← eq, R.bind_err] at a1
                exact fun Z6 μ6 H6 g6 r6 => a1 Z6 μ6 H6 (Grow.trans r5 g25 g6) r6
              | stuck => simp only [R.bind_bind, e6, R.bind_stuck] at eq; rw [← eq] at a1; exact a1.elim
              | ok y S6 =>
                simp only [R.bind_bind, e6, R.bind_ok] at eq
                refine fun Z6 μ6 H6 g6 r6 v hvy => ?_
                have hD6 : H6 D = some (.lst acc) := g6.keep _ _ hD5 nD5 rfl
                have nD6 : D ∉ μ6 := by
                  obtain ⟨e, rfl, fe⟩ := g6.mu
                  intro z
                  rcases List.mem_append.mp z with z | z
                  · exact nD5 z
                  · rw [fe D z] at hD5; cases hD5
                have zD6 : Z6 D := g6.zk D zD5
                have fo : Foreign Z6 H6 D := ⟨zD6, _, hD6, rfl, rfl⟩
                have g26 := Grow.trans r5 g25 g6
                refine ⟨acc, hD6, Nat.lt_of_le_of_lt (Nat.le_trans hal (Nat.le_trans hi hlen)) (by decide), S6, Z6, μ6, acc ++ [v], accW ++ [y], r6.foreign fo nD6 ⟨rfl, rfl⟩, zD6, nD6, upd_same, VRs.foreign fo ((hacc5.mono r5 g6).append (VRs.cons hvy VRs.nil)), (er5.mono r5 g6).foreign fo, ?_, by simp; omega, ?_⟩
                · obtain ⟨k1, k2, k3, k4, k5⟩ := g26
                  exact ⟨k1, k2, k3, fun a o h hm ht => by rw [upd_ne (ne_of_none h hD)]; exact k4 a o h hm ht, fun a o h => let ⟨u, hu⟩ := k5 a o h; ⟨u, by rw [upd_ne (ne_of_none h hD)]; exact hu⟩⟩
                · rw [← eq]
                  congr 1
                  funext ys S3
                  rw [List.append_assoc]
                  rfl
    · have e : i = wi.ws.length := by omega
      subst e
      rw [List.drop_length] at eq
      unfold lcGo at eq
      cases st : wi.stays S2 with
      | false => rw [st, if_neg Bool.false_ne_true] at eq; rw [← eq] at a1; exact a1.elim
      | true =>
      rw [st, if_pos rfl] at eq
      have eq' : R.ok (accW ++ []) S2 = res := eq
      rw [List.append_nil] at eq'
      rw [← eq', R.bind_ok] at a1
      exact .inl ⟨hJ.stop Z2 μ2 H2 S2 g2 r2 st, hfin Z1 μ1 H1 accW acc D Z2 μ2 H2 S2 hD r1.zm g2 r2 zD nD hDa hacc a1⟩
theorem lc_frozenR (hg : GM G is g t) (his : ∀ i ∈ is, i ∈ own) (h : tM G E (mLcR mi own t mt me) σ H Q) : tLc (tI G E mi) g (tMT G E0' mt) (tM G E me) own σ H Q := by
  refine lc_readsR hg his (fun ys S2 => .ok (.lst ys) S2) (fun _ _ => rfl) (fun Z1 μ1 H1 ys acc D Z μ H S hD hz1 g r zD nD hDa hacc a1 => ?_) h
  have hz : ∀ a, (Z a ∧ a ≠ D) → Z a := fun a h => h.1
  have g' : Grow Z1 μ1 H1 (fun a => Z a ∧ a ≠ D) μ H := ⟨g.mu, fun a h => g.zz a h.1, fun a h => ⟨g.zk a h, fun e => by
    obtain ⟨o, h1, _⟩ := hz1 a h
    rw [e, hD] at h1; cases h1⟩, g.keep, g.th⟩
  refine a1 (fun a => Z a ∧ a ≠ D) μ H g' (r.lessZ hz fun a h => ⟨r.mz a h, fun e => nD (by rw [← e]; exact h)⟩) _ ?_
  unfold VR
  exact ⟨D, acc, rfl, hDa, fun h => h.2 rfl, VRs.lessZ hz hacc⟩
end
section
variable {X : Cx} {G : Glo} {E : XK} {elt tg iter : Expr} {ifs : List Expr} {scope : Scope} {own : List (Str × Nat)} {mi : MI} {mt : MT} {me : ME} {pos spos : Pos} {g : TG} {t : MG} {is : List Nat}
theorem sm_setLcR {i : Nat} {y : Str} {py : Pos} (hst : X.stack = X.env :: X.outer) (hfm : X.env.frame = some X.env.locals) (tk : Takes X (fun cls d _ H => E cls d H)) (hg : GM G is g t) (his : ∀ i ∈ is, i ∈ own.map (·.2)) (hc : X.calm = true) (hN : X.N.Nodup) (hy : X.N[i]? = some y) (hyl : X.env.scope.names.lookup y = some .local)
    (hsw : swapsWith (.ListComp elt [⟨tg, iter, ifs, 0⟩] scope pos) (some (.Name y py)) spos.line X.env = pure true) (hi : PI X tg iter (tI G E mi)) (ok : BlkOk X.N X.env.scope scope own)
    (hp : ∀ (s : Shared) (H : Hp) (C : Addr) (cl : List (Str × Addr)) (fp : List Addr), PG (blkR X s H scope (compEnvC scope cl C X.env) fp) tg g) (ht : ∀ (s : Shared) (H : Hp) (C : Addr) (cl : List (Str × Addr)) (fp : List Addr), PTs (blkR X s H scope (compEnvC scope cl C X.env) fp) ifs (tMT G E0' mt))
    (he : ∀ (s : Shared) (H : Hp) (C : Addr) (cl : List (Str × Addr)) (fp : List Addr), Passes (L2.CX X.prog X.w) (blkR X s H scope (compEnvC scope cl C X.env) fp) E → PE (blkR X s H scope (compEnvC scope cl C X.env) fp) elt (tM G E me)) (hs : ∀ x, foldedSetIterable iter X.env x = pure x := by intro _; rfl) :
    PS X (.Assign [.Name y py] (.ListComp elt [⟨tg, iter, ifs, 0⟩] scope pos) spos) (tS G E (mSet i (mLcR mi (own.map (·.2)) t mt me))) := (ps_setLcR hst hfm tk hc hN hy hyl hsw hi ok hp ht he hs).weak fun D σ H h => setAny_reads (fun Q q => lc_frozenR hg his q) h
end
end Mo


namespace Fn
open Mo PySem
def is_whole (thing : Int) : Bool := (true && (!false))
def is_upto (thing : Int) (low : Int) (high : Int) : Bool := ((is_whole thing) && (decide (low ≤ thing) && decide (thing ≤ high)))
def is_row (many : Int) (thing : (List Int)) : Bool := (true && ((decide ((thing.length : Int) = many)) && ((thing.map fun x3 => (is_upto x3 (0 : Int) (many - (1 : Int)))).all id)))
def Safe_is_row (many : Int) (thing : (List Int)) : Prop := ((true = true → (((decide ((thing.length : Int) = many)) = true → (thing.length ≤ 100000)))))
def kinds_in_st2  (s2 : (List (Int × Bool))) (y2 : Int) : (List (Int × Bool)) := (dput s2 y2 true)
def kinds_in_lp2  (xs : List Int) (s0 : (List (Int × Bool))) : (List (Int × Bool)) := xs.foldl (kinds_in_st2 ) s0
def kinds_in_st1  (s1 : (List (Int × Bool))) (y1 : (List Int)) : (List (Int × Bool)) := (kinds_in_lp2  y1 s1)
def kinds_in_lp1  (xs : List (List Int)) (s0 : (List (Int × Bool))) : (List (Int × Bool)) := xs.foldl (kinds_in_st1 ) s0
def kinds_in (rows_ : (List (List Int))) : (List Int) := (sortI ((kinds_in_lp1  rows_ ([] : (List (Int × Bool)))).map Prod.fst))
def Safe_kinds_in (rows_ : (List (List Int))) : Prop := ((∀ (preq9 : List (List Int)) (xq9 : (List Int)) (postq9 : List (List Int)), rows_ = preq9 ++ xq9 :: postq9 → ((∀ (preq18 : List Int) (xq18 : Int) (postq18 : List Int), xq9 = preq18 ++ xq18 :: postq18 → ((kinds_in_lp2  preq18 (kinds_in_lp1  preq9 ([] : (List (Int × Bool))))).length < 100000 ∧ ((kinds_in_lp2  preq18 (kinds_in_lp1  preq9 ([] : (List (Int × Bool))))).map Prod.fst).Nodup)))) ∧ (kinds_in_lp1  rows_ ([] : (List (Int × Bool)))).length < 64)
def is_table_ex1 (thing : (List (List Int))) (y1 : (Int × (List Int))) : Option Bool := (if (!(((enm y1.2).map fun x9 => ((decide ((decide (x9.2 = (0 : Int))) = (decide (y1.1 = x9.1)))) && (decide (x9.2 = (gI (gI thing x9.1) y1.1))))).all id)) then some false else none)
def is_table (thing : (List (List Int))) : Bool := (if ((!true) || (!(decide ((1 : Int) ≤ (thing.length : Int)) && decide ((thing.length : Int) ≤ (8 : Int))))) then false else (if (!((thing.map fun x5 => (is_row (thing.length : Int) x5)).all id)) then false else (((enm thing).findSome? (is_table_ex1 thing)).getD (decide ((kinds_in thing) = (rg ((kinds_in thing).length : Int)))))))
def Safe_is_table (thing : (List (List Int))) : Prop := ((((!true) || (!(decide ((1 : Int) ≤ (thing.length : Int)) && decide ((thing.length : Int) ≤ (8 : Int))))) = false → (thing.length ≤ 100000 ∧ (∀ x18 ∈ thing, (Safe_is_row (thing.length : Int) x18)) ∧ ((!((thing.map fun x18 => (is_row (thing.length : Int) x18)).all id)) = false → ((∀ xq22 ∈ (enm thing), ((enm xq22.2).length ≤ 100000 ∧ (∀ x35 ∈ (enm xq22.2), (((decide ((decide (x35.2 = (0 : Int))) = (decide (xq22.1 = x35.1)))) = true → ((0 ≤ x35.1 ∧ x35.1 < thing.length) ∧ (0 ≤ xq22.1 ∧ xq22.1 < (gI thing x35.1).length))))))) ∧ Safe_kinds_in thing ∧ Safe_kinds_in thing ∧ (-100000 < ((kinds_in thing).length : Int) ∧ ((kinds_in thing).length : Int) < 100000))))))
def named (rows_ : (List (List Int))) : (List (List Int)) := (rows_.map fun x3 => (x3.map fun x5 => ((sortU ((rows_.map fun x1 => x1).flatten)).idxOf x5 : Int)))
def Safe_named (rows_ : (List (List Int))) : Prop := (rows_.length ≤ 100000 ∧ (rows_.map fun x7 => x7).flatten.length ≤ 16000 ∧ (∀ x ∈ (rows_.map fun x7 => x7), x.length ≤ 300) ∧ ((rows_.map fun x7 => x7).flatten).length < 4000 ∧ (dedupI ((rows_.map fun x7 => x7).flatten)).length < 64 ∧ rows_.length ≤ 100000 ∧ (∀ x9 ∈ rows_, (x9.length ≤ 100000 ∧ (∀ x11 ∈ x9, (x11 ∈ (sortU ((rows_.map fun x7 => x7).flatten)))))))
def whole (thing : Int) : Bool := (true && (!false))
def law_is_table_ex1 (thing : (List (List Int))) (y1 : (List Int)) : Option Bool := (if ((!true) || ((!decide ((y1.length : Int) = (thing.length : Int))))) then some false else (if ((!decide (((y1.filter fun x8 => ((!(whole x8)) || (!(decide ((0 : Int) ≤ x8) && decide (x8 < (thing.length : Int)))))).map fun x8 => x8) = []))) then some false else none))
def law_is_table_st3 (thing : (List (List Int))) (y2 : Int) (s3 : (List (Int × Bool))) (y3 : Int) : (List (Int × Bool)) := (dput s3 (gI (gI thing y2) y3) true)
def law_is_table_lp3 (thing : (List (List Int))) (y2 : Int) (xs : List Int) (s0 : (List (Int × Bool))) : (List (Int × Bool)) := xs.foldl (law_is_table_st3 thing y2) s0
def law_is_table_ex3 (thing : (List (List Int))) (y2 : Int) (y3 : Int) : Option Bool := (if (((!decide ((decide ((gI (gI thing y2) y3) = (0 : Int))) = (decide (y2 = y3))))) || ((!decide ((gI (gI thing y2) y3) = (gI (gI thing y3) y2))))) then some false else none)
def law_is_table_st2 (thing : (List (List Int))) (s2 : (List (Int × Bool))) (y2 : Int) : (List (Int × Bool)) := (law_is_table_lp3 thing y2 (rg (thing.length : Int)) s2)
def law_is_table_lp2 (thing : (List (List Int))) (xs : List Int) (s0 : (List (Int × Bool))) : (List (Int × Bool)) := xs.foldl (law_is_table_st2 thing) s0
def law_is_table_ex2 (thing : (List (List Int))) (y2 : Int) : Option Bool := (((rg (thing.length : Int)).findSome? (law_is_table_ex3 thing y2)).or none)
def law_is_table (thing : (List (List Int))) : Bool := (if ((!true) || (!(decide ((1 : Int) ≤ (thing.length : Int)) && decide ((thing.length : Int) ≤ (8 : Int))))) then false else ((thing.findSome? (law_is_table_ex1 thing)).getD (((rg (thing.length : Int)).findSome? (law_is_table_ex2 thing)).getD (decide ((sortI ((law_is_table_lp2 thing (rg (thing.length : Int)) ([] : (List (Int × Bool)))).map Prod.fst)) = (rg ((law_is_table_lp2 thing (rg (thing.length : Int)) ([] : (List (Int × Bool)))).length : Int)))))))
def Safe_law_is_table (thing : (List (List Int))) : Prop := ((((!true) || (!(decide ((1 : Int) ≤ (thing.length : Int)) && decide ((thing.length : Int) ≤ (8 : Int))))) = false → ((∀ xq27 ∈ thing, ((((!true) || ((!decide ((xq27.length : Int) = (thing.length : Int))))) = false → (xq27.length ≤ 100000)))) ∧ (-100000 < (thing.length : Int) ∧ (thing.length : Int) < 100000) ∧ (∀ (preq54 : List Int) (xq54 : Int) (postq54 : List Int), (rg (thing.length : Int)) = preq54 ++ xq54 :: postq54 → ((-100000 < (thing.length : Int) ∧ (thing.length : Int) < 100000) ∧ (∀ (preq64 : List Int) (xq64 : Int) (postq64 : List Int), (rg (thing.length : Int)) = preq64 ++ xq64 :: postq64 → ((0 ≤ xq54 ∧ xq54 < thing.length) ∧ (0 ≤ xq64 ∧ xq64 < (gI thing xq54).length) ∧ (law_is_table_lp3 thing xq54 preq64 (law_is_table_lp2 thing preq54 ([] : (List (Int × Bool))))).length < 100000 ∧ ((law_is_table_lp3 thing xq54 preq64 (law_is_table_lp2 thing preq54 ([] : (List (Int × Bool))))).map Prod.fst).Nodup ∧ (0 ≤ xq54 ∧ xq54 < thing.length) ∧ (0 ≤ xq64 ∧ xq64 < (gI thing xq54).length) ∧ (((!decide ((decide ((gI (gI thing xq54) xq64) = (0 : Int))) = (decide (xq54 = xq64))))) = false → ((0 ≤ xq54 ∧ xq54 < thing.length) ∧ (0 ≤ xq64 ∧ xq64 < (gI thing xq54).length) ∧ (0 ≤ xq64 ∧ xq64 < thing.length) ∧ (0 ≤ xq54 ∧ xq54 < (gI thing xq64).length))))))) ∧ (law_is_table_lp2 thing (rg (thing.length : Int)) ([] : (List (Int × Bool)))).length < 64 ∧ (-100000 < ((law_is_table_lp2 thing (rg (thing.length : Int)) ([] : (List (Int × Bool)))).length : Int) ∧ ((law_is_table_lp2 thing (rg (thing.length : Int)) ([] : (List (Int × Bool)))).length : Int) < 100000))))
def need_table (table : (List (List Int))) : Unit := ()
def Safe_need_table (table : (List (List Int))) : Prop := (Safe_is_table table ∧ ((!(is_table table)) = true → (False)))
def need_place (table : (List (List Int))) (place : Int) : Unit := ()
def Safe_need_place (table : (List (List Int))) (place : Int) : Prop := (((!(is_upto place (0 : Int) ((table.length : Int) - (1 : Int)))) = true → (False)))
def many_kinds (table : (List (List Int))) : Int := ((kinds_in table).length : Int)
def Safe_many_kinds (table : (List (List Int))) : Prop := (Safe_kinds_in table)
def need_kind (table : (List (List Int))) (kind : Int) : Unit := ()
def Safe_need_kind (table : (List (List Int))) (kind : Int) : Prop := (Safe_many_kinds table ∧ ((!(is_upto kind (0 : Int) ((many_kinds table) - (1 : Int)))) = true → (False)))
def kinds_many (table : (List (List Int))) : Int := (many_kinds table)
def Safe_kinds_many (table : (List (List Int))) : Prop := (Safe_need_table table ∧ Safe_many_kinds table)
def near_of (table : (List (List Int))) (place : Int) (kind : Int) : (List Int) := (((rg (table.length : Int)).filter fun x1 => (decide ((gI (gI table place) x1) = kind))).map fun x1 => x1)
def Safe_near_of (table : (List (List Int))) (place : Int) (kind : Int) : Prop := (Safe_need_table table ∧ Safe_need_place table place ∧ Safe_need_kind table kind ∧ (-100000 < (table.length : Int) ∧ (table.length : Int) < 100000) ∧ (rg (table.length : Int)).length ≤ 100000 ∧ (∀ x4 ∈ (rg (table.length : Int)), ((0 ≤ place ∧ place < table.length) ∧ (0 ≤ x4 ∧ x4 < (gI table place).length))))
def shares_in_st1  (s1 : (List (List Int))) (y1 : (Int × Int)) : (List (List Int)) := (setE s1 y1.1 y1.2 ((gI (gI s1 y1.1) y1.2) + (1 : Int)))
def shares_in_lp1  (xs : List (Int × Int)) (s0 : (List (List Int))) : (List (List Int)) := xs.foldl (shares_in_st1 ) s0
def shares_in (table : (List (List Int))) (one : Int) (other : Int) : (List (List Int)) := (shares_in_lp1  ((gI table one).zip (gI table other)) ((rg (many_kinds table)).map fun x1 => (repL (many_kinds table).toNat ([(0 : Int)]))))
def Safe_shares_in (table : (List (List Int))) (one : Int) (other : Int) : Prop := (Safe_many_kinds table ∧ (-100000 < (many_kinds table) ∧ (many_kinds table) < 100000) ∧ (rg (many_kinds table)).length ≤ 100000 ∧ (∀ x10 ∈ (rg (many_kinds table)), ((-100000 < (many_kinds table) ∧ (many_kinds table) < 100000 ∧ ([(0 : Int)]).length * (many_kinds table).toNat ≤ 100000))) ∧ (0 ≤ one ∧ one < table.length) ∧ (0 ≤ other ∧ other < table.length) ∧ (∀ (preq16 : List (Int × Int)) (xq16 : (Int × Int)) (postq16 : List (Int × Int)), ((gI table one).zip (gI table other)) = preq16 ++ xq16 :: postq16 → ((0 ≤ xq16.1 ∧ xq16.1 < (shares_in_lp1  preq16 ((rg (many_kinds table)).map fun x10 => (repL (many_kinds table).toNat ([(0 : Int)])))).length) ∧ (0 ≤ xq16.2 ∧ xq16.2 < (gI (shares_in_lp1  preq16 ((rg (many_kinds table)).map fun x10 => (repL (many_kinds table).toNat ([(0 : Int)])))) xq16.1).length) ∧ (0 ≤ xq16.1 ∧ xq16.1 < (shares_in_lp1  preq16 ((rg (many_kinds table)).map fun x10 => (repL (many_kinds table).toNat ([(0 : Int)])))).length) ∧ (0 ≤ xq16.2 ∧ xq16.2 < (gI (shares_in_lp1  preq16 ((rg (many_kinds table)).map fun x10 => (repL (many_kinds table).toNat ([(0 : Int)])))) xq16.1).length))) ∧ (shares_in_lp1  ((gI table one).zip (gI table other)) ((rg (many_kinds table)).map fun x10 => (repL (many_kinds table).toNat ([(0 : Int)])))).length ≤ 100000)
def shares_of (table : (List (List Int))) (one : Int) (other : Int) : (List (List Int)) := (shares_in table one other)
def Safe_shares_of (table : (List (List Int))) (one : Int) (other : Int) : Prop := (Safe_need_table table ∧ Safe_need_place table one ∧ Safe_need_place table other ∧ Safe_shares_in table one other)
def kinds (table_here : (List (List Int))) : Int := ((1 : Int) + (maxI (table_here.map fun x1 => (maxI x1))))
def Safe_kinds (table_here : (List (List Int))) : Prop := (table_here.length ≤ 100000 ∧ (∀ x3 ∈ table_here, (x3 ≠ [])) ∧ (table_here.map fun x3 => (maxI x3)) ≠ [])
def shares_st1 (table_here : (List (List Int))) (a_ : Int) (b_ : Int) (s1 : (List (List Int))) (y1 : Int) : (List (List Int)) := (setE s1 (gI (gI table_here a_) y1) (gI (gI table_here b_) y1) (gI (gI s1 (gI (gI table_here a_) y1)) (gI (gI table_here b_) y1) + (1 : Int)))
def shares_lp1 (table_here : (List (List Int))) (a_ : Int) (b_ : Int) (xs : List Int) (s0 : (List (List Int))) : (List (List Int)) := xs.foldl (shares_st1 table_here a_ b_) s0
def shares (table_here : (List (List Int))) (a_ : Int) (b_ : Int) : (List (List Int)) := (shares_lp1 table_here a_ b_ (rg (table_here.length : Int)) ((rg (kinds table_here)).map fun x1 => (repL (kinds table_here).toNat ([(0 : Int)]))))
def Safe_shares (table_here : (List (List Int))) (a_ : Int) (b_ : Int) : Prop := (Safe_kinds table_here ∧ (-100000 < (kinds table_here) ∧ (kinds table_here) < 100000) ∧ (rg (kinds table_here)).length ≤ 100000 ∧ (∀ x10 ∈ (rg (kinds table_here)), ((-100000 < (kinds table_here) ∧ (kinds table_here) < 100000 ∧ ([(0 : Int)]).length * (kinds table_here).toNat ≤ 100000))) ∧ (-100000 < (table_here.length : Int) ∧ (table_here.length : Int) < 100000) ∧ (∀ (preq16 : List Int) (xq16 : Int) (postq16 : List Int), (rg (table_here.length : Int)) = preq16 ++ xq16 :: postq16 → ((0 ≤ a_ ∧ a_ < table_here.length) ∧ (0 ≤ xq16 ∧ xq16 < (gI table_here a_).length) ∧ (0 ≤ b_ ∧ b_ < table_here.length) ∧ (0 ≤ xq16 ∧ xq16 < (gI table_here b_).length) ∧ (0 ≤ (gI (gI table_here a_) xq16) ∧ (gI (gI table_here a_) xq16) < (shares_lp1 table_here a_ b_ preq16 ((rg (kinds table_here)).map fun x10 => (repL (kinds table_here).toNat ([(0 : Int)])))).length) ∧ (0 ≤ (gI (gI table_here b_) xq16) ∧ (gI (gI table_here b_) xq16) < (gI (shares_lp1 table_here a_ b_ preq16 ((rg (kinds table_here)).map fun x10 => (repL (kinds table_here).toNat ([(0 : Int)])))) (gI (gI table_here a_) xq16)).length))) ∧ (shares_lp1 table_here a_ b_ (rg (table_here.length : Int)) ((rg (kinds table_here)).map fun x10 => (repL (kinds table_here).toNat ([(0 : Int)])))).length ≤ 100000)
def pairsOf_st1 (table : (List (List Int))) (s1 : (List (Int × Int))) (y1 : Int) : (List (Int × Int)) := (s1 ++ ((rg (table.length : Int)).map fun x4 => (y1, x4)))
def pairsOf_lp1 (table : (List (List Int))) (xs : List Int) (s0 : (List (Int × Int))) : (List (Int × Int)) := xs.foldl (pairsOf_st1 table) s0
def pairsOf (table : (List (List Int))) : (List (Int × Int)) := (pairsOf_lp1 table (rg (table.length : Int)) ([] : (List (Int × Int))))
def Safe_pairsOf (table : (List (List Int))) : Prop := ((-100000 < (table.length : Int) ∧ (table.length : Int) < 100000) ∧ (∀ (preq11 : List Int) (xq11 : Int) (postq11 : List Int), (rg (table.length : Int)) = preq11 ++ xq11 :: postq11 → ((-100000 < (table.length : Int) ∧ (table.length : Int) < 100000) ∧ (rg (table.length : Int)).length ≤ 100000 ∧ (pairsOf_lp1 table preq11 ([] : (List (Int × Int)))).length + ((rg (table.length : Int)).map fun x20 => (xq11, x20)).length < 100000)))
def kd (t : List (List Int)) (q : Int × Int) : Int := gI (gI t q.1) q.2
def ent (t : List (List Int)) (q : Int × Int) : (Int × Int) × List (List Int) := (q, shares_in t q.1 q.2)
def brkL (t : List (List Int)) (q : Int × Int) : List (Int × Int) := (pairsOf t).filter fun p => decide (kd t p = kd t q) && !decide (shares_in t p.1 p.2 = shares_in t q.1 q.2)
def brk1 (t : List (List Int)) (q : Int × Int) : Option (List Int) := match brkL t q with
  | [] => none
  | p :: _ => some [q.1, q.2, p.1, p.2]
def brk (t : List (List Int)) : Option (List Int) := (pairsOf t).findSome? (brk1 t)
def Safe_break_in (t : List (List Int)) : Prop := Safe_pairsOf t ∧ (∀ q ∈ pairsOf t, Safe_shares_in t q.1 q.2 ∧ (0 ≤ q.1 ∧ q.1 < t.length) ∧ 0 ≤ q.2 ∧ q.2 < (gI t q.1).length) ∧ (pairsOf t).length ≤ 64

def first_break (table : (List (List Int))) : (Option (List Int)) := (brk table)
def Safe_first_break (table : (List (List Int))) : Prop := (Safe_need_table table ∧ Safe_break_in table)
def is_steady (table : (List (List Int))) : Bool := ((brk table).isNone)
def Safe_is_steady (table : (List (List Int))) : Prop := (Safe_need_table table ∧ Safe_break_in table)
def need_steady (table : (List (List Int))) : Unit := ()
def Safe_need_steady (table : (List (List Int))) : Prop := (Safe_need_table table ∧ Safe_break_in table ∧ (((!(brk table).isNone)) = true → (False)))
def numbers_in_st1 (table : (List (List Int))) (s1 : (List (Int × (List (List Int))))) (y1 : (Int × Int)) : (List (Int × (List (List Int)))) := (if ((!(dget s1 (gI (gI table y1.1) y1.2)).isSome)) then (dput s1 (gI (gI table y1.1) y1.2) (shares_in table y1.1 y1.2)) else s1)
def numbers_in_lp1 (table : (List (List Int))) (xs : List (Int × Int)) (s0 : (List (Int × (List (List Int))))) : (List (Int × (List (List Int)))) := xs.foldl (numbers_in_st1 table) s0
def numbers_in (table : (List (List Int))) : (List (List (List Int))) := ((rg (many_kinds table)).map fun x8 => ((dget (numbers_in_lp1 table (pairsOf table) ([] : (List (Int × (List (List Int)))))) x8).getD default))
def Safe_numbers_in (table : (List (List Int))) : Prop := (Safe_pairsOf table ∧ (∀ (preq13 : List (Int × Int)) (xq13 : (Int × Int)) (postq13 : List (Int × Int)), (pairsOf table) = preq13 ++ xq13 :: postq13 → ((0 ≤ xq13.1 ∧ xq13.1 < table.length) ∧ (0 ≤ xq13.2 ∧ xq13.2 < (gI table xq13.1).length) ∧ (((!(dget (numbers_in_lp1 table preq13 ([] : (List (Int × (List (List Int)))))) (gI (gI table xq13.1) xq13.2)).isSome)) = true → (Safe_shares_in table xq13.1 xq13.2 ∧ (0 ≤ xq13.1 ∧ xq13.1 < table.length) ∧ (0 ≤ xq13.2 ∧ xq13.2 < (gI table xq13.1).length) ∧ (numbers_in_lp1 table preq13 ([] : (List (Int × (List (List Int)))))).length < 100000 ∧ ((numbers_in_lp1 table preq13 ([] : (List (Int × (List (List Int)))))).map Prod.fst).Nodup)))) ∧ Safe_many_kinds table ∧ (-100000 < (many_kinds table) ∧ (many_kinds table) < 100000) ∧ (rg (many_kinds table)).length ≤ 100000 ∧ (∀ x31 ∈ (rg (many_kinds table)), ((dget (numbers_in_lp1 table (pairsOf table) ([] : (List (Int × (List (List Int)))))) x31).isSome = true)))
def number (table : (List (List Int))) (i_ : Int) (j_ : Int) (k_ : Int) : Int := (gI (gI (gI (numbers_in table) k_) i_) j_)
def Safe_number (table : (List (List Int))) (i_ : Int) (j_ : Int) (k_ : Int) : Prop := (Safe_need_steady table ∧ Safe_need_kind table i_ ∧ Safe_need_kind table j_ ∧ Safe_need_kind table k_ ∧ Safe_numbers_in table ∧ (0 ≤ k_ ∧ k_ < (numbers_in table).length) ∧ (0 ≤ i_ ∧ i_ < (gI (numbers_in table) k_).length) ∧ (0 ≤ j_ ∧ j_ < (gI (gI (numbers_in table) k_) i_).length))
def sizes_in (table : (List (List Int))) : (List Int) := ((rg (many_kinds table)).map fun x1 => (((gI table (0 : Int)).countP fun y => decide (y = x1) : Nat) : Int))
def Safe_sizes_in (table : (List (List Int))) : Prop := (Safe_many_kinds table ∧ (-100000 < (many_kinds table) ∧ (many_kinds table) < 100000) ∧ (rg (many_kinds table)).length ≤ 100000 ∧ (∀ x3 ∈ (rg (many_kinds table)), ((0 ≤ (0 : Int) ∧ (0 : Int) < table.length))))
def sizes (table : (List (List Int))) : (List Int) := (sizes_in table)
def Safe_sizes (table : (List (List Int))) : Prop := (Safe_need_steady table ∧ Safe_sizes_in table)
def mix_good (table : (List (List Int))) (thing : (List Int)) : Bool := (true && ((decide ((thing.length : Int) = (many_kinds table))) && ((thing.map fun x3 => (is_whole x3)).all id)))
def Safe_mix_good (table : (List (List Int))) (thing : (List Int)) : Prop := ((true = true → (Safe_many_kinds table ∧ ((decide ((thing.length : Int) = (many_kinds table))) = true → (thing.length ≤ 100000)))))
def is_mix (table : (List (List Int))) (thing : (List Int)) : Bool := (mix_good table thing)
def Safe_is_mix (table : (List (List Int))) (thing : (List Int)) : Prop := (Safe_need_table table ∧ Safe_mix_good table thing)
def need_mix (table : (List (List Int))) (thing : (List Int)) : Unit := ()
def Safe_need_mix (table : (List (List Int))) (thing : (List Int)) : Prop := (Safe_mix_good table thing ∧ ((!(mix_good table thing)) = true → (False)))
def square (table : (List (List Int))) (mix : (List Int)) : (List (List Int)) := (table.map fun x1 => (x1.map fun x3 => (gI mix x3)))
def Safe_square (table : (List (List Int))) (mix : (List Int)) : Prop := (Safe_need_table table ∧ Safe_need_mix table mix ∧ table.length ≤ 100000 ∧ (∀ x5 ∈ table, (x5.length ≤ 100000 ∧ (∀ x7 ∈ x5, ((0 ≤ x7 ∧ x7 < mix.length))))))
def law_square (table_here : (List (List Int))) (mix_here : (List Int)) : (List (List Int)) := (table_here.map fun x1 => (x1.map fun x3 => (gI mix_here x3)))
def Safe_law_square (table_here : (List (List Int))) (mix_here : (List Int)) : Prop := (table_here.length ≤ 100000 ∧ (∀ x5 ∈ table_here, (x5.length ≤ 100000 ∧ (∀ x7 ∈ x5, ((0 ≤ x7 ∧ x7 < mix_here.length))))))
def times_st1 (other : (List (List Int))) (s1 : (List (List Int))) (y1 : (List Int)) : (List (List Int)) := (s1 ++ [((rg (y1.length : Int)).map fun x4 => ((rg (y1.length : Int)).map fun x6 => ((gI y1 x6) * (gI (gI other x6) x4))).sum)])
def times_lp1 (other : (List (List Int))) (xs : List (List Int)) (s0 : (List (List Int))) : (List (List Int)) := xs.foldl (times_st1 other) s0
def times (one : (List (List Int))) (other : (List (List Int))) : (List (List Int)) := (times_lp1 other one ([] : (List (List Int))))
def Safe_times (one : (List (List Int))) (other : (List (List Int))) : Prop := ((∀ (preq13 : List (List Int)) (xq13 : (List Int)) (postq13 : List (List Int)), one = preq13 ++ xq13 :: postq13 → ((-100000 < (xq13.length : Int) ∧ (xq13.length : Int) < 100000) ∧ (rg (xq13.length : Int)).length ≤ 100000 ∧ (∀ x24 ∈ (rg (xq13.length : Int)), ((-100000 < (xq13.length : Int) ∧ (xq13.length : Int) < 100000) ∧ (rg (xq13.length : Int)).length ≤ 100000 ∧ (∀ x26 ∈ (rg (xq13.length : Int)), ((0 ≤ x26 ∧ x26 < xq13.length) ∧ (0 ≤ x26 ∧ x26 < other.length) ∧ (0 ≤ x24 ∧ x24 < (gI other x26).length) ∧ (small (gI xq13 x26) = true ∨ small (gI (gI other x26) x24) = true))))) ∧ (times_lp1 other preq13 ([] : (List (List Int)))).length < 100000)))
def product_by_st2 (other : (List Int)) (s2 : Int) (y2 : (Int × (List Int))) : Int := (s2 + ((other.zip y2.2).map fun x4 => ((y2.1 * x4.1) * x4.2)).sum)
def product_by_lp2 (other : (List Int)) (xs : List (Int × (List Int))) (s0 : Int) : Int := xs.foldl (product_by_st2 other) s0
def product_by_st1 (one : (List Int)) (other : (List Int)) (s1 : (List Int)) (y1 : (List (List Int))) : (List Int) := (s1 ++ [(product_by_lp2 other (one.zip y1) (0 : Int))])
def product_by_lp1 (one : (List Int)) (other : (List Int)) (xs : List (List (List Int))) (s0 : (List Int)) : (List Int) := xs.foldl (product_by_st1 one other) s0
def product_by (numbers : (List (List (List Int)))) (one : (List Int)) (other : (List Int)) : (List Int) := (product_by_lp1 one other numbers ([] : (List Int)))
def Safe_product_by (numbers : (List (List (List Int)))) (one : (List Int)) (other : (List Int)) : Prop := ((∀ (preq11 : List (List (List Int))) (xq11 : (List (List Int))) (postq11 : List (List (List Int))), numbers = preq11 ++ xq11 :: postq11 → ((∀ xq28 ∈ (one.zip xq11), ((other.zip xq28.2).length ≤ 100000 ∧ (∀ x41 ∈ (other.zip xq28.2), ((small xq28.1 = true ∨ small x41.1 = true) ∧ (small (xq28.1 * x41.1) = true ∨ small x41.2 = true))))) ∧ (product_by_lp1 one other preq11 ([] : (List Int))).length < 100000)))
def product (table : (List (List Int))) (one : (List Int)) (other : (List Int)) : (List Int) := (product_by (numbers_in table) one other)
def Safe_product (table : (List (List Int))) (one : (List Int)) (other : (List Int)) : Prop := (Safe_need_steady table ∧ Safe_need_mix table one ∧ Safe_need_mix table other ∧ Safe_numbers_in table ∧ Safe_product_by (numbers_in table) one other)
def plus (one : (List Int)) (other : (List Int)) : (List Int) := ((one.zip other).map fun x1 => (x1.1 + x1.2))
def Safe_plus (one : (List Int)) (other : (List Int)) : Prop := ((one.zip other).length ≤ 100000)
def added (table : (List (List Int))) (one : (List Int)) (other : (List Int)) : (List Int) := (plus one other)
def Safe_added (table : (List (List Int))) (one : (List Int)) (other : (List Int)) : Prop := (Safe_need_steady table ∧ Safe_need_mix table one ∧ Safe_need_mix table other ∧ Safe_plus one other)
def power_st1 (table : (List (List Int))) (mix : (List Int)) (s1 : (List Int)) (y1 : Int) : (List Int) := (product_by (numbers_in table) s1 mix)
def power_lp1 (table : (List (List Int))) (mix : (List Int)) (xs : List Int) (s0 : (List Int)) : (List Int) := xs.foldl (power_st1 table mix) s0
def power (table : (List (List Int))) (mix : (List Int)) (times : Int) : (List Int) := (if (!(is_upto times (0 : Int) (8 : Int))) then default else (power_lp1 table mix (rg times) ([(1 : Int)] ++ (repL ((mix.length : Int) - (1 : Int)).toNat ([(0 : Int)])))))
def Safe_power (table : (List (List Int))) (mix : (List Int)) (times : Int) : Prop := (Safe_need_steady table ∧ Safe_need_mix table mix ∧ ((!(is_upto times (0 : Int) (8 : Int))) = true → (False)) ∧ ((!(is_upto times (0 : Int) (8 : Int))) = false → (Safe_numbers_in table ∧ (-1000 ≤ ((mix.length : Int) - (1 : Int)) ∧ ((mix.length : Int) - (1 : Int)) ≤ 1000 ∧ ([(0 : Int)]).length ≤ 1000) ∧ (([(1 : Int)]).length + (repL ((mix.length : Int) - (1 : Int)).toNat ([(0 : Int)])).length ≤ 100000) ∧ (-100000 < times ∧ times < 100000) ∧ (∀ (preq5 : List Int) (xq5 : Int) (postq5 : List Int), (rg times) = preq5 ++ xq5 :: postq5 → (Safe_product_by (numbers_in table) (power_lp1 table mix preq5 ([(1 : Int)] ++ (repL ((mix.length : Int) - (1 : Int)).toNat ([(0 : Int)])))) mix)))))
def back_st1 (table : (List (List Int))) (rows_ : (List (List Int))) (s1 : (List Int)) (y1 : Int) : (List Int) := (s1 ++ [(gI (gI rows_ (0 : Int)) ((gI table (0 : Int)).idxOf y1 : Int))])
def back_lp1 (table : (List (List Int))) (rows_ : (List (List Int))) (xs : List Int) (s0 : (List Int)) : (List Int) := xs.foldl (back_st1 table rows_) s0
def back (table : (List (List Int))) (rows_ : (List (List Int))) : (List Int) := (back_lp1 table rows_ (rg (kinds table)) ([] : (List Int)))
def Safe_back (table : (List (List Int))) (rows_ : (List (List Int))) : Prop := (Safe_kinds table ∧ (-100000 < (kinds table) ∧ (kinds table) < 100000) ∧ (∀ (preq9 : List Int) (xq9 : Int) (postq9 : List Int), (rg (kinds table)) = preq9 ++ xq9 :: postq9 → ((0 ≤ (0 : Int) ∧ (0 : Int) < rows_.length) ∧ (0 ≤ (0 : Int) ∧ (0 : Int) < table.length) ∧ xq9 ∈ (gI table (0 : Int)) ∧ (0 ≤ ((gI table (0 : Int)).idxOf xq9 : Int) ∧ ((gI table (0 : Int)).idxOf xq9 : Int) < (gI rows_ (0 : Int)).length) ∧ (back_lp1 table rows_ preq9 ([] : (List Int))).length < 100000)))
def multiply_ex2 (numbers : (List (List (List Int)))) (weights : (List Int)) (y1 : (Int × Int)) (y2 : (Int × Int)) : Option Bool := (if ((!decide ((y1.2 * y2.2) = ((numbers.zip weights).map fun x1 => ((gI (gI x1.1 y1.1) y2.1) * x1.2)).sum))) then some false else none)
def multiply_ex1 (numbers : (List (List (List Int)))) (weights : (List Int)) (y1 : (Int × Int)) : Option Bool := (((enm weights).findSome? (multiply_ex2 numbers weights y1)).or none)
def multiply (numbers : (List (List (List Int)))) (weights : (List Int)) : Bool := (((enm weights).findSome? (multiply_ex1 numbers weights)).getD true)
def Safe_multiply (numbers : (List (List (List Int)))) (weights : (List Int)) : Prop := ((∀ xq5 ∈ (enm weights), ((∀ xq22 ∈ (enm weights), ((small xq5.2 = true ∨ small xq22.2 = true) ∧ (numbers.zip weights).length ≤ 100000 ∧ (∀ x35 ∈ (numbers.zip weights), ((0 ≤ xq5.1 ∧ xq5.1 < x35.1.length) ∧ (0 ≤ xq22.1 ∧ xq22.1 < (gI x35.1 xq5.1).length) ∧ (small (gI (gI x35.1 xq5.1) xq22.1) = true ∨ small x35.2 = true))))))))
def may_go_on_ex1 (numbers : (List (List (List Int)))) (row : (List Int)) (y1 : (Int × Int)) : Option Bool := (if (decide ((maxI ((cutL (numbers.map fun x1 => (gI (gI x1 y1.1) ((row.length : Int) - (1 : Int)))) (some (((row.length : Int) - (1 : Int)) + (1 : Int))) none) ++ [(0 : Int)])) = (0 : Int))) then (if ((!decide ((y1.2 * (gI row ((row.length : Int) - (1 : Int)))) = (((numbers.map fun x1 => (gI (gI x1 y1.1) ((row.length : Int) - (1 : Int)))).zip row).map fun x5 => (x5.1 * x5.2)).sum))) then some false else none) else none)
def may_go_on (numbers : (List (List (List Int)))) (row : (List Int)) : Bool := (((enm row).findSome? (may_go_on_ex1 numbers row)).getD true)
def Safe_may_go_on (numbers : (List (List (List Int)))) (row : (List Int)) : Prop := ((∀ xq9 ∈ (enm row), (numbers.length ≤ 100000 ∧ (∀ x26 ∈ numbers, ((0 ≤ xq9.1 ∧ xq9.1 < x26.length) ∧ (0 ≤ ((row.length : Int) - (1 : Int)) ∧ ((row.length : Int) - (1 : Int)) < (gI x26 xq9.1).length))) ∧ ((cutL (numbers.map fun x26 => (gI (gI x26 xq9.1) ((row.length : Int) - (1 : Int)))) (some (((row.length : Int) - (1 : Int)) + (1 : Int))) none).length + ([(0 : Int)]).length ≤ 100000) ∧ ((cutL (numbers.map fun x26 => (gI (gI x26 xq9.1) ((row.length : Int) - (1 : Int)))) (some (((row.length : Int) - (1 : Int)) + (1 : Int))) none) ++ [(0 : Int)]) ≠ [] ∧ ((decide ((maxI ((cutL (numbers.map fun x26 => (gI (gI x26 xq9.1) ((row.length : Int) - (1 : Int)))) (some (((row.length : Int) - (1 : Int)) + (1 : Int))) none) ++ [(0 : Int)])) = (0 : Int))) = true → ((0 ≤ ((row.length : Int) - (1 : Int)) ∧ ((row.length : Int) - (1 : Int)) < row.length) ∧ (small xq9.2 = true ∨ small (gI row ((row.length : Int) - (1 : Int))) = true) ∧ ((numbers.map fun x26 => (gI (gI x26 xq9.1) ((row.length : Int) - (1 : Int)))).zip row).length ≤ 100000 ∧ (∀ x30 ∈ ((numbers.map fun x26 => (gI (gI x26 xq9.1) ((row.length : Int) - (1 : Int)))).zip row), ((small x30.1 = true ∨ small x30.2 = true))))))))
def rows_within_st2 (numbers : (List (List (List Int)))) (y1 : Int) (s2 : (List (List Int))) (y2 : (List Int)) : (List (List Int)) := (s2 ++ ((((rg2 ((0 : Int) - y1) (y1 + (1 : Int))).map fun x7 => (y2 ++ [x7])).filter fun x9 => (may_go_on numbers x9)).map fun x9 => x9))
def rows_within_lp2 (numbers : (List (List (List Int)))) (y1 : Int) (xs : List (List Int)) (s0 : (List (List Int))) : (List (List Int)) := xs.foldl (rows_within_st2 numbers y1) s0
def rows_within_st1 (numbers : (List (List (List Int)))) (s1 : (List (List Int))) (y1 : Int) : (List (List Int)) := (rows_within_lp2 numbers y1 s1 ([] : (List (List Int))))
def rows_within_lp1 (numbers : (List (List (List Int)))) (xs : List Int) (s0 : (List (List Int))) : (List (List Int)) := xs.foldl (rows_within_st1 numbers) s0
def rows_within (numbers : (List (List (List Int)))) (many_near : (List Int)) : (List (List Int)) := (rows_within_lp1 numbers (cutL many_near (some (1 : Int)) none) ([[(1 : Int)]] : (List (List Int))))
def Safe_rows_within (numbers : (List (List (List Int)))) (many_near : (List Int)) : Prop := ((∀ (preq17 : List Int) (xq17 : Int) (postq17 : List Int), (cutL many_near (some (1 : Int)) none) = preq17 ++ xq17 :: postq17 → ((∀ (preq37 : List (List Int)) (xq37 : (List Int)) (postq37 : List (List Int)), (rows_within_lp1 numbers preq17 ([[(1 : Int)]] : (List (List Int)))) = preq37 ++ xq37 :: postq37 → (((-100000 < ((0 : Int) - xq17) ∧ ((0 : Int) - xq17) < 100000) ∧ -100000 < (xq17 + (1 : Int)) ∧ (xq17 + (1 : Int)) < 100000) ∧ (rg2 ((0 : Int) - xq17) (xq17 + (1 : Int))).length ≤ 100000 ∧ (∀ x54 ∈ (rg2 ((0 : Int) - xq17) (xq17 + (1 : Int))), ((xq37.length + ([x54]).length ≤ 100000))) ∧ ((rg2 ((0 : Int) - xq17) (xq17 + (1 : Int))).map fun x54 => (xq37 ++ [x54])).length ≤ 100000 ∧ (∀ x56 ∈ ((rg2 ((0 : Int) - xq17) (xq17 + (1 : Int))).map fun x54 => (xq37 ++ [x54])), (Safe_may_go_on numbers x56)) ∧ (rows_within_lp2 numbers xq17 preq37 ([] : (List (List Int)))).length + ((((rg2 ((0 : Int) - xq17) (xq17 + (1 : Int))).map fun x54 => (xq37 ++ [x54])).filter fun x56 => (may_go_on numbers x56)).map fun x56 => x56).length < 100000)))))
def alike (many : Int) : (List (List Int)) := ((rg many).map fun x1 => ((rg many).map fun x3 => (if ((!decide (x1 = x3))) then (1 : Int) else 0)))
def Safe_alike (many : Int) : Prop := ((-100000 < many ∧ many < 100000) ∧ (rg many).length ≤ 100000 ∧ (∀ x5 ∈ (rg many), ((-100000 < many ∧ many < 100000) ∧ (rg many).length ≤ 100000)))
def ring (many : Int) : (List (List Int)) := ((rg many).map fun x1 => ((rg many).map fun x3 => (if (Int.fmod (x3 - x1) many) < (Int.fmod (x1 - x3) many) then (Int.fmod (x3 - x1) many) else (Int.fmod (x1 - x3) many))))
def Safe_ring (many : Int) : Prop := ((-100000 < many ∧ many < 100000) ∧ (rg many).length ≤ 100000 ∧ (∀ x5 ∈ (rg many), ((-100000 < many ∧ many < 100000) ∧ (rg many).length ≤ 100000 ∧ (∀ x7 ∈ (rg many), (many ≠ 0 ∧ many ≠ 0)))))
def each_own (many : Int) : (List (List Int)) := ((rg ((1 : Int) * 2 ^ many.toNat)).map fun x1 => ((rg ((1 : Int) * 2 ^ many.toNat)).map fun x3 => (Builtin.bitXor x1 x3)))
def Safe_each_own (many : Int) : Prop := ((0 ≤ many ∧ many ≤ 1000 ∧ (1 : Int).natAbs < 2 ^ 64) ∧ (-100000 < ((1 : Int) * 2 ^ many.toNat) ∧ ((1 : Int) * 2 ^ many.toNat) < 100000) ∧ (rg ((1 : Int) * 2 ^ many.toNat)).length ≤ 100000 ∧ (∀ x5 ∈ (rg ((1 : Int) * 2 ^ many.toNat)), ((0 ≤ many ∧ many ≤ 1000 ∧ (1 : Int).natAbs < 2 ^ 64) ∧ (-100000 < ((1 : Int) * 2 ^ many.toNat) ∧ ((1 : Int) * 2 ^ many.toNat) < 100000) ∧ (rg ((1 : Int) * 2 ^ many.toNat)).length ≤ 100000)))
def kinds_v1 (table : (List (List Int))) : Int := ((maxI (table.map fun x1 => (maxI x1))) + (1 : Int))
def Safe_kinds_v1 (table : (List (List Int))) : Prop := (table.length ≤ 100000 ∧ (∀ x3 ∈ table, (x3 ≠ [])) ∧ (table.map fun x3 => (maxI x3)) ≠ [])
def beside_st2 (one : (List (List Int))) (other : (List (List Int))) (y1 : Int) (s2 : (List Int)) (y2 : Int) : (List Int) := (s2 ++ [(((gI (gI one (Int.fdiv y1 (other.length : Int))) (Int.fdiv y2 (other.length : Int))) * (kinds_v1 other)) + (gI (gI other (Int.fmod y1 (other.length : Int))) (Int.fmod y2 (other.length : Int))))])
def beside_lp2 (one : (List (List Int))) (other : (List (List Int))) (y1 : Int) (xs : List Int) (s0 : (List Int)) : (List Int) := xs.foldl (beside_st2 one other y1) s0
def beside_st1 (one : (List (List Int))) (other : (List (List Int))) (s1 : (List (List Int))) (y1 : Int) : (List (List Int)) := (s1 ++ [(beside_lp2 one other y1 (rg ((one.length : Int) * (other.length : Int))) ([] : (List Int)))])
def beside_lp1 (one : (List (List Int))) (other : (List (List Int))) (xs : List Int) (s0 : (List (List Int))) : (List (List Int)) := xs.foldl (beside_st1 one other) s0
def beside (one : (List (List Int))) (other : (List (List Int))) : (List (List Int)) := (beside_lp1 one other (rg ((one.length : Int) * (other.length : Int))) ([] : (List (List Int))))
def Safe_beside (one : (List (List Int))) (other : (List (List Int))) : Prop := (Safe_kinds_v1 other ∧ (small (one.length : Int) = true ∨ small (other.length : Int) = true) ∧ (-100000 < ((one.length : Int) * (other.length : Int)) ∧ ((one.length : Int) * (other.length : Int)) < 100000) ∧ (∀ (preq14 : List Int) (xq14 : Int) (postq14 : List Int), (rg ((one.length : Int) * (other.length : Int))) = preq14 ++ xq14 :: postq14 → ((small (one.length : Int) = true ∨ small (other.length : Int) = true) ∧ (-100000 < ((one.length : Int) * (other.length : Int)) ∧ ((one.length : Int) * (other.length : Int)) < 100000) ∧ (∀ (preq30 : List Int) (xq30 : Int) (postq30 : List Int), (rg ((one.length : Int) * (other.length : Int))) = preq30 ++ xq30 :: postq30 → (((other.length : Int) ≠ 0 ∧ (other.length : Int).natAbs < 1073741824) ∧ (0 ≤ (Int.fdiv xq14 (other.length : Int)) ∧ (Int.fdiv xq14 (other.length : Int)) < one.length) ∧ ((other.length : Int) ≠ 0 ∧ (other.length : Int).natAbs < 1073741824) ∧ (0 ≤ (Int.fdiv xq30 (other.length : Int)) ∧ (Int.fdiv xq30 (other.length : Int)) < (gI one (Int.fdiv xq14 (other.length : Int))).length) ∧ (small (gI (gI one (Int.fdiv xq14 (other.length : Int))) (Int.fdiv xq30 (other.length : Int))) = true ∨ small (kinds_v1 other) = true) ∧ (other.length : Int) ≠ 0 ∧ (0 ≤ (Int.fmod xq14 (other.length : Int)) ∧ (Int.fmod xq14 (other.length : Int)) < other.length) ∧ (other.length : Int) ≠ 0 ∧ (0 ≤ (Int.fmod xq30 (other.length : Int)) ∧ (Int.fmod xq30 (other.length : Int)) < (gI other (Int.fmod xq14 (other.length : Int))).length) ∧ (beside_lp2 one other xq14 preq30 ([] : (List Int))).length < 100000)) ∧ (beside_lp1 one other preq14 ([] : (List (List Int)))).length < 100000)))
def within_st2 (one : (List (List Int))) (other : (List (List Int))) (y1 : Int) (s2 : (List Int)) (y2 : Int) : (List Int) := (s2 ++ [(if (decide ((0 : Int) < (gI (gI one (Int.fdiv y1 (other.length : Int))) (Int.fdiv y2 (other.length : Int))))) then ((gI (gI one (Int.fdiv y1 (other.length : Int))) (Int.fdiv y2 (other.length : Int))) + ((kinds_v1 other) - (1 : Int))) else (gI (gI other (Int.fmod y1 (other.length : Int))) (Int.fmod y2 (other.length : Int))))])
def within_lp2 (one : (List (List Int))) (other : (List (List Int))) (y1 : Int) (xs : List Int) (s0 : (List Int)) : (List Int) := xs.foldl (within_st2 one other y1) s0
def within_st1 (one : (List (List Int))) (other : (List (List Int))) (s1 : (List (List Int))) (y1 : Int) : (List (List Int)) := (s1 ++ [(within_lp2 one other y1 (rg ((one.length : Int) * (other.length : Int))) ([] : (List Int)))])
def within_lp1 (one : (List (List Int))) (other : (List (List Int))) (xs : List Int) (s0 : (List (List Int))) : (List (List Int)) := xs.foldl (within_st1 one other) s0
def within (one : (List (List Int))) (other : (List (List Int))) : (List (List Int)) := (within_lp1 one other (rg ((one.length : Int) * (other.length : Int))) ([] : (List (List Int))))
def Safe_within (one : (List (List Int))) (other : (List (List Int))) : Prop := (Safe_kinds_v1 other ∧ (small (one.length : Int) = true ∨ small (other.length : Int) = true) ∧ (-100000 < ((one.length : Int) * (other.length : Int)) ∧ ((one.length : Int) * (other.length : Int)) < 100000) ∧ (∀ (preq16 : List Int) (xq16 : Int) (postq16 : List Int), (rg ((one.length : Int) * (other.length : Int))) = preq16 ++ xq16 :: postq16 → ((small (one.length : Int) = true ∨ small (other.length : Int) = true) ∧ (-100000 < ((one.length : Int) * (other.length : Int)) ∧ ((one.length : Int) * (other.length : Int)) < 100000) ∧ (∀ (preq32 : List Int) (xq32 : Int) (postq32 : List Int), (rg ((one.length : Int) * (other.length : Int))) = preq32 ++ xq32 :: postq32 → (((other.length : Int) ≠ 0 ∧ (other.length : Int).natAbs < 1073741824) ∧ (0 ≤ (Int.fdiv xq16 (other.length : Int)) ∧ (Int.fdiv xq16 (other.length : Int)) < one.length) ∧ ((other.length : Int) ≠ 0 ∧ (other.length : Int).natAbs < 1073741824) ∧ (0 ≤ (Int.fdiv xq32 (other.length : Int)) ∧ (Int.fdiv xq32 (other.length : Int)) < (gI one (Int.fdiv xq16 (other.length : Int))).length) ∧ ((decide ((0 : Int) < (gI (gI one (Int.fdiv xq16 (other.length : Int))) (Int.fdiv xq32 (other.length : Int))))) = false → ((other.length : Int) ≠ 0 ∧ (0 ≤ (Int.fmod xq16 (other.length : Int)) ∧ (Int.fmod xq16 (other.length : Int)) < other.length) ∧ (other.length : Int) ≠ 0 ∧ (0 ≤ (Int.fmod xq32 (other.length : Int)) ∧ (Int.fmod xq32 (other.length : Int)) < (gI other (Int.fmod xq16 (other.length : Int))).length))) ∧ (within_lp2 one other xq16 preq32 ([] : (List Int))).length < 100000)) ∧ (within_lp1 one other preq16 ([] : (List (List Int)))).length < 100000)))
def is_rising (thing : (List Int)) (low : Int) (high : Int) : Bool := (if ((!true) || (!((thing.map fun x2 => (is_upto x2 low high)).all id))) then false else (((thing.zip (cutL thing (some (1 : Int)) none)).map fun x6 => (decide (x6.1 < x6.2))).all id))
def Safe_is_rising (thing : (List Int)) (low : Int) (high : Int) : Prop := (((!true) = false → (thing.length ≤ 100000)) ∧ (((!true) || (!((thing.map fun x9 => (is_upto x9 low high)).all id))) = false → ((thing.zip (cutL thing (some (1 : Int)) none)).length ≤ 100000)))
def need_lot (table : (List (List Int))) (lot : (List Int)) : Unit := ()
def Safe_need_lot (table : (List (List Int))) (lot : (List Int)) : Prop := (Safe_is_rising lot (0 : Int) ((table.length : Int) - (1 : Int)) ∧ ((!(is_rising lot (0 : Int) ((table.length : Int) - (1 : Int)))) = true → (False)))
def need_kinds (table : (List (List Int))) (kinds : (List Int)) : Unit := ()
def Safe_need_kinds (table : (List (List Int))) (kinds : (List Int)) : Prop := (Safe_many_kinds table ∧ Safe_is_rising kinds (1 : Int) ((many_kinds table) - (1 : Int)) ∧ ((!(is_rising kinds (1 : Int) ((many_kinds table) - (1 : Int)))) = true → (False)))
def spread_st2 (table : (List (List Int))) (y1 : Int) (s2 : (List Int)) (y2 : Int) : (List Int) := (sI s2 (gI (gI table y1) y2) ((gI s2 (gI (gI table y1) y2)) + (1 : Int)))
def spread_lp2 (table : (List (List Int))) (y1 : Int) (xs : List Int) (s0 : (List Int)) : (List Int) := xs.foldl (spread_st2 table y1) s0
def spread_st1 (table : (List (List Int))) (lot : (List Int)) (s1 : (List Int)) (y1 : Int) : (List Int) := (spread_lp2 table y1 lot s1)
def spread_lp1 (table : (List (List Int))) (lot : (List Int)) (xs : List Int) (s0 : (List Int)) : (List Int) := xs.foldl (spread_st1 table lot) s0
def spread (table : (List (List Int))) (lot : (List Int)) : (List Int) := (spread_lp1 table lot lot (repL (many_kinds table).toNat ([(0 : Int)])))
def Safe_spread (table : (List (List Int))) (lot : (List Int)) : Prop := (Safe_need_table table ∧ Safe_need_lot table lot ∧ Safe_many_kinds table ∧ (-100000 < (many_kinds table) ∧ (many_kinds table) < 100000 ∧ ([(0 : Int)]).length * (many_kinds table).toNat ≤ 100000) ∧ Safe_many_kinds table ∧ Safe_many_kinds table ∧ (∀ (preq9 : List Int) (xq9 : Int) (postq9 : List Int), lot = preq9 ++ xq9 :: postq9 → ((∀ (preq18 : List Int) (xq18 : Int) (postq18 : List Int), lot = preq18 ++ xq18 :: postq18 → ((0 ≤ xq9 ∧ xq9 < table.length) ∧ (0 ≤ xq18 ∧ xq18 < (gI table xq9).length) ∧ (0 ≤ (gI (gI table xq9) xq18) ∧ (gI (gI table xq9) xq18) < (spread_lp2 table xq9 preq18 (spread_lp1 table lot preq9 (repL (many_kinds table).toNat ([(0 : Int)])))).length) ∧ (0 ≤ xq9 ∧ xq9 < table.length) ∧ (0 ≤ xq18 ∧ xq18 < (gI table xq9).length) ∧ (0 ≤ (gI (gI table xq9) xq18) ∧ (gI (gI table xq9) xq18) < (spread_lp2 table xq9 preq18 (spread_lp1 table lot preq9 (repL (many_kinds table).toNat ([(0 : Int)])))).length))))))
def free_good_ex1 (table : (List (List Int))) (kinds : (List Int)) (lot : (List Int)) (y1 : (Int × Int)) : Option Bool := (if (!(((cutL lot none (some y1.1)).map fun x1 => (decide ((gI (gI table y1.2) x1) ∈ kinds))).all id)) then some false else none)
def free_good (table : (List (List Int))) (kinds : (List Int)) (lot : (List Int)) : Bool := (((enm lot).findSome? (free_good_ex1 table kinds lot)).getD true)
def Safe_free_good (table : (List (List Int))) (kinds : (List Int)) (lot : (List Int)) : Prop := ((∀ xq5 ∈ (enm lot), ((cutL lot none (some xq5.1)).length ≤ 100000 ∧ (∀ x16 ∈ (cutL lot none (some xq5.1)), ((0 ≤ xq5.2 ∧ xq5.2 < table.length) ∧ (0 ≤ x16 ∧ x16 < (gI table xq5.2).length))))))
def is_free (table : (List (List Int))) (kinds : (List Int)) (lot : (List Int)) : Bool := (free_good table kinds lot)
def Safe_is_free (table : (List (List Int))) (kinds : (List Int)) (lot : (List Int)) : Prop := (Safe_need_table table ∧ Safe_need_kinds table kinds ∧ Safe_need_lot table lot ∧ Safe_free_good table kinds lot)
def free_lots_st1 (table : (List (List Int))) (kinds : (List Int)) (s1 : (List (List Int))) (y1 : Int) : (List (List Int)) := (s1 ++ ((s1.filter fun x1 => (free_good table kinds (x1 ++ [y1]))).map fun x1 => (x1 ++ [y1])))
def free_lots_lp1 (table : (List (List Int))) (kinds : (List Int)) (xs : List Int) (s0 : (List (List Int))) : (List (List Int)) := xs.foldl (free_lots_st1 table kinds) s0
def free_lots (table : (List (List Int))) (kinds : (List Int)) : (List (List Int)) := (sortT (free_lots_lp1 table kinds (rg (table.length : Int)) ([[]])))
def Safe_free_lots (table : (List (List Int))) (kinds : (List Int)) : Prop := ((-100000 < (table.length : Int) ∧ (table.length : Int) < 100000) ∧ (∀ (preq4 : List Int) (xq4 : Int) (postq4 : List Int), (rg (table.length : Int)) = preq4 ++ xq4 :: postq4 → ((free_lots_lp1 table kinds preq4 ([[]])).length ≤ 100000 ∧ (∀ x13 ∈ (free_lots_lp1 table kinds preq4 ([[]])), ((x13.length + ([xq4]).length ≤ 100000) ∧ Safe_free_good table kinds (x13 ++ [xq4]) ∧ ((free_good table kinds (x13 ++ [xq4])) = true → ((x13.length + ([xq4]).length ≤ 100000))))) ∧ ((free_lots_lp1 table kinds preq4 ([[]])).length + (((free_lots_lp1 table kinds preq4 ([[]])).filter fun x13 => (free_good table kinds (x13 ++ [xq4]))).map fun x13 => (x13 ++ [xq4])).length ≤ 100000))))
def most_in (table : (List (List Int))) (kinds : (List Int)) : Int := (maxI ((free_lots table kinds).map fun x1 => (x1.length : Int)))
def Safe_most_in (table : (List (List Int))) (kinds : (List Int)) : Prop := (Safe_free_lots table kinds ∧ (free_lots table kinds).length ≤ 100000 ∧ ((free_lots table kinds).map fun x3 => (x3.length : Int)) ≠ [])
def most (table : (List (List Int))) (kinds : (List Int)) : Int := (most_in table kinds)
def Safe_most (table : (List (List Int))) (kinds : (List Int)) : Prop := (Safe_need_table table ∧ Safe_need_kinds table kinds ∧ Safe_most_in table kinds)
def greatest (table : (List (List Int))) (kinds : (List Int)) : (List (List Int)) := (((free_lots table kinds).filter fun x3 => (decide ((x3.length : Int) = (maxI ((free_lots table kinds).map fun x1 => (x1.length : Int)))))).map fun x3 => x3)
def Safe_greatest (table : (List (List Int))) (kinds : (List Int)) : Prop := (Safe_need_table table ∧ Safe_need_kinds table kinds ∧ Safe_free_lots table kinds ∧ (free_lots table kinds).length ≤ 100000 ∧ ((free_lots table kinds).map fun x6 => (x6.length : Int)) ≠ [] ∧ (free_lots table kinds).length ≤ 100000)
def rising (thing : (List Int)) (low : Int) (high : Int) : Bool := (if ((!true) || ((!decide (((thing.filter fun x2 => (!(whole x2))).map fun x2 => x2) = [])))) then false else (if ((!decide (((thing.filter fun x7 => (!(decide (low ≤ x7) && decide (x7 ≤ high)))).map fun x7 => x7) = []))) then false else (decide (thing = (sortU thing)))))
def Safe_rising (thing : (List Int)) (low : Int) (high : Int) : Prop := (((!true) = false → (thing.length ≤ 100000)) ∧ (((!true) || ((!decide (((thing.filter fun x14 => (!(whole x14))).map fun x14 => x14) = [])))) = false → (thing.length ≤ 100000 ∧ (((!decide (((thing.filter fun x19 => (!(decide (low ≤ x19) && decide (x19 ≤ high)))).map fun x19 => x19) = []))) = false → (thing.length < 4000 ∧ (dedupI thing).length < 64)))))
def free_ex1 (table_here : (List (List Int))) (kinds_here : (List Int)) (lot : (List Int)) (y1 : Int) : Option Bool := (if ((!decide (((lot.filter fun x1 => (((!decide (x1 = y1))) && ((!decide ((gI (gI table_here y1) x1) ∈ kinds_here))))).map fun x1 => x1) = []))) then some false else none)
def free (table_here : (List (List Int))) (kinds_here : (List Int)) (lot : (List Int)) : Bool := ((lot.findSome? (free_ex1 table_here kinds_here lot)).getD true)
def Safe_free (table_here : (List (List Int))) (kinds_here : (List Int)) (lot : (List Int)) : Prop := ((∀ xq7 ∈ lot, (lot.length ≤ 100000 ∧ (∀ x16 ∈ lot, ((((!decide (x16 = xq7))) = true → ((0 ≤ xq7 ∧ xq7 < table_here.length) ∧ (0 ≤ x16 ∧ x16 < (gI table_here xq7).length))))))))
def law_greatest_st1  (s1 : (List (List Int))) (y1 : Int) : (List (List Int)) := (s1 ++ (s1.map fun x1 => (x1 ++ [y1])))
def law_greatest_lp1  (xs : List Int) (s0 : (List (List Int))) : (List (List Int)) := xs.foldl (law_greatest_st1 ) s0
def law_greatest (table_here : (List (List Int))) (kinds_here : (List Int)) : (List (List Int)) := (sortT (((((law_greatest_lp1  (rg (table_here.length : Int)) ([[]])).filter fun x3 => (free table_here kinds_here x3)).map fun x3 => x3).filter fun x8 => (decide ((x8.length : Int) = (maxI ((((law_greatest_lp1  (rg (table_here.length : Int)) ([[]])).filter fun x3 => (free table_here kinds_here x3)).map fun x3 => x3).map fun x6 => (x6.length : Int)))))).map fun x8 => x8))
def Safe_law_greatest (table_here : (List (List Int))) (kinds_here : (List Int)) : Prop := ((-100000 < (table_here.length : Int) ∧ (table_here.length : Int) < 100000) ∧ (∀ (preq11 : List Int) (xq11 : Int) (postq11 : List Int), (rg (table_here.length : Int)) = preq11 ++ xq11 :: postq11 → ((law_greatest_lp1  preq11 ([[]])).length ≤ 100000 ∧ (∀ x20 ∈ (law_greatest_lp1  preq11 ([[]])), ((x20.length + ([xq11]).length ≤ 100000))) ∧ ((law_greatest_lp1  preq11 ([[]])).length + ((law_greatest_lp1  preq11 ([[]])).map fun x20 => (x20 ++ [xq11])).length ≤ 100000))) ∧ (law_greatest_lp1  (rg (table_here.length : Int)) ([[]])).length ≤ 100000 ∧ (∀ x27 ∈ (law_greatest_lp1  (rg (table_here.length : Int)) ([[]])), (Safe_free table_here kinds_here x27)) ∧ (((law_greatest_lp1  (rg (table_here.length : Int)) ([[]])).filter fun x27 => (free table_here kinds_here x27)).map fun x27 => x27).length ≤ 100000 ∧ ((((law_greatest_lp1  (rg (table_here.length : Int)) ([[]])).filter fun x27 => (free table_here kinds_here x27)).map fun x27 => x27).map fun x30 => (x30.length : Int)) ≠ [] ∧ (((law_greatest_lp1  (rg (table_here.length : Int)) ([[]])).filter fun x27 => (free table_here kinds_here x27)).map fun x27 => x27).length ≤ 100000)
def law_spread_st2 (table_here : (List (List Int))) (y1 : Int) (s2 : (List Int)) (y2 : Int) : (List Int) := (sI s2 (gI (gI table_here y1) y2) (gI s2 (gI (gI table_here y1) y2) + (1 : Int)))
def law_spread_lp2 (table_here : (List (List Int))) (y1 : Int) (xs : List Int) (s0 : (List Int)) : (List Int) := xs.foldl (law_spread_st2 table_here y1) s0
def law_spread_st1 (table_here : (List (List Int))) (lot : (List Int)) (s1 : (List Int)) (y1 : Int) : (List Int) := (law_spread_lp2 table_here y1 lot s1)
def law_spread_lp1 (table_here : (List (List Int))) (lot : (List Int)) (xs : List Int) (s0 : (List Int)) : (List Int) := xs.foldl (law_spread_st1 table_here lot) s0
def law_spread (table_here : (List (List Int))) (lot : (List Int)) : (List Int) := (law_spread_lp1 table_here lot lot (repL (kinds table_here).toNat ([(0 : Int)])))
def Safe_law_spread (table_here : (List (List Int))) (lot : (List Int)) : Prop := (Safe_kinds table_here ∧ (-100000 < (kinds table_here) ∧ (kinds table_here) < 100000 ∧ ([(0 : Int)]).length * (kinds table_here).toNat ≤ 100000) ∧ Safe_kinds table_here ∧ Safe_kinds table_here ∧ (∀ (preq9 : List Int) (xq9 : Int) (postq9 : List Int), lot = preq9 ++ xq9 :: postq9 → ((∀ (preq18 : List Int) (xq18 : Int) (postq18 : List Int), lot = preq18 ++ xq18 :: postq18 → ((0 ≤ xq9 ∧ xq9 < table_here.length) ∧ (0 ≤ xq18 ∧ xq18 < (gI table_here xq9).length) ∧ (0 ≤ (gI (gI table_here xq9) xq18) ∧ (gI (gI table_here xq9) xq18) < (law_spread_lp2 table_here xq9 preq18 (law_spread_lp1 table_here lot preq9 (repL (kinds table_here).toNat ([(0 : Int)])))).length))))))
def is_small (mix : (List Int)) : Bool := ((mix.map fun x1 => (decide (((0 : Int) - (99 : Int)) ≤ x1) && decide (x1 ≤ (99 : Int)))).all id)
def Safe_is_small (mix : (List Int)) : Prop := (mix.length ≤ 100000)
def added_by_st1 (numbers : (List (List (List Int)))) (s1 : (List Int)) (y1 : (List Int)) : (List Int) := (plus s1 (product_by numbers y1 y1))
def added_by_lp1 (numbers : (List (List (List Int)))) (xs : List (List Int)) (s0 : (List Int)) : (List Int) := xs.foldl (added_by_st1 numbers) s0
def added_by (numbers : (List (List (List Int)))) (mixes : (List (List Int))) : (List Int) := (added_by_lp1 numbers mixes (repL (numbers.length : Int).toNat ([(0 : Int)])))
def Safe_added_by (numbers : (List (List (List Int)))) (mixes : (List (List Int))) : Prop := ((-1000 ≤ (numbers.length : Int) ∧ (numbers.length : Int) ≤ 1000 ∧ ([(0 : Int)]).length ≤ 1000) ∧ (∀ (preq1 : List (List Int)) (xq1 : (List Int)) (postq1 : List (List Int)), mixes = preq1 ++ xq1 :: postq1 → (Safe_product_by numbers xq1 xq1 ∧ Safe_plus (added_by_lp1 numbers preq1 (repL (numbers.length : Int).toNat ([(0 : Int)]))) (product_by numbers xq1 xq1))))
def paper_good_ex1 (table : (List (List Int))) (y1 : (List Int)) : Option Bool := (if ((!(mix_good table y1)) || (!(is_small y1))) then some false else none)
def paper_good (table : (List (List Int))) (kinds : (List Int)) (thing : (List (List Int))) : Bool := (if ((!true) || ((!(decide ((1 : Int) ≤ (thing.length : Int)) && decide ((thing.length : Int) ≤ (4 : Int)))) || (decide (kinds = [])))) then false else ((thing.findSome? (paper_good_ex1 table)).getD ((kinds.map fun x9 => (decide ((gI (added_by (numbers_in table) thing) x9) < (0 : Int)))).all id)))
def Safe_paper_good (table : (List (List Int))) (kinds : (List Int)) (thing : (List (List Int))) : Prop := ((((!true) || ((!(decide ((1 : Int) ≤ (thing.length : Int)) && decide ((thing.length : Int) ≤ (4 : Int)))) || (decide (kinds = [])))) = false → ((∀ xq16 ∈ thing, (Safe_mix_good table xq16 ∧ ((!(mix_good table xq16)) = false → (Safe_is_small xq16)))) ∧ Safe_numbers_in table ∧ Safe_added_by (numbers_in table) thing ∧ kinds.length ≤ 100000 ∧ (∀ x30 ∈ kinds, ((0 ≤ x30 ∧ x30 < (added_by (numbers_in table) thing).length))))))
def is_paper (table : (List (List Int))) (kinds : (List Int)) (thing : (List (List Int))) : Bool := (paper_good table kinds thing)
def Safe_is_paper (table : (List (List Int))) (kinds : (List Int)) (thing : (List (List Int))) : Prop := (Safe_need_steady table ∧ Safe_need_kinds table kinds ∧ Safe_paper_good table kinds thing)
def shown_by (found : (List Int)) (kinds : (List Int)) : Int := ((1 : Int) + (Int.fdiv (gI found (0 : Int)) (minI (kinds.map fun x1 => ((0 : Int) - (gI found x1))))))
def Safe_shown_by (found : (List Int)) (kinds : (List Int)) : Prop := ((0 ≤ (0 : Int) ∧ (0 : Int) < found.length) ∧ kinds.length ≤ 100000 ∧ (∀ x3 ∈ kinds, ((0 ≤ x3 ∧ x3 < found.length))) ∧ (kinds.map fun x3 => ((0 : Int) - (gI found x3))) ≠ [] ∧ ((minI (kinds.map fun x3 => ((0 : Int) - (gI found x3)))) ≠ 0 ∧ (minI (kinds.map fun x3 => ((0 : Int) - (gI found x3)))).natAbs < 1073741824))
def shows (table : (List (List Int))) (kinds : (List Int)) (paper : (List (List Int))) : Int := (if (!(paper_good table kinds paper)) then default else (shown_by (added_by (numbers_in table) paper) kinds))
def Safe_shows (table : (List (List Int))) (kinds : (List Int)) (paper : (List (List Int))) : Prop := (Safe_need_steady table ∧ Safe_need_kinds table kinds ∧ Safe_paper_good table kinds paper ∧ ((!(paper_good table kinds paper)) = true → (False)) ∧ ((!(paper_good table kinds paper)) = false → (Safe_numbers_in table ∧ Safe_added_by (numbers_in table) paper ∧ Safe_shown_by (added_by (numbers_in table) paper) kinds)))
def tried_st2  (s2 : (List (List Int))) (y2 : (List Int)) : (List (List Int)) := (s2 ++ ((rg2 ((0 : Int) - (3 : Int)) ((3 : Int) + (1 : Int))).map fun x7 => (y2 ++ [x7])))
def tried_lp2  (xs : List (List Int)) (s0 : (List (List Int))) : (List (List Int)) := xs.foldl (tried_st2 ) s0
def tried_st1  (s1 : (List (List Int))) (y1 : Int) : (List (List Int)) := (tried_lp2  s1 ([] : (List (List Int))))
def tried_lp1  (xs : List Int) (s0 : (List (List Int))) : (List (List Int)) := xs.foldl (tried_st1 ) s0
def tried (many : Int) : (List (List Int)) := (tried_lp1  (rg many) ([[]] : (List (List Int))))
def Safe_tried (many : Int) : Prop := ((-100000 < many ∧ many < 100000) ∧ (∀ (preq14 : List Int) (xq14 : Int) (postq14 : List Int), (rg many) = preq14 ++ xq14 :: postq14 → ((∀ (preq32 : List (List Int)) (xq32 : (List Int)) (postq32 : List (List Int)), (tried_lp1  preq14 ([[]] : (List (List Int)))) = preq32 ++ xq32 :: postq32 → (((-100000 < ((0 : Int) - (3 : Int)) ∧ ((0 : Int) - (3 : Int)) < 100000) ∧ -100000 < ((3 : Int) + (1 : Int)) ∧ ((3 : Int) + (1 : Int)) < 100000) ∧ (rg2 ((0 : Int) - (3 : Int)) ((3 : Int) + (1 : Int))).length ≤ 100000 ∧ (∀ x46 ∈ (rg2 ((0 : Int) - (3 : Int)) ((3 : Int) + (1 : Int))), ((xq32.length + ([x46]).length ≤ 100000))) ∧ (tried_lp2  preq32 ([] : (List (List Int)))).length + ((rg2 ((0 : Int) - (3 : Int)) ((3 : Int) + (1 : Int))).map fun x46 => (xq32 ++ [x46])).length < 100000)))))
def sums_st2 (mix : (List Int)) (y1 : (List (List Int))) (s2 : Int) (y2 : Int) : Int := (s2 + ((gI mix y2) * ((rg (mix.length : Int)).map fun x4 => ((gI mix x4) * (gI (gI y1 y2) x4))).sum))
def sums_lp2 (mix : (List Int)) (y1 : (List (List Int))) (xs : List Int) (s0 : Int) : Int := xs.foldl (sums_st2 mix y1) s0
def sums_st1 (mix : (List Int)) (s1 : (List Int)) (y1 : (List (List Int))) : (List Int) := (s1 ++ [(sums_lp2 mix y1 (rg (mix.length : Int)) (0 : Int))])
def sums_lp1 (mix : (List Int)) (xs : List (List (List Int))) (s0 : (List Int)) : (List Int) := xs.foldl (sums_st1 mix) s0
def sums (numbers : (List (List (List Int)))) (mix : (List Int)) : (List Int) := (sums_lp1 mix numbers ([] : (List Int)))
def Safe_sums (numbers : (List (List (List Int)))) (mix : (List Int)) : Prop := ((∀ (preq11 : List (List (List Int))) (xq11 : (List (List Int))) (postq11 : List (List (List Int))), numbers = preq11 ++ xq11 :: postq11 → ((-100000 < (mix.length : Int) ∧ (mix.length : Int) < 100000) ∧ (∀ xq26 ∈ (rg (mix.length : Int)), ((0 ≤ xq26 ∧ xq26 < xq11.length) ∧ (0 ≤ xq26 ∧ xq26 < mix.length) ∧ (-100000 < (mix.length : Int) ∧ (mix.length : Int) < 100000) ∧ (rg (mix.length : Int)).length ≤ 100000 ∧ (∀ x37 ∈ (rg (mix.length : Int)), ((0 ≤ x37 ∧ x37 < mix.length) ∧ (0 ≤ x37 ∧ x37 < (gI xq11 xq26).length) ∧ (small (gI mix x37) = true ∨ small (gI (gI xq11 xq26) x37) = true))) ∧ (small (gI mix xq26) = true ∨ small (((rg (mix.length : Int)).map fun x37 => ((gI mix x37) * (gI (gI xq11 xq26) x37))).sum) = true))) ∧ (sums_lp1 mix preq11 ([] : (List Int))).length < 100000)))
def power_of_st1 (one : Int) (s1 : Int) (y1 : Int) : Int := (s1 * one)
def power_of_lp1 (one : Int) (xs : List Int) (s0 : Int) : Int := xs.foldl (power_of_st1 one) s0
def power_of (one : Int) (often : Int) : Int := (power_of_lp1 one (rg often) (1 : Int))
def Safe_power_of (one : Int) (often : Int) : Prop := ((-100000 < often ∧ often < 100000) ∧ (∀ (preq1 : List Int) (xq1 : Int) (postq1 : List Int), (rg often) = preq1 ++ xq1 :: postq1 → ((small (power_of_lp1 one preq1 (1 : Int)) = true ∨ small one = true))))
def words_of_st2 (signs : Int) (s2 : (List (List Int))) (y2 : (List Int)) : (List (List Int)) := (s2 ++ ((rg signs).map fun x7 => (y2 ++ [x7])))
def words_of_lp2 (signs : Int) (xs : List (List Int)) (s0 : (List (List Int))) : (List (List Int)) := xs.foldl (words_of_st2 signs) s0
def words_of_st1 (signs : Int) (s1 : (List (List Int))) (y1 : Int) : (List (List Int)) := (words_of_lp2 signs s1 ([] : (List (List Int))))
def words_of_lp1 (signs : Int) (xs : List Int) (s0 : (List (List Int))) : (List (List Int)) := xs.foldl (words_of_st1 signs) s0
def words_of (many : Int) (signs : Int) : (List (List Int)) := (words_of_lp1 signs (rg many) ([[]] : (List (List Int))))
def Safe_words_of (many : Int) (signs : Int) : Prop := ((-100000 < many ∧ many < 100000) ∧ (∀ (preq14 : List Int) (xq14 : Int) (postq14 : List Int), (rg many) = preq14 ++ xq14 :: postq14 → ((∀ (preq32 : List (List Int)) (xq32 : (List Int)) (postq32 : List (List Int)), (words_of_lp1 signs preq14 ([[]] : (List (List Int)))) = preq32 ++ xq32 :: postq32 → ((-100000 < signs ∧ signs < 100000) ∧ (rg signs).length ≤ 100000 ∧ (∀ x46 ∈ (rg signs), ((xq32.length + ([x46]).length ≤ 100000))) ∧ (words_of_lp2 signs preq32 ([] : (List (List Int)))).length + ((rg signs).map fun x46 => (xq32 ++ [x46])).length < 100000)))))
def lots_many_st1 (many : Int) (s1 : Int) (y1 : Int) : Int := (Int.fdiv (s1 * (many - y1)) (y1 + (1 : Int)))
def lots_many_lp1 (many : Int) (xs : List Int) (s0 : Int) : Int := xs.foldl (lots_many_st1 many) s0
def lots_many (many : Int) (size : Int) : Int := (lots_many_lp1 many (rg size) (1 : Int))
def Safe_lots_many (many : Int) (size : Int) : Prop := ((-100000 < size ∧ size < 100000) ∧ (∀ (preq1 : List Int) (xq1 : Int) (postq1 : List Int), (rg size) = preq1 ++ xq1 :: postq1 → ((small (lots_many_lp1 many preq1 (1 : Int)) = true ∨ small (many - xq1) = true) ∧ ((xq1 + (1 : Int)) ≠ 0 ∧ (xq1 + (1 : Int)).natAbs < 1073741824))))
def made_of_st2 (y1 : (Int × (List Int))) (s2 : (List (Int × Int))) (y2 : Int) : (List (Int × Int)) := (dput s2 y2 (y1.1 + (1 : Int)))
def made_of_lp2 (y1 : (Int × (List Int))) (xs : List Int) (s0 : (List (Int × Int))) : (List (Int × Int)) := xs.foldl (made_of_st2 y1) s0
def made_of_st1  (s1 : (List (Int × Int))) (y1 : (Int × (List Int))) : (List (Int × Int)) := (made_of_lp2 y1 y1.2 s1)
def made_of_lp1  (xs : List (Int × (List Int))) (s0 : (List (Int × Int))) : (List (Int × Int)) := xs.foldl (made_of_st1 ) s0
def made_of (table : (List (List Int))) (parting : (List (List Int))) : (List (List Int)) := (table.map fun x6 => (x6.map fun x8 => ((dget (made_of_lp1  (enm parting) ([((0 : Int), (0 : Int))])) x8).getD default)))
def Safe_made_of (table : (List (List Int))) (parting : (List (List Int))) : Prop := ((∀ (preq13 : List (Int × (List Int))) (xq13 : (Int × (List Int))) (postq13 : List (Int × (List Int))), (enm parting) = preq13 ++ xq13 :: postq13 → ((∀ (preq24 : List Int) (xq24 : Int) (postq24 : List Int), xq13.2 = preq24 ++ xq24 :: postq24 → ((made_of_lp2 xq13 preq24 (made_of_lp1  preq13 ([((0 : Int), (0 : Int))]))).length < 100000 ∧ ((made_of_lp2 xq13 preq24 (made_of_lp1  preq13 ([((0 : Int), (0 : Int))]))).map Prod.fst).Nodup)))) ∧ table.length ≤ 100000 ∧ (∀ x43 ∈ table, (x43.length ≤ 100000 ∧ (∀ x45 ∈ x43, ((dget (made_of_lp1  (enm parting) ([((0 : Int), (0 : Int))])) x45).isSome = true)))))
def made_st2 (y1 : Int) (s2 : (List Int)) (y2 : Int) : (List Int) := (sI s2 y2 (y1 + (1 : Int)))
def made_lp2 (y1 : Int) (xs : List Int) (s0 : (List Int)) : (List Int) := xs.foldl (made_st2 y1) s0
def made_st1 (parting : (List (List Int))) (s1 : (List Int)) (y1 : Int) : (List Int) := (made_lp2 y1 (gI parting y1) s1)
def made_lp1 (parting : (List (List Int))) (xs : List Int) (s0 : (List Int)) : (List Int) := xs.foldl (made_st1 parting) s0
def made (table_here : (List (List Int))) (parting : (List (List Int))) : (List (List Int)) := (table_here.map fun x6 => (x6.map fun x8 => (gI (made_lp1 parting (rg (parting.length : Int)) (repL (kinds table_here).toNat ([(0 : Int)]))) x8)))
def Safe_made (table_here : (List (List Int))) (parting : (List (List Int))) : Prop := (Safe_kinds table_here ∧ (-100000 < (kinds table_here) ∧ (kinds table_here) < 100000 ∧ ([(0 : Int)]).length * (kinds table_here).toNat ≤ 100000) ∧ Safe_kinds table_here ∧ Safe_kinds table_here ∧ (-100000 < (parting.length : Int) ∧ (parting.length : Int) < 100000) ∧ (∀ (preq13 : List Int) (xq13 : Int) (postq13 : List Int), (rg (parting.length : Int)) = preq13 ++ xq13 :: postq13 → ((0 ≤ xq13 ∧ xq13 < parting.length) ∧ (∀ (preq22 : List Int) (xq22 : Int) (postq22 : List Int), (gI parting xq13) = preq22 ++ xq22 :: postq22 → ((0 ≤ xq22 ∧ xq22 < (made_lp2 xq13 preq22 (made_lp1 parting preq13 (repL (kinds table_here).toNat ([(0 : Int)])))).length))))) ∧ table_here.length ≤ 100000 ∧ (∀ x40 ∈ table_here, (x40.length ≤ 100000 ∧ (∀ x42 ∈ x40, ((0 ≤ x42 ∧ x42 < (made_lp1 parting (rg (parting.length : Int)) (repL (kinds table_here).toNat ([(0 : Int)]))).length))))))
def need_both (one : (List (List Int))) (other : (List (List Int))) : Unit := ()
def Safe_need_both (one : (List (List Int))) (other : (List (List Int))) : Prop := (Safe_need_table one ∧ Safe_need_table other ∧ (small (one.length : Int) = true ∨ small (other.length : Int) = true) ∧ ((decide ((8 : Int) < ((one.length : Int) * (other.length : Int)))) = true → (False)))
def both_places_st1 (other : (List (List Int))) (s1 : (List (Int × Int))) (y1 : Int) : (List (Int × Int)) := (s1 ++ ((rg (other.length : Int)).map fun x4 => (y1, x4)))
def both_places_lp1 (other : (List (List Int))) (xs : List Int) (s0 : (List (Int × Int))) : (List (Int × Int)) := xs.foldl (both_places_st1 other) s0
def both_places (one : (List (List Int))) (other : (List (List Int))) : (List (Int × Int)) := (both_places_lp1 other (rg (one.length : Int)) ([] : (List (Int × Int))))
def Safe_both_places (one : (List (List Int))) (other : (List (List Int))) : Prop := ((-100000 < (one.length : Int) ∧ (one.length : Int) < 100000) ∧ (∀ (preq11 : List Int) (xq11 : Int) (postq11 : List Int), (rg (one.length : Int)) = preq11 ++ xq11 :: postq11 → ((-100000 < (other.length : Int) ∧ (other.length : Int) < 100000) ∧ (rg (other.length : Int)).length ≤ 100000 ∧ (both_places_lp1 other preq11 ([] : (List (Int × Int)))).length + ((rg (other.length : Int)).map fun x20 => (xq11, x20)).length < 100000)))
def put_beside (one : (List (List Int))) (other : (List (List Int))) : (List (List Int)) := ((both_places one other).map fun x1 => ((both_places one other).map fun x3 => (((gI (gI one x1.1) x3.1) * (many_kinds other)) + (gI (gI other x1.2) x3.2))))
def Safe_put_beside (one : (List (List Int))) (other : (List (List Int))) : Prop := (Safe_need_both one other ∧ Safe_many_kinds other ∧ Safe_both_places one other ∧ (both_places one other).length ≤ 100000 ∧ (∀ x5 ∈ (both_places one other), ((both_places one other).length ≤ 100000 ∧ (∀ x7 ∈ (both_places one other), ((0 ≤ x5.1 ∧ x5.1 < one.length) ∧ (0 ≤ x7.1 ∧ x7.1 < (gI one x5.1).length) ∧ (small (gI (gI one x5.1) x7.1) = true ∨ small (many_kinds other) = true) ∧ (0 ≤ x5.2 ∧ x5.2 < other.length) ∧ (0 ≤ x7.2 ∧ x7.2 < (gI other x5.2).length))))))
def put_within (one : (List (List Int))) (other : (List (List Int))) : (List (List Int)) := ((both_places one other).map fun x1 => ((both_places one other).map fun x3 => (if (decide (x1.1 = x3.1)) then (gI (gI other x1.2) x3.2) else ((gI (gI one x1.1) x3.1) + ((many_kinds other) - (1 : Int))))))
def Safe_put_within (one : (List (List Int))) (other : (List (List Int))) : Prop := (Safe_need_both one other ∧ Safe_many_kinds other ∧ Safe_both_places one other ∧ (both_places one other).length ≤ 100000 ∧ (∀ x7 ∈ (both_places one other), ((both_places one other).length ≤ 100000 ∧ (∀ x9 ∈ (both_places one other), (((decide (x7.1 = x9.1)) = true → ((0 ≤ x7.2 ∧ x7.2 < other.length) ∧ (0 ≤ x9.2 ∧ x9.2 < (gI other x7.2).length))) ∧ ((decide (x7.1 = x9.1)) = false → ((0 ≤ x7.1 ∧ x7.1 < one.length) ∧ (0 ≤ x9.1 ∧ x9.1 < (gI one x7.1).length))))))))

/-! tables as lists of rows -/
theorem gI_nat {α : Type} [Inhabited α] {xs : List α} {i : Nat} (h : i < xs.length) : gI xs (i : Int) = xs[i] := by
  unfold gI
  rw [Int.toNat_natCast, List.getD_eq_getElem?_getD, List.getElem?_eq_getElem h]; rfl
theorem gI_mem {α : Type} [Inhabited α] {xs : List α} {i : Int} (h : 0 ≤ i ∧ i < xs.length) : gI xs i ∈ xs := by
  have e : (i.toNat : Int) = i := Int.toNat_of_nonneg h.1
  have h2 : i.toNat < xs.length := by omega
  rw [← e, gI_nat h2]
  exact List.getElem_mem h2
theorem mem_gI {α : Type} [Inhabited α] {xs : List α} {x : α} (h : x ∈ xs) : ∃ i : Int, (0 ≤ i ∧ i < xs.length) ∧ gI xs i = x := by
  obtain ⟨i, hi, rfl⟩ := List.mem_iff_getElem.mp h
  exact ⟨i, ⟨by omega, by omega⟩, gI_nat hi⟩
theorem mem_rg {n i : Int} : i ∈ rg n ↔ 0 ≤ i ∧ i < n := by
  unfold rg
  rw [List.mem_map]
  constructor
  · rintro ⟨j, hj, rfl⟩
    rw [List.mem_range] at hj
    simp only [Int.ofNat_eq_natCast]
    omega
  · intro h
    exact ⟨i.toNat, List.mem_range.mpr (by omega), by simp only [Int.ofNat_eq_natCast]; omega⟩
theorem rg_len {n : Int} : (rg n).length = n.toNat := by unfold rg; simp
theorem rg_get {n : Int} {i : Nat} (h : i < n.toNat) : (rg n)[i]? = some (i : Int) := by
  unfold rg
  simp [h]
theorem gI_rg {n i : Int} (h : 0 ≤ i ∧ i < n) : gI (rg n) i = i := by
  have e : (i.toNat : Int) = i := Int.toNat_of_nonneg h.1
  have h2 : i.toNat < (rg n).length := by rw [rg_len]; omega
  conv => lhs; rw [← e]
  rw [gI_nat h2]
  have := rg_get (n := n) (i := i.toNat) (by omega)
  rw [List.getElem?_eq_getElem h2] at this
  have := Option.some.inj this
  rw [this]; exact e
theorem gI_map {α β : Type} [Inhabited α] [Inhabited β] {f : α → β} {xs : List α} {i : Int} (h : 0 ≤ i ∧ i < xs.length) : gI (xs.map f) i = f (gI xs i) := by
  have e : (i.toNat : Int) = i := Int.toNat_of_nonneg h.1
  have h2 : i.toNat < xs.length := by omega
  have h3 : i.toNat < (xs.map f).length := by rw [List.length_map]; omega
  rw [← e, gI_nat h3, gI_nat h2]
  simp
theorem mem_enm {α : Type} [Inhabited α] {xs : List α} {p : Int × α} : p ∈ enm xs ↔ (0 ≤ p.1 ∧ p.1 < xs.length) ∧ p.2 = gI xs p.1 := by
  unfold enm
  rw [List.mem_map]
  constructor
  · rintro ⟨q, hq, rfl⟩
    obtain ⟨i, hi, e⟩ := List.mem_iff_getElem.mp hq
    rw [List.length_zipIdx] at hi
    rw [List.getElem_zipIdx] at e
    subst e
    simp only [Nat.zero_add]
    exact ⟨⟨by omega, by omega⟩, (gI_nat hi).symm⟩
  · rintro ⟨h, e⟩
    have h2 : p.1.toNat < xs.length := by omega
    refine ⟨(p.2, p.1.toNat), ?_, ?_⟩
    · refine List.mem_iff_getElem.mpr ⟨p.1.toNat, by rw [List.length_zipIdx]; omega, ?_⟩
      have e3 : (p.1.toNat : Int) = p.1 := Int.toNat_of_nonneg h.1
      have e4 := gI_nat h2
      rw [e3] at e4
      rw [List.getElem_zipIdx, e, e4]
      simp
    · have e3 : (p.1.toNat : Int) = p.1 := Int.toNat_of_nonneg h.1
      ext
      · exact e3
      · rfl
theorem enm_len {α : Type} {xs : List α} : (enm xs).length = xs.length := by unfold enm; simp
theorem ext_gI {α : Type} [Inhabited α] {xs ys : List α} (hl : xs.length = ys.length) (h : ∀ i : Int, 0 ≤ i → i < xs.length → gI xs i = gI ys i) : xs = ys := by
  refine List.ext_getElem hl fun i h1 h2 => ?_
  have := h i (by omega) (by omega)
  rw [gI_nat h1, gI_nat h2] at this
  exact this
/-! sorted whole numbers -/
theorem ins_mem {x a : Int} : ∀ {xs : List Int}, a ∈ ins leI x xs ↔ a = x ∨ a ∈ xs
  | [] => by simp [ins]
  | b :: r => by
    unfold ins
    split
    · simp
    · rw [List.mem_cons, ins_mem, List.mem_cons]
      constructor
      · rintro (h | h | h)
        · exact .inr (.inl h)
        · exact .inl h
        · exact .inr (.inr h)
      · rintro (h | h | h)
        · exact .inr (.inl h)
        · exact .inl h
        · exact .inr (.inr h)
theorem sortI_mem {a : Int} : ∀ {xs : List Int}, a ∈ sortI xs ↔ a ∈ xs
  | [] => by simp [sortI, isort]
  | b :: r => by
    have := sortI_mem (a := a) (xs := r)
    unfold sortI at this ⊢
    unfold isort
    rw [ins_mem, this, List.mem_cons]
theorem ins_len {x : Int} : ∀ {xs : List Int}, (ins leI x xs).length = xs.length + 1
  | [] => rfl
  | b :: r => by
    unfold ins
    split
    · rfl
    · rw [List.length_cons, ins_len, List.length_cons]
theorem sortI_len : ∀ {xs : List Int}, (sortI xs).length = xs.length
  | [] => rfl
  | b :: r => by
    have := sortI_len (xs := r)
    unfold sortI at this ⊢
    unfold isort
    rw [ins_len, this, List.length_cons]
theorem ins_le {x : Int} : ∀ {xs : List Int}, xs.Pairwise (· ≤ ·) → (ins leI x xs).Pairwise (· ≤ ·)
  | [], _ => by unfold ins; exact List.pairwise_cons.mpr ⟨fun _ h => absurd h List.not_mem_nil, .nil⟩
  | b :: r, h => by
    rw [List.pairwise_cons] at h
    unfold ins
    split
    · rename_i hx
      have hx : x ≤ b := of_decide_eq_true hx
      rw [List.pairwise_cons, List.pairwise_cons]
      exact ⟨fun y hy => (List.mem_cons.mp hy).elim (fun e => e ▸ hx) fun hy => Int.le_trans hx (h.1 y hy), h⟩
    · rename_i hx
      have hx : ¬ x ≤ b := fun z => hx (decide_eq_true z)
      rw [List.pairwise_cons]
      refine ⟨fun y hy => ?_, ins_le h.2⟩
      rcases ins_mem.mp hy with rfl | hy
      · omega
      · exact h.1 y hy
theorem sortI_le : ∀ {xs : List Int}, (sortI xs).Pairwise (· ≤ ·)
  | [] => .nil
  | b :: r => by
    have := sortI_le (xs := r)
    unfold sortI at this ⊢
    unfold isort
    exact ins_le this
theorem ins_perm {x : Int} : ∀ {xs : List Int}, (ins leI x xs).Perm (x :: xs)
  | [] => .refl _
  | b :: r => by
    unfold ins
    split
    · exact .refl _
    · exact ((ins_perm (xs := r)).cons b).trans (.swap _ _ _)
theorem sortI_perm : ∀ {xs : List Int}, (sortI xs).Perm xs
  | [] => .refl _
  | b :: r => by
    have := sortI_perm (xs := r)
    unfold sortI at this ⊢
    unfold isort
    exact ins_perm.trans (this.cons b)
theorem lt_of_nodup {xs : List Int} (h : xs.Pairwise (· ≤ ·)) (n : xs.Nodup) : xs.Pairwise (· < ·) := by
  refine (h.and n).imp ?_
  rintro a b ⟨h1, h2⟩
  omega
/-- two rising lists of the same numbers are one -/
theorem rising_eq : ∀ {xs ys : List Int}, xs.Pairwise (· < ·) → ys.Pairwise (· < ·) → (∀ a, a ∈ xs ↔ a ∈ ys) → xs = ys
  | [], [], _, _, _ => rfl
  | [], y :: ys, _, _, h => absurd ((h y).mpr List.mem_cons_self) List.not_mem_nil
  | x :: xs, [], _, _, h => absurd ((h x).mp List.mem_cons_self) List.not_mem_nil
  | x :: xs, y :: ys, h1, h2, h => by
    rw [List.pairwise_cons] at h1 h2
    have e : x = y := by
      rcases List.mem_cons.mp ((h x).mp List.mem_cons_self) with z | z
      · exact z
      · rcases List.mem_cons.mp ((h y).mpr List.mem_cons_self) with w | w
        · exact w.symm
        · have := h1.1 _ w
          have := h2.1 _ z
          omega
    subst e
    congr 1
    refine rising_eq h1.2 h2.2 fun a => ?_
    constructor
    · intro ha
      rcases List.mem_cons.mp ((h a).mp (List.mem_cons_of_mem _ ha)) with z | z
      · subst z; exact absurd (h1.1 _ ha) (by omega)
      · exact z
    · intro ha
      rcases List.mem_cons.mp ((h a).mpr (List.mem_cons_of_mem _ ha)) with z | z
      · subst z; exact absurd (h2.1 _ ha) (by omega)
      · exact z
theorem rg_rising {n : Int} : (rg n).Pairwise (· < ·) := by
  unfold rg
  rw [List.pairwise_map]
  refine List.pairwise_lt_range.imp ?_
  intro a b h
  simp only [Int.ofNat_eq_natCast]
  omega
/-! what kinds_in finds -/
theorem dput_mem {α : Type} {xs : List (Int × α)} {k : Int} {v : α} {a : Int} : a ∈ (dput xs k v).map Prod.fst ↔ a = k ∨ a ∈ xs.map Prod.fst := by
  rw [dput_keys]
  split
  · rename_i h
    exact ⟨.inr, fun z => z.elim (fun e => e ▸ h) id⟩
  · rw [List.mem_append, List.mem_singleton]
    exact Or.comm
theorem kin2 (xs : List Int) : ∀ s : List (Int × Bool), (s.map Prod.fst).Nodup → ((kinds_in_lp2 xs s).map Prod.fst).Nodup ∧ ∀ a, a ∈ (kinds_in_lp2 xs s).map Prod.fst ↔ a ∈ xs ∨ a ∈ s.map Prod.fst := by
  induction xs with
  | nil => exact fun s h => ⟨h, fun a => by simp [kinds_in_lp2]⟩
  | cons x xs ih =>
    intro s h
    obtain ⟨h1, h2⟩ := ih (dput s x true) (dput_nodup h)
    refine ⟨h1, fun a => (h2 a).trans ?_⟩
    rw [dput_mem, List.mem_cons]
    constructor
    · rintro (z | z | z)
      · exact .inl (.inr z)
      · exact .inl (.inl z)
      · exact .inr z
    · rintro ((z | z) | z)
      · exact .inr (.inl z)
      · exact .inl z
      · exact .inr (.inr z)
theorem kin1 (rows : List (List Int)) : ∀ s : List (Int × Bool), (s.map Prod.fst).Nodup → ((kinds_in_lp1 rows s).map Prod.fst).Nodup ∧ ∀ a, a ∈ (kinds_in_lp1 rows s).map Prod.fst ↔ (∃ r ∈ rows, a ∈ r) ∨ a ∈ s.map Prod.fst := by
  induction rows with
  | nil => exact fun s h => ⟨h, fun a => by simp [kinds_in_lp1]⟩
  | cons x xs ih =>
    intro s h
    obtain ⟨g1, g2⟩ := kin2 x s h
    obtain ⟨h1, h2⟩ := ih (kinds_in_lp2 x s) g1
    refine ⟨h1, fun a => (h2 a).trans ?_⟩
    rw [g2]
    constructor
    · rintro (⟨r, hr, z⟩ | z | z)
      · exact .inl ⟨r, List.mem_cons_of_mem _ hr, z⟩
      · exact .inl ⟨x, List.mem_cons_self, z⟩
      · exact .inr z
    · rintro (⟨r, hr, z⟩ | z)
      · rcases List.mem_cons.mp hr with rfl | hr
        · exact .inr (.inl z)
        · exact .inl ⟨r, hr, z⟩
      · exact .inr (.inr z)
theorem kinds_in_mem {rows : List (List Int)} {a : Int} : a ∈ kinds_in rows ↔ ∃ r ∈ rows, a ∈ r := by
  unfold kinds_in
  rw [sortI_mem, (kin1 rows [] List.nodup_nil).2]
  simp
theorem kinds_in_rising {rows : List (List Int)} : (kinds_in rows).Pairwise (· < ·) := by
  unfold kinds_in
  exact lt_of_nodup sortI_le (sortI_perm.nodup_iff.mpr (kin1 rows [] List.nodup_nil).1)
theorem nodup_lenN : ∀ {n : Nat} {xs : List Nat}, xs.Nodup → (∀ a ∈ xs, a < n) → xs.length ≤ n
  | 0, [], _, _ => Nat.le_refl _
  | 0, x :: xs, _, h => absurd (h x List.mem_cons_self) (by omega)
  | n + 1, xs, hn, h => by
    have h1 : (xs.erase n).length ≤ n := nodup_lenN (hn.erase n) fun a ha => by
      have h2 := (hn.mem_erase_iff).mp ha
      have := h a h2.2
      have := h2.1
      omega
    rw [List.length_erase] at h1
    split at h1 <;> omega
/-- a nodup list of numbers from 0 to below n has at most n -/
theorem nodup_len {xs : List Int} {n : Nat} (h : xs.Nodup) (hb : ∀ a ∈ xs, 0 ≤ a ∧ a < n) : xs.length ≤ n := by
  have h2 : (xs.map Int.toNat).Nodup := by
    rw [List.nodup_iff_pairwise_ne, List.pairwise_map]
    refine (List.nodup_iff_pairwise_ne.mp h).imp_of_mem ?_
    intro a b ha hb' hne e
    have := hb a ha
    have := hb b hb'
    omega
  have h3 : ∀ a ∈ xs.map Int.toNat, a < n := fun a ha => by
    obtain ⟨b, hb', rfl⟩ := List.mem_map.mp ha
    have := hb b hb'
    omega
  have h4 := nodup_lenN h2 h3
  rw [List.length_map] at h4
  exact h4
/-! tables -/
structure Tab (t : List (List Int)) : Prop where
  n1 : 1 ≤ t.length
  n8 : t.length ≤ 8
  sq : ∀ r ∈ t, r.length = t.length
  rg : ∀ r ∈ t, ∀ k ∈ r, 0 ≤ k ∧ k < t.length
  di : ∀ i j : Int, 0 ≤ i → i < t.length → 0 ≤ j → j < t.length → (gI (gI t i) j = 0 ↔ i = j)
  sy : ∀ i j : Int, 0 ≤ i → i < t.length → 0 ≤ j → j < t.length → gI (gI t i) j = gI (gI t j) i
  fu : ∀ r ∈ t, ∀ k ∈ r, ∀ j : Int, 0 ≤ j → j < k → ∃ r ∈ t, j ∈ r
section
variable {t : List (List Int)}
theorem Tab.row (h : Tab t) {i : Int} (hi : 0 ≤ i ∧ i < t.length) : (gI t i).length = t.length := h.sq _ (gI_mem hi)
theorem Tab.at_ (h : Tab t) {i j : Int} (hi : 0 ≤ i ∧ i < t.length) (hj : 0 ≤ j ∧ j < t.length) : 0 ≤ gI (gI t i) j ∧ gI (gI t i) j < t.length := h.rg _ (gI_mem hi) _ (gI_mem (by rw [h.row hi]; exact hj))
theorem Tab.kin (h : Tab t) {a : Int} (ha : a ∈ kinds_in t) : 0 ≤ a ∧ a < t.length := by
  obtain ⟨r, hr, hk⟩ := kinds_in_mem.mp ha
  exact h.rg r hr a hk
theorem Tab.klen (h : Tab t) : (kinds_in t).length ≤ t.length := nodup_len (kinds_in_rising.imp fun z => by omega) fun a ha => h.kin ha
/-- the kinds are 0, 1, .. -/
theorem Tab.kinds (h : Tab t) : kinds_in t = Mo.rg ((kinds_in t).length : Int) := by
  have down : ∀ a ∈ kinds_in t, ∀ j : Int, 0 ≤ j → j < a → j ∈ kinds_in t := fun a ha j h0 hj => by
    obtain ⟨r, hr, hk⟩ := kinds_in_mem.mp ha
    exact kinds_in_mem.mpr (h.fu r hr a hk j h0 hj)
  have key : ∀ (xs : List Int), xs.Pairwise (· < ·) → (∀ a ∈ xs, 0 ≤ a) → (∀ a ∈ xs, ∀ j : Int, 0 ≤ j → j < a → j ∈ xs) → ∀ i : Nat, ∀ hi : i < xs.length, xs[i] = (i : Int) := by
    intro xs hp h0 hd i
    induction i using Nat.strongRecOn with
    | _ i ih =>
      intro hi
      have hlow : (i : Int) ≤ xs[i] := by
        by_cases h : i = 0
        · subst h; exact h0 _ (List.getElem_mem hi)
        · have h1 : i - 1 < xs.length := by omega
          have := ih (i - 1) (by omega) h1
          have := (List.pairwise_iff_getElem.mp hp) (i - 1) i h1 hi (by omega)
          omega
      by_cases he : xs[i] = (i : Int)
      · exact he
      · exfalso
        have hm := hd _ (List.getElem_mem hi) (i : Int) (by omega) (by omega)
        obtain ⟨j, hj, e⟩ := List.mem_iff_getElem.mp hm
        by_cases hji : j < i
        · have := ih j hji hj; omega
        · by_cases hij : j = i
          · subst hij; exact he e
          · have := (List.pairwise_iff_getElem.mp hp) i j hi hj (by omega)
            omega
  refine List.ext_getElem (by rw [rg_len]; simp) fun i h1 h2 => ?_
  rw [key _ kinds_in_rising (fun a ha => (h.kin ha).1) down i h1]
  have := rg_get (n := ((kinds_in t).length : Int)) (i := i) (by simpa using h1)
  rw [List.getElem?_eq_getElem h2] at this
  exact (Option.some.inj this).symm
theorem Tab.kmem (h : Tab t) {a : Int} : a ∈ kinds_in t ↔ 0 ≤ a ∧ a < many_kinds t := by
  unfold many_kinds
  rw [← mem_rg]
  rw [← h.kinds]
theorem Tab.entry (h : Tab t) {i j : Int} (hi : 0 ≤ i ∧ i < t.length) (hj : 0 ≤ j ∧ j < t.length) : 0 ≤ gI (gI t i) j ∧ gI (gI t i) j < many_kinds t :=
  h.kmem.mp (kinds_in_mem.mpr ⟨_, gI_mem hi, gI_mem (by rw [h.row hi]; exact hj)⟩)
theorem Tab.mk1 (h : Tab t) : 1 ≤ many_kinds t := by
  have h1 := h.n1
  have := (h.entry (i := 0) (j := 0) ⟨by omega, by omega⟩ ⟨by omega, by omega⟩)
  omega
theorem Tab.mk8 (h : Tab t) : many_kinds t ≤ t.length := by
  have := h.klen
  unfold many_kinds
  omega
theorem kinds_in_safe (h : Tab t) : Safe_kinds_in t := by
  have len : ∀ s : List (Int × Bool), (s.map Prod.fst).Nodup → (∀ a ∈ s.map Prod.fst, 0 ≤ a ∧ a < t.length) → s.length ≤ 8 := fun s h1 h2 => by
    have := nodup_len h1 h2
    rw [List.length_map] at this
    have := h.n8
    omega
  refine ⟨fun pre x post e pre2 x2 post2 e2 => ?_, ?_⟩
  · have p1 := kin1 pre [] List.nodup_nil
    have p2 := kin2 pre2 _ p1.1
    refine ⟨?_, p2.1⟩
    have := len _ p2.1 fun a ha => ?_
    · omega
    · rcases (p2.2 a).mp ha with z | z
      · exact h.rg x (by rw [e]; simp) a (by rw [e2]; simp [z])
      · rcases (p1.2 a).mp z with ⟨r, hr, z⟩ | z
        · exact h.rg r (by rw [e]; simp [hr]) a z
        · simp at z
  · have p1 := kin1 t [] List.nodup_nil
    have := len _ p1.1 fun a ha => ?_
    · omega
    · rcases (p1.2 a).mp ha with ⟨r, hr, z⟩ | z
      · exact h.rg r hr a z
      · simp at z
theorem upto_iff {x lo hi : Int} : is_upto x lo hi = true ↔ lo ≤ x ∧ x ≤ hi := by simp [is_upto, is_whole]
theorem Tab.isRow (h : Tab t) {r : List Int} (hr : r ∈ t) : is_row (t.length : Int) r = true := by
  unfold is_row
  simp only [Bool.true_and, Bool.and_eq_true, decide_eq_true_eq, List.all_map, List.all_eq_true, Function.comp, id, upto_iff]
  exact ⟨by rw [h.sq r hr], fun k hk => by have := h.rg r hr k hk; omega⟩
theorem Tab.ex1 (h : Tab t) {p : Int × List Int} (hp : p ∈ enm t) : is_table_ex1 t p = none := by
  obtain ⟨hi, e⟩ := mem_enm.mp hp
  unfold is_table_ex1
  rw [if_neg]
  simp only [Bool.not_eq_true', Bool.not_eq_false, List.all_map, List.all_eq_true, Function.comp, id, Bool.and_eq_true, decide_eq_true_eq]
  intro q hq
  obtain ⟨hj, e2⟩ := mem_enm.mp hq
  rw [e, h.row hi] at hj
  rw [e] at e2
  rw [e2]
  refine ⟨?_, h.sy _ _ hi.1 hi.2 hj.1 hj.2⟩
  exact decide_eq_decide.mpr (h.di _ _ hi.1 hi.2 hj.1 hj.2)
theorem Tab.is_table (h : Tab t) : is_table t = true := by
  have h1 := h.n1
  have h8 := h.n8
  unfold Fn.is_table
  rw [if_neg (by simp; omega), if_neg]
  · have : (enm t).findSome? (is_table_ex1 t) = none := by
      rw [List.findSome?_eq_none_iff]
      exact fun p hp => h.ex1 hp
    rw [this]
    exact decide_eq_true h.kinds
  · simp only [Bool.not_eq_true', Bool.not_eq_false, List.all_map, List.all_eq_true, Function.comp, id]
    exact fun r hr => h.isRow hr
theorem Tab.safe_row (h : Tab t) {r : List Int} (hr : r ∈ t) : Safe_is_row (t.length : Int) r := by
  intro _ _
  rw [h.sq r hr]
  have := h.n8
  omega
theorem Tab.safe (h : Tab t) : Safe_need_table t := by
  have h1 := h.n1
  have h8 := h.n8
  have hk := h.klen
  refine ⟨fun _ => ⟨by omega, fun r hr => h.safe_row hr, fun _ => ⟨fun p hp => ?_, kinds_in_safe h, kinds_in_safe h, ?_⟩⟩, fun z => ?_⟩
  · obtain ⟨hi, e⟩ := mem_enm.mp hp
    have hl := h.row hi
    refine ⟨by rw [enm_len, e, hl]; omega, fun q hq _ => ?_⟩
    obtain ⟨hj, e2⟩ := mem_enm.mp hq
    rw [e, hl] at hj
    exact ⟨hj, by rw [h.row hj]; exact hi⟩
  · omega
  · rw [h.is_table] at z
    cases z
theorem Tab.safe_mk (h : Tab t) : Safe_many_kinds t := kinds_in_safe h
end
theorem mem_rg2 {m n i : Int} : i ∈ rg2 m n ↔ m ≤ i ∧ i < n := by
  unfold rg2
  rw [List.mem_map]
  constructor
  · rintro ⟨j, hj, rfl⟩
    rw [List.mem_range] at hj
    omega
  · intro h
    exact ⟨(i - m).toNat, List.mem_range.mpr (by omega), by omega⟩
theorem rg2_rising {m n : Int} : (rg2 m n).Pairwise (· < ·) := by
  unfold rg2
  rw [List.pairwise_map]
  refine List.pairwise_lt_range.imp ?_
  intro a b h
  omega
theorem rg2_len {m n : Int} : (rg2 m n).length = (n - m).toNat := by unfold rg2; simp
/-- a table of one's own, by looking -/
def tabB (t : List (List Int)) : Bool := decide (1 ≤ t.length) && decide (t.length ≤ 8) && t.all (fun r => decide (r.length = t.length) && r.all fun k => decide (0 ≤ k) && decide (k < t.length) && (rg k).all fun j => t.any fun r => r.contains j) &&
  (rg t.length).all fun i => (rg t.length).all fun j => decide (gI (gI t i) j = 0 ↔ i = j) && decide (gI (gI t i) j = gI (gI t j) i)
theorem tab_dec (t : List (List Int)) (h : tabB t = true) : Tab t := by
  unfold tabB at h
  simp only [Bool.and_eq_true, decide_eq_true_eq, List.all_eq_true, List.any_eq_true, List.contains_iff_mem] at h
  obtain ⟨⟨⟨h1, h2⟩, h3⟩, h4⟩ := h
  exact ⟨h1, h2, fun r hr => (h3 r hr).1, fun r hr k hk => ((h3 r hr).2 k hk).1, fun i j a1 a2 a3 a4 => (h4 i (mem_rg.mpr ⟨a1, a2⟩) j (mem_rg.mpr ⟨a3, a4⟩)).1, fun i j a1 a2 a3 a4 => (h4 i (mem_rg.mpr ⟨a1, a2⟩) j (mem_rg.mpr ⟨a3, a4⟩)).2, fun r hr k hk j h0 hj => ((h3 r hr).2 k hk).2 j (mem_rg.mpr ⟨h0, hj⟩)⟩

theorem foldl_app {α β : Type} (f : α → β) : ∀ (xs : List α) (s : List β), xs.foldl (fun s y => s ++ [f y]) s = s ++ xs.map f
  | [], s => by simp
  | x :: xs, s => by rw [List.foldl_cons, foldl_app f xs, List.map_cons, List.append_assoc]; rfl
theorem small_of {i : Int} (h : -1000000 < i ∧ i < 1000000) : small i = true := by simp [small]; omega
theorem rg_succ (n : Nat) : rg ((n + 1 : Nat) : Int) = rg (n : Int) ++ [(n : Int)] := by
  unfold rg
  rw [Int.toNat_natCast, Int.toNat_natCast, List.range_succ, List.map_append]; rfl
theorem rg_add (a b : Nat) : rg ((a + b : Nat) : Int) = rg (a : Int) ++ (rg (b : Int)).map fun i => (a : Int) + i := by
  unfold rg
  rw [Int.toNat_natCast, Int.toNat_natCast, Int.toNat_natCast, List.range_add, List.map_append, List.map_map, List.map_map]
  congr 1
theorem places_eq (one other : List (List Int)) (h : 1 ≤ other.length) : both_places one other = (rg ((one.length : Int) * (other.length : Int))).map fun x => (Int.fdiv x (other.length : Int), Int.fmod x (other.length : Int)) := by
  unfold both_places both_places_lp1
  generalize one.length = n
  have hm : (0 : Int) < other.length := by omega
  induction n with
  | zero => simp [rg]
  | succ n ih =>
    rw [rg_succ, List.foldl_append, ih]
    have e : ((n + 1 : Nat) : Int) * (other.length : Int) = ((n * other.length + other.length : Nat) : Int) := by
      rw [← Int.natCast_mul, Nat.add_mul, Nat.one_mul]
    rw [e, rg_add, List.map_append, Int.natCast_mul]
    show _ ++ _ = _
    congr 1
    · rw [List.map_map]
      refine List.map_congr_left fun b hb => ?_
      have hb := mem_rg.mp hb
      simp only [Function.comp]
      have e2 : ((n : Int) * other.length) + b = b + n * other.length := by omega
      rw [e2, Int.fdiv_eq_ediv_of_nonneg _ (by omega), Int.fmod_eq_emod_of_nonneg _ (by omega), Int.add_mul_ediv_right _ _ (by omega), Int.add_mul_emod_self_right, Int.ediv_eq_zero_of_lt hb.1 hb.2, Int.emod_eq_of_lt hb.1 hb.2]
      simp
section
variable {t one other : List (List Int)}
theorem maxI_le {xs : List Int} {b : Int} (h : ∀ x ∈ xs, x ≤ b) (n : xs ≠ []) : maxI xs ≤ b := by
  cases xs with
  | nil => exact absurd rfl n
  | cons x xs => exact h _ (maxI_mem x xs).1
theorem le_maxI {xs : List Int} {a : Int} (h : a ∈ xs) : a ≤ maxI xs := by
  cases xs with
  | nil => exact absurd h List.not_mem_nil
  | cons x xs => exact (maxI_mem x xs).2 a h
theorem Tab.ne (h : Tab t) : ∀ r ∈ t, r ≠ [] := fun r hr e => by
  have := h.sq r hr
  have := h.n1
  subst e
  simp at *
  omega
theorem Tab.neT (h : Tab t) : t ≠ [] := fun e => by
  have := h.n1
  subst e
  simp at this
theorem kinds_safe (h : Tab t) : Safe_kinds_v1 t := by
  have := h.n8
  exact ⟨by omega, h.ne, fun e => h.neT (List.map_eq_nil_iff.mp e)⟩
theorem kinds_eq (h : Tab t) : Fn.kinds_v1 t = many_kinds t := by
  unfold Fn.kinds_v1
  have h1 := h.mk1
  have up : (maxI (t.map fun x1 => maxI x1)) ≤ many_kinds t - 1 := maxI_le (fun x hx => by
    obtain ⟨r, hr, rfl⟩ := List.mem_map.mp hx
    exact maxI_le (fun k hk => by have := h.kmem.mp (kinds_in_mem.mpr ⟨r, hr, hk⟩); omega) (h.ne r hr)) fun e => h.neT (List.map_eq_nil_iff.mp e)
  have lo : many_kinds t - 1 ≤ (maxI (t.map fun x1 => maxI x1)) := by
    obtain ⟨r, hr, hk⟩ := kinds_in_mem.mp ((h.kmem (a := many_kinds t - 1)).mpr ⟨by omega, by omega⟩)
    exact Int.le_trans (le_maxI hk) (le_maxI (List.mem_map.mpr ⟨r, hr, rfl⟩))
  omega
theorem beside_eq (h1 : Tab one) (h2 : Tab other) : put_beside one other = beside one other := by
  unfold put_beside beside beside_lp1
  rw [places_eq one other h2.n1, show beside_st1 one other = (fun s y => s ++ [beside_lp2 one other y (rg ((one.length : Int) * (other.length : Int))) []]) from rfl, foldl_app, List.nil_append, List.map_map]
  refine List.map_congr_left fun x _ => ?_
  unfold beside_lp2
  rw [show beside_st2 one other x = (fun s y => s ++ [(((gI (gI one (Int.fdiv x (other.length : Int))) (Int.fdiv y (other.length : Int))) * (Fn.kinds_v1 other)) + (gI (gI other (Int.fmod x (other.length : Int))) (Int.fmod y (other.length : Int))))]) from rfl, foldl_app, List.nil_append]
  simp only [Function.comp, List.map_map]
  refine List.map_congr_left fun y _ => ?_
  rw [kinds_eq h2]
  rfl
theorem div_in (h2 : 1 ≤ other.length) {x : Int} (hx : x ∈ rg ((one.length : Int) * (other.length : Int))) : (0 ≤ Int.fdiv x (other.length : Int) ∧ Int.fdiv x (other.length : Int) < one.length) ∧ (0 ≤ Int.fmod x (other.length : Int) ∧ Int.fmod x (other.length : Int) < other.length) := by
  have hx := mem_rg.mp hx
  have hm : (0 : Int) < other.length := by omega
  rw [Int.fdiv_eq_ediv_of_nonneg _ (by omega)]
  refine ⟨⟨Int.ediv_nonneg hx.1 (by omega), Int.ediv_lt_of_lt_mul hm hx.2⟩, Int.fmod_nonneg_of_pos _ hm, Int.fmod_lt_of_pos _ hm⟩
theorem within_eq (h1 : Tab one) (h2 : Tab other) : put_within one other = within one other := by
  unfold put_within within within_lp1
  rw [places_eq one other h2.n1, show within_st1 one other = (fun s y => s ++ [within_lp2 one other y (rg ((one.length : Int) * (other.length : Int))) []]) from rfl, foldl_app, List.nil_append, List.map_map]
  refine List.map_congr_left fun x hx => ?_
  unfold within_lp2
  rw [show within_st2 one other x = (fun s y => s ++ [(if (decide ((0 : Int) < (gI (gI one (Int.fdiv x (other.length : Int))) (Int.fdiv y (other.length : Int))))) then ((gI (gI one (Int.fdiv x (other.length : Int))) (Int.fdiv y (other.length : Int))) + ((Fn.kinds_v1 other) - (1 : Int))) else (gI (gI other (Int.fmod x (other.length : Int))) (Int.fmod y (other.length : Int))))]) from rfl, foldl_app, List.nil_append]
  simp only [Function.comp, List.map_map]
  refine List.map_congr_left fun y hy => ?_
  have dx := (div_in h2.n1 hx).1
  have dy := (div_in h2.n1 hy).1
  rw [kinds_eq h2]
  dsimp only [Function.comp]
  have hd := h1.di _ _ dx.1 dx.2 dy.1 dy.2
  have hp := (h1.at_ dx dy).1
  by_cases z : Int.fdiv x (other.length : Int) = Int.fdiv y (other.length : Int)
  · have := hd.mpr z
    rw [if_pos (decide_eq_true z), if_neg (by simp only [decide_eq_true_eq]; omega)]
  · have : gI (gI one (Int.fdiv x (other.length : Int))) (Int.fdiv y (other.length : Int)) ≠ 0 := fun w => z (hd.mp w)
    rw [if_neg (by simp only [decide_eq_true_eq]; exact z), if_pos (by simp only [decide_eq_true_eq]; omega)]
theorem both_safe (h1 : Tab one) (h2 : Tab other) : Safe_both_places one other := by
  have a1 := h1.n8
  have a2 := h2.n8
  refine ⟨by omega, fun pre x post e => ⟨by omega, by rw [rg_len]; omega, ?_⟩⟩
  have e2 : (both_places_lp1 other pre []).length = pre.length * other.length := by
    unfold both_places_lp1
    have : ∀ (xs : List Int) (s : List (Int × Int)), (xs.foldl (both_places_st1 other) s).length = s.length + xs.length * other.length := by
      intro xs
      induction xs with
      | nil => simp
      | cons x xs ih =>
        intro s
        rw [List.foldl_cons, ih]
        unfold both_places_st1
        rw [List.length_append, List.length_map, rg_len, Int.toNat_natCast, List.length_cons, Nat.add_mul]
        omega
    rw [this]; simp
  have e3 : pre.length ≤ 8 := by
    have := congrArg List.length e
    rw [rg_len] at this
    simp at this
    omega
  have : pre.length * other.length ≤ 8 * 8 := Nat.mul_le_mul e3 a2
  rw [e2, List.length_map, rg_len]
  omega
theorem places_in (h1 : Tab one) (h2 : Tab other) {x : Int × Int} (hx : x ∈ both_places one other) : (0 ≤ x.1 ∧ x.1 < one.length) ∧ (0 ≤ x.2 ∧ x.2 < other.length) := by
  rw [places_eq one other h2.n1] at hx
  obtain ⟨y, hy, rfl⟩ := List.mem_map.mp hx
  exact div_in h2.n1 hy
theorem places_len (h2 : Tab other) : (both_places one other).length = one.length * other.length := by
  rw [places_eq one other h2.n1, List.length_map, rg_len, ← Int.natCast_mul, Int.toNat_natCast]
theorem need_both_safe (h1 : Tab one) (h2 : Tab other) (h : (one.length : Int) * other.length < 9) : Safe_need_both one other := by
  have a1 := h1.n8
  refine ⟨h1.safe, h2.safe, .inl (small_of ⟨by omega, by omega⟩), fun z => ?_⟩
  have := of_decide_eq_true z
  omega
theorem put_beside_safe (h1 : Tab one) (h2 : Tab other) (h : (one.length : Int) * other.length < 9) : Safe_put_beside one other := by
  have a0 := h2.mk1
  have a1 := h2.mk8
  have a2 := h2.n8
  have hl := places_len (one := one) h2
  have hl2 : one.length * other.length < 9 := by omega
  refine ⟨need_both_safe h1 h2 h, h2.safe_mk, both_safe h1 h2, by omega, fun x hx => ⟨by omega, fun y hy => ?_⟩⟩
  obtain ⟨x1, x2⟩ := places_in h1 h2 hx
  obtain ⟨y1, y2⟩ := places_in h1 h2 hy
  exact ⟨x1, by rw [h1.row x1]; exact y1, .inr (small_of ⟨by omega, by omega⟩), x2, by rw [h2.row x2]; exact y2⟩
theorem put_within_safe (h1 : Tab one) (h2 : Tab other) (h : (one.length : Int) * other.length < 9) : Safe_put_within one other := by
  have hl := places_len (one := one) h2
  have hl2 : one.length * other.length < 9 := by omega
  refine ⟨need_both_safe h1 h2 h, h2.safe_mk, both_safe h1 h2, by omega, fun x hx => ⟨by omega, fun y hy => ?_⟩⟩
  obtain ⟨x1, x2⟩ := places_in h1 h2 hx
  obtain ⟨y1, y2⟩ := places_in h1 h2 hy
  exact ⟨fun _ => ⟨x2, by rw [h2.row x2]; exact y2⟩, fun _ => ⟨x1, by rw [h1.row x1]; exact y1⟩⟩
theorem pre_len {n : Int} {pre post : List Int} {x : Int} (e : rg n = pre ++ x :: post) (h : n < 9) : pre.length ≤ 8 := by
  have := congrArg List.length e
  rw [rg_len] at this
  simp at this
  omega
theorem pre_in {n : Int} {pre post : List Int} {x : Int} (e : rg n = pre ++ x :: post) : x ∈ rg n := by rw [e]; simp
theorem beside_safe (h1 : Tab one) (h2 : Tab other) (h : (one.length : Int) * other.length < 9) : Safe_beside one other := by
  have a1 := h1.n8
  have a2 := h2.n8
  have a3 := h2.n1
  have b1 := h2.mk1
  have b2 := h2.mk8
  have b3 : (0 : Int) ≤ (one.length : Int) * other.length := Int.mul_nonneg (by omega) (by omega)
  have sm : small (one.length : Int) = true ∨ small (other.length : Int) = true := .inl (small_of ⟨by omega, by omega⟩)
  refine ⟨kinds_safe h2, sm, by omega, fun pre x post e => ⟨sm, by omega, fun pre2 y post2 e2 => ?_, ?_⟩⟩
  · obtain ⟨x1, x2⟩ := div_in a3 (pre_in e)
    obtain ⟨y1, y2⟩ := div_in a3 (pre_in e2)
    refine ⟨by omega, x1, by omega, by rw [h1.row x1]; exact y1, .inr ?_, by omega, x2, by omega, by rw [h2.row x2]; exact y2, ?_⟩
    · rw [kinds_eq h2]
      exact small_of ⟨by omega, by omega⟩
    · unfold beside_lp2
      rw [show beside_st2 one other x = (fun s y => s ++ [(((gI (gI one (Int.fdiv x (other.length : Int))) (Int.fdiv y (other.length : Int))) * (Fn.kinds_v1 other)) + (gI (gI other (Int.fmod x (other.length : Int))) (Int.fmod y (other.length : Int))))]) from rfl, foldl_app, List.nil_append, List.length_map]
      have := pre_len e2 h
      omega
  · unfold beside_lp1
    rw [show beside_st1 one other = (fun s y => s ++ [beside_lp2 one other y (rg ((one.length : Int) * (other.length : Int))) []]) from rfl, foldl_app, List.nil_append, List.length_map]
    have := pre_len e h
    omega
theorem within_safe (h1 : Tab one) (h2 : Tab other) (h : (one.length : Int) * other.length < 9) : Safe_within one other := by
  have a1 := h1.n8
  have a2 := h2.n8
  have a3 := h2.n1
  have b3 : (0 : Int) ≤ (one.length : Int) * other.length := Int.mul_nonneg (by omega) (by omega)
  have sm : small (one.length : Int) = true ∨ small (other.length : Int) = true := .inl (small_of ⟨by omega, by omega⟩)
  refine ⟨kinds_safe h2, sm, by omega, fun pre x post e => ⟨sm, by omega, fun pre2 y post2 e2 => ?_, ?_⟩⟩
  · obtain ⟨x1, x2⟩ := div_in a3 (pre_in e)
    obtain ⟨y1, y2⟩ := div_in a3 (pre_in e2)
    refine ⟨by omega, x1, by omega, by rw [h1.row x1]; exact y1, fun _ => ⟨by omega, x2, by omega, by rw [h2.row x2]; exact y2⟩, ?_⟩
    · unfold within_lp2
      rw [show within_st2 one other x = (fun s y => s ++ [(if (decide ((0 : Int) < (gI (gI one (Int.fdiv x (other.length : Int))) (Int.fdiv y (other.length : Int))))) then ((gI (gI one (Int.fdiv x (other.length : Int))) (Int.fdiv y (other.length : Int))) + ((Fn.kinds_v1 other) - (1 : Int))) else (gI (gI other (Int.fmod x (other.length : Int))) (Int.fmod y (other.length : Int))))]) from rfl, foldl_app, List.nil_append, List.length_map]
      have := pre_len e2 h
      omega
  · unfold within_lp1
    rw [show within_st1 one other = (fun s y => s ++ [within_lp2 one other y (rg ((one.length : Int) * (other.length : Int))) []]) from rfl, foldl_app, List.nil_append, List.length_map]
    have := pre_len e h
    omega
end
section
variable {one other : List (List Int)}
theorem put_beside_len (h1 : Tab one) (h2 : Tab other) : (put_beside one other).length = one.length * other.length ∧ ∀ r ∈ put_beside one other, r.length = one.length * other.length := by
  unfold put_beside
  refine ⟨by rw [List.length_map, places_len h2], fun r hr => ?_⟩
  obtain ⟨x, _, rfl⟩ := List.mem_map.mp hr
  rw [List.length_map, places_len h2]
theorem put_within_len (h1 : Tab one) (h2 : Tab other) : (put_within one other).length = one.length * other.length ∧ ∀ r ∈ put_within one other, r.length = one.length * other.length := by
  unfold put_within
  refine ⟨by rw [List.length_map, places_len h2], fun r hr => ?_⟩
  obtain ⟨x, _, rfl⟩ := List.mem_map.mp hr
  rw [List.length_map, places_len h2]
end

/-! kinds named anew, in their order, none left out; places and kinds under other names -/
theorem sortU_mem {a : Int} {xs : List Int} : a ∈ sortU xs ↔ a ∈ xs := by unfold sortU; rw [sortI_mem, dedupI_mem]
theorem sortU_rising {xs : List Int} : (sortU xs).Pairwise (· < ·) := lt_of_nodup sortI_le (sortI_perm.nodup_iff.mpr dedupI_nodup)
theorem sortU_len {xs : List Int} : (sortU xs).length = (dedupI xs).length := sortI_len
theorem idx_lt {xs : List Int} (h : xs.Pairwise (· < ·)) {i : Nat} {a : Int} (hi : xs[i]? = some a) : xs.idxOf a = i := by
  obtain ⟨hl, e⟩ := List.getElem?_eq_some_iff.mp hi
  have nd : xs.Nodup := h.imp fun z => by omega
  rw [← e]
  exact nd.idxOf_getElem i hl
structure Sym (t : List (List Int)) : Prop where
  n1 : 1 ≤ t.length
  n8 : t.length ≤ 8
  sq : ∀ r ∈ t, r.length = t.length
  nn : ∀ r ∈ t, ∀ k ∈ r, 0 ≤ k
  di : ∀ i j : Int, 0 ≤ i → i < t.length → 0 ≤ j → j < t.length → (gI (gI t i) j = 0 ↔ i = j)
  sy : ∀ i j : Int, 0 ≤ i → i < t.length → 0 ≤ j → j < t.length → gI (gI t i) j = gI (gI t j) i
  ct : (dedupI t.flatten).length ≤ t.length
theorem ct_of {t : List (List Int)} (h : ∀ r ∈ t, ∀ k ∈ r, 0 ≤ k ∧ k < t.length) : (dedupI t.flatten).length ≤ t.length := by
  refine nodup_len dedupI_nodup fun a ha => ?_
  obtain ⟨r, hr, k⟩ := List.mem_flatten.mp (dedupI_mem.mp ha)
  exact h r hr a k
theorem Tab.sym {t : List (List Int)} (h : Tab t) : Sym t := ⟨h.n1, h.n8, h.sq, fun r hr k hk => (h.rg r hr k hk).1, h.di, h.sy, ct_of h.rg⟩
def symB (t : List (List Int)) : Bool := decide (1 ≤ t.length) && decide (t.length ≤ 8) && t.all (fun r => decide (r.length = t.length) && r.all fun k => decide (0 ≤ k)) &&
  ((rg t.length).all fun i => (rg t.length).all fun j => decide (gI (gI t i) j = 0 ↔ i = j) && decide (gI (gI t i) j = gI (gI t j) i)) && decide ((dedupI t.flatten).length ≤ t.length)
theorem sym_dec (t : List (List Int)) (h : symB t = true) : Sym t := by
  unfold symB at h
  simp only [Bool.and_eq_true, decide_eq_true_eq, List.all_eq_true] at h
  obtain ⟨⟨⟨⟨h1, h2⟩, h3⟩, h4⟩, h5⟩ := h
  exact ⟨h1, h2, fun r hr => (h3 r hr).1, fun r hr k hk => (h3 r hr).2 k hk, fun i j a1 a2 a3 a4 => (h4 i (mem_rg.mpr ⟨a1, a2⟩) j (mem_rg.mpr ⟨a3, a4⟩)).1, fun i j a1 a2 a3 a4 => (h4 i (mem_rg.mpr ⟨a1, a2⟩) j (mem_rg.mpr ⟨a3, a4⟩)).2, h5⟩
theorem flat_len {t : List (List Int)} {n : Nat} (h : ∀ r ∈ t, r.length ≤ n) : t.flatten.length ≤ t.length * n := by
  induction t with
  | nil => simp
  | cons r t ih =>
    rw [List.flatten_cons, List.length_append, List.length_cons, Nat.succ_mul]
    have := h r List.mem_cons_self
    have := ih fun r hr => h r (List.mem_cons_of_mem _ hr)
    omega
theorem Sym.safe {t : List (List Int)} (h : Sym t) : Safe_named t := by
  have h8 := h.n8
  have e : (t.map fun x => x) = t := List.map_id' t
  have f1 := flat_len (t := t) (n := t.length) fun r hr => by rw [h.sq r hr]; exact Nat.le_refl _
  have f2 : t.length * t.length ≤ 8 * 8 := Nat.mul_le_mul h8 h8
  have f3 := h.ct
  unfold Safe_named
  rw [e]
  exact ⟨by omega, by omega, fun r hr => by rw [h.sq r hr]; omega, by omega, by omega, by omega, fun r hr => ⟨by rw [h.sq r hr]; omega, fun k hk => sortU_mem.mpr (List.mem_flatten.mpr ⟨r, hr, hk⟩)⟩⟩
theorem named_eq (t : List (List Int)) : named t = t.map fun r => r.map fun k => ((sortU t.flatten).idxOf k : Int) := by
  unfold named
  rw [show (t.map fun x => x) = t from List.map_id' t]
theorem named_len (t : List (List Int)) : (named t).length = t.length := by rw [named_eq, List.length_map]
theorem named_at {t : List (List Int)} (h : Sym t) {i j : Int} (hi : 0 ≤ i ∧ i < t.length) (hj : 0 ≤ j ∧ j < t.length) : gI (gI (named t) i) j = ((sortU t.flatten).idxOf (gI (gI t i) j) : Int) := by
  have hr := h.sq _ (gI_mem hi)
  rw [named_eq, gI_map hi, gI_map (by omega)]
theorem Sym.mem {t : List (List Int)} (h : Sym t) {i j : Int} (hi : 0 ≤ i ∧ i < t.length) (hj : 0 ≤ j ∧ j < t.length) : gI (gI t i) j ∈ sortU t.flatten := by
  have hr := h.sq _ (gI_mem hi)
  exact sortU_mem.mpr (List.mem_flatten.mpr ⟨_, gI_mem hi, gI_mem (by omega)⟩)
theorem Sym.zero {t : List (List Int)} (h : Sym t) : (sortU t.flatten)[0]? = some 0 := by
  have h1 := h.n1
  have h0 : (0 : Int) ∈ sortU t.flatten := by
    have := h.mem (i := 0) (j := 0) (by omega) (by omega)
    rwa [(h.di 0 0 (by omega) (by omega) (by omega) (by omega)).mpr rfl] at this
  have hp := sortU_rising (xs := t.flatten)
  have nn : ∀ k ∈ sortU t.flatten, 0 ≤ k := fun k hk => by
    obtain ⟨r, hr, hk⟩ := List.mem_flatten.mp (sortU_mem.mp hk)
    exact h.nn r hr k hk
  cases e : sortU t.flatten with
  | nil => rw [e] at h0; cases h0
  | cons a r =>
    rw [e] at h0 hp nn
    rcases List.mem_cons.mp h0 with q | q
    · rw [← q]; rfl
    · have := List.rel_of_pairwise_cons hp q
      have := nn a List.mem_cons_self
      omega
theorem named_tab {t : List (List Int)} (h : Sym t) : Tab (named t) := by
  have hl := named_len t
  have hp := sortU_rising (xs := t.flatten)
  have nd : (sortU t.flatten).Nodup := hp.imp fun z => by omega
  have hc := h.ct
  rw [← sortU_len] at hc
  have row : ∀ r ∈ named t, ∃ r' ∈ t, r = r'.map fun k => ((sortU t.flatten).idxOf k : Int) := fun r hr => by
    rw [named_eq] at hr
    obtain ⟨r', hr', rfl⟩ := List.mem_map.mp hr
    exact ⟨r', hr', rfl⟩
  have ent : ∀ r ∈ named t, ∀ k ∈ r, ∃ k' ∈ sortU t.flatten, k = ((sortU t.flatten).idxOf k' : Int) := fun r hr k hk => by
    obtain ⟨r', hr', rfl⟩ := row r hr
    obtain ⟨k', hk', rfl⟩ := List.mem_map.mp hk
    exact ⟨k', sortU_mem.mpr (List.mem_flatten.mpr ⟨r', hr', hk'⟩), rfl⟩
  refine ⟨by rw [hl]; exact h.n1, by rw [hl]; exact h.n8, fun r hr => ?_, fun r hr k hk => ?_, fun i j a1 a2 a3 a4 => ?_, fun i j a1 a2 a3 a4 => ?_, fun r hr k hk j h0 hj => ?_⟩
  · obtain ⟨r', hr', rfl⟩ := row r hr
    rw [List.length_map, hl]
    exact h.sq r' hr'
  · obtain ⟨k', hk', rfl⟩ := ent r hr k hk
    have := List.idxOf_lt_length_of_mem hk'
    omega
  · rw [hl] at a2 a4
    rw [named_at h ⟨a1, a2⟩ ⟨a3, a4⟩, ← h.di i j a1 a2 a3 a4]
    have z := idx_lt hp h.zero
    constructor
    · intro e
      have e : (sortU t.flatten).idxOf (gI (gI t i) j) = 0 := by omega
      have hm := List.idxOf_lt_length_of_mem (h.mem ⟨a1, a2⟩ ⟨a3, a4⟩)
      have e2 := List.getElem_idxOf hm
      have e3 := List.getElem?_eq_getElem hm
      rw [e2, e, h.zero] at e3
      exact (Option.some.inj e3).symm
    · intro e
      rw [e, z]; rfl
  · rw [hl] at a2 a4
    rw [named_at h ⟨a1, a2⟩ ⟨a3, a4⟩, named_at h ⟨a3, a4⟩ ⟨a1, a2⟩, h.sy i j a1 a2 a3 a4]
  · obtain ⟨k', hk', rfl⟩ := ent r hr k hk
    have hm := List.idxOf_lt_length_of_mem hk'
    have hj' : j.toNat < (sortU t.flatten).length := by omega
    have hmem : (sortU t.flatten)[j.toNat] ∈ sortU t.flatten := List.getElem_mem hj'
    obtain ⟨r', hr', hk2⟩ := List.mem_flatten.mp (sortU_mem.mp hmem)
    refine ⟨r'.map fun k => ((sortU t.flatten).idxOf k : Int), by rw [named_eq]; exact List.mem_map.mpr ⟨r', hr', rfl⟩, List.mem_map.mpr ⟨_, hk2, ?_⟩⟩
    rw [idx_lt hp (List.getElem?_eq_getElem hj')]
    omega
/-- places and kinds under other names -/
def relab (t : List (List Int)) (order kinds : List Int) : List (List Int) := order.map fun a => order.map fun b => gI kinds (gI (gI t a) b)
theorem gI_perm {xs ys : List Int} (h : xs.Perm ys) {i : Int} (hi : 0 ≤ i ∧ i < xs.length) : gI xs i ∈ ys := h.mem_iff.mp (gI_mem hi)
theorem gI_inj {xs : List Int} (h : xs.Nodup) {i j : Int} (hi : 0 ≤ i ∧ i < xs.length) (hj : 0 ≤ j ∧ j < xs.length) (e : gI xs i = gI xs j) : i = j := by
  obtain ⟨a, rfl⟩ : ∃ a : Nat, (a : Int) = i := ⟨i.toNat, by omega⟩
  obtain ⟨b, rfl⟩ : ∃ b : Nat, (b : Int) = j := ⟨j.toNat, by omega⟩
  rw [gI_nat (by omega), gI_nat (by omega)] at e
  have e1 := h.idxOf_getElem a (by omega)
  have e2 := h.idxOf_getElem b (by omega)
  rw [e] at e1
  omega
theorem rg_nodup {n : Int} : (rg n).Nodup := rg_rising.imp fun z => by omega
theorem rg2_nodup {m n : Int} : (rg2 m n).Nodup := rg2_rising.imp fun z => by omega
section
variable {t : List (List Int)} {order ks : List Int}
theorem relab_len : (relab t order ks).length = order.length := by unfold relab; rw [List.length_map]
theorem relab_at {i j : Int} (hi : 0 ≤ i ∧ i < order.length) (hj : 0 ≤ j ∧ j < order.length) : gI (gI (relab t order ks) i) j = gI ks (gI (gI t (gI order i)) (gI order j)) := by
  unfold relab
  rw [gI_map hi, gI_map hj]
theorem kinds_perm {m : Int} (hm : 1 ≤ m) (hk : ks.Perm (rg2 1 m)) : (0 :: ks).Perm (rg m) := by
  have e : rg m = 0 :: rg2 1 m := by
    refine rising_eq rg_rising (List.pairwise_cons.mpr ⟨fun a ha => by have := mem_rg2.mp ha; omega, rg2_rising⟩) fun a => ?_
    rw [mem_rg, List.mem_cons, mem_rg2]
    omega
  rw [e]
  exact hk.cons 0
theorem relab_tab (h : Tab t) (ho : order.Perm (rg t.length)) (hk : (0 :: ks).Perm (rg (many_kinds t))) : Tab (relab t order (0 :: ks)) := by
  have ol : order.length = t.length := by have := ho.length_eq; rw [rg_len] at this; omega
  have kl : ((0 :: ks).length : Int) = many_kinds t := by have := ho.length_eq; have := hk.length_eq; rw [rg_len] at this; have := h.mk1; omega
  have mk := h.mk8
  have o : ∀ i : Int, 0 ≤ i → i < t.length → 0 ≤ gI order i ∧ gI order i < t.length := fun i a b => mem_rg.mp (gI_perm ho ⟨a, by omega⟩)
  have e : ∀ i j : Int, 0 ≤ i → i < t.length → 0 ≤ j → j < t.length → 0 ≤ gI (gI t (gI order i)) (gI order j) ∧ gI (gI t (gI order i)) (gI order j) < many_kinds t := fun i j a b c d => h.entry (o i a b) (o j c d)
  have k : ∀ x : Int, 0 ≤ x → x < many_kinds t → 0 ≤ gI (0 :: ks) x ∧ gI (0 :: ks) x < many_kinds t := fun x a b => mem_rg.mp (gI_perm hk ⟨a, by omega⟩)
  have nd : (0 :: ks).Nodup := hk.nodup_iff.mpr rg_nodup
  have ond : order.Nodup := ho.nodup_iff.mpr rg_nodup
  have hl : (relab t order (0 :: ks)).length = t.length := by rw [relab_len, ol]
  have row : ∀ r ∈ relab t order (0 :: ks), ∃ i : Int, (0 ≤ i ∧ i < t.length) ∧ r = gI (relab t order (0 :: ks)) i := fun r hr => by
    obtain ⟨i, hi, e⟩ := mem_gI hr
    exact ⟨i, by omega, e.symm⟩
  have rl : ∀ i : Int, 0 ≤ i ∧ i < t.length → (gI (relab t order (0 :: ks)) i).length = t.length := fun i hi => by
    unfold relab
    rw [gI_map (by omega), List.length_map, ol]
  have z0 : gI (0 :: ks) 0 = 0 := rfl
  refine ⟨by rw [hl]; exact h.n1, by rw [hl]; exact h.n8, fun r hr => ?_, fun r hr x hx => ?_, fun i j a1 a2 a3 a4 => ?_, fun i j a1 a2 a3 a4 => ?_, fun r hr x hx j h0 hj => ?_⟩
  · obtain ⟨i, hi, rfl⟩ := row r hr
    rw [rl i hi, hl]
  · obtain ⟨i, hi, rfl⟩ := row r hr
    obtain ⟨j, hj, rfl⟩ := mem_gI hx
    rw [rl i hi] at hj
    rw [relab_at (by omega) (by omega)]
    have q := e i j hi.1 hi.2 hj.1 hj.2
    have := k _ q.1 q.2
    omega
  · rw [hl] at a2 a4
    rw [relab_at (by omega) (by omega)]
    have q := e i j a1 a2 a3 a4
    have p1 := o i a1 a2
    have p2 := o j a3 a4
    constructor
    · intro w
      have := gI_inj nd (i := gI (gI t (gI order i)) (gI order j)) (j := 0) (by omega) (by omega) (w.trans z0.symm)
      exact gI_inj ond (by omega) (by omega) ((h.di _ _ p1.1 p1.2 p2.1 p2.2).mp this)
    · rintro rfl
      rw [(h.di _ _ p1.1 p1.2 p1.1 p1.2).mpr rfl]; rfl
  · rw [hl] at a2 a4
    rw [relab_at (by omega) (by omega), relab_at (by omega) (by omega)]
    have p1 := o i a1 a2
    have p2 := o j a3 a4
    rw [h.sy _ _ p1.1 p1.2 p2.1 p2.2]
  · obtain ⟨i, hi, rfl⟩ := row r hr
    obtain ⟨l, hj2, rfl⟩ := mem_gI hx
    rw [rl i hi] at hj2
    rw [relab_at (by omega) (by omega)] at hj
    have q := e i l hi.1 hi.2 hj2.1 hj2.2
    have q2 := k _ q.1 q.2
    have jm : j ∈ 0 :: ks := hk.mem_iff.mpr (mem_rg.mpr ⟨h0, by omega⟩)
    obtain ⟨x, hx1, rfl⟩ := mem_gI jm
    obtain ⟨r', hr', hx'⟩ := kinds_in_mem.mp (h.kmem.mpr ⟨hx1.1, by omega⟩)
    obtain ⟨a, ha, rfl⟩ := mem_gI hr'
    obtain ⟨b, hb, rfl⟩ := mem_gI hx'
    rw [h.row ha] at hb
    obtain ⟨a', ha', rfl⟩ := mem_gI (ho.mem_iff.mpr (mem_rg.mpr ha))
    obtain ⟨b', hb', rfl⟩ := mem_gI (ho.mem_iff.mpr (mem_rg.mpr hb))
    refine ⟨gI (relab t order (0 :: ks)) a', gI_mem (by omega), ?_⟩
    rw [← relab_at (t := t) ha' hb']
    exact gI_mem (by rw [rl a' (by omega)]; omega)
end
/-- drawn anew pair by pair -/
structure Pre (t : List (List Int)) : Prop where
  n1 : 1 ≤ t.length
  n8 : t.length ≤ 8
  sq : ∀ i : Int, 0 ≤ i ∧ i < t.length → (gI t i).length = t.length
  rg : ∀ i j : Int, 0 ≤ i ∧ i < t.length → 0 ≤ j ∧ j < t.length → 0 ≤ gI (gI t i) j ∧ gI (gI t i) j < t.length
  di : ∀ i j : Int, 0 ≤ i ∧ i < t.length → 0 ≤ j ∧ j < t.length → (gI (gI t i) j = 0 ↔ i = j)
  sy : ∀ i j : Int, 0 ≤ i ∧ i < t.length → 0 ≤ j ∧ j < t.length → gI (gI t i) j = gI (gI t j) i
theorem Tab.pre {t : List (List Int)} (h : Tab t) : Pre t := ⟨h.n1, h.n8, fun _ => h.row, fun _ _ => h.at_, fun i j a b => h.di i j a.1 a.2 b.1 b.2, fun i j a b => h.sy i j a.1 a.2 b.1 b.2⟩
theorem Pre.sym {t : List (List Int)} (h : Pre t) : Sym t := by
  have row : ∀ r ∈ t, ∃ i : Int, (0 ≤ i ∧ i < t.length) ∧ r = gI t i := fun r hr => by
    obtain ⟨i, hi, e⟩ := mem_gI hr
    exact ⟨i, hi, e.symm⟩
  have rg : ∀ r ∈ t, ∀ k ∈ r, 0 ≤ k ∧ k < t.length := fun r hr k hk => by
    obtain ⟨i, hi, rfl⟩ := row r hr
    obtain ⟨j, hj, rfl⟩ := mem_gI hk
    rw [h.sq i hi] at hj
    exact h.rg i j hi hj
  refine ⟨h.n1, h.n8, fun r hr => ?_, fun r hr k hk => (rg r hr k hk).1, fun i j a1 a2 a3 a4 => h.di i j ⟨a1, a2⟩ ⟨a3, a4⟩, fun i j a1 a2 a3 a4 => h.sy i j ⟨a1, a2⟩ ⟨a3, a4⟩, ct_of rg⟩
  obtain ⟨i, hi, rfl⟩ := row r hr
  exact h.sq i hi
theorem Pre.one {t : List (List Int)} (h : Pre t) {a b v : Int} (ha : 0 ≤ a ∧ a < t.length) (hb : 0 ≤ b ∧ b < t.length) : gI (gI (setE t a b v) a) b = v := by
  have := h.sq a ha
  rw [setE_at ha (by omega) ha (by omega), if_pos ⟨rfl, rfl⟩]
theorem Pre.step {t : List (List Int)} (h : Pre t) {a b v : Int} (ha : 0 ≤ a ∧ a < t.length) (hb : 0 ≤ b ∧ b < t.length) (hab : a ≠ b) (hv : 1 ≤ v ∧ v < t.length) : Pre (setE (setE t a b v) b a v) := by
  have l1 : (setE t a b v).length = t.length := setE_len
  have l2 : (setE (setE t a b v) b a v).length = t.length := by rw [setE_len, l1]
  have r1 : ∀ i : Int, 0 ≤ i ∧ i < t.length → (gI (setE t a b v) i).length = t.length := fun i hi => by rw [setE_row ha hi, h.sq i hi]
  have r2 : ∀ i : Int, 0 ≤ i ∧ i < t.length → (gI (setE (setE t a b v) b a v) i).length = t.length := fun i hi => by rw [setE_row (by rw [l1]; exact hb) (by rw [l1]; exact hi), r1 i hi]
  have at_ : ∀ i j : Int, 0 ≤ i ∧ i < t.length → 0 ≤ j ∧ j < t.length → gI (gI (setE (setE t a b v) b a v) i) j = if (i = b ∧ j = a) ∨ (i = a ∧ j = b) then v else gI (gI t i) j := fun i j hi hj => by
    have q1 := h.sq a ha
    have q2 := h.sq i hi
    have q3 := r1 b hb
    have q4 := r1 i hi
    rw [setE_at (by rw [l1]; exact hb) (by omega) (by rw [l1]; exact hi) (by omega), setE_at ha (by omega) hi (by omega)]
    by_cases z : i = b ∧ j = a
    · rw [if_pos z, if_pos (.inl z)]
    · rw [if_neg z]
      by_cases y : i = a ∧ j = b
      · rw [if_pos y, if_pos (.inr y)]
      · rw [if_neg y, if_neg (fun q => q.elim z y)]
  refine ⟨by rw [l2]; exact h.n1, by rw [l2]; exact h.n8, fun i hi => ?_, fun i j hi hj => ?_, fun i j hi hj => ?_, fun i j hi hj => ?_⟩
  all_goals rw [l2] at *
  · exact r2 i hi
  · rw [at_ i j hi hj]
    have := h.rg i j hi hj
    split <;> omega
  · rw [at_ i j hi hj]
    have := h.di i j hi hj
    split
    · omega
    · exact this
  · rw [at_ i j hi hj, at_ j i hj hi, h.sy i j hi hj]
    by_cases z : (i = b ∧ j = a) ∨ (i = a ∧ j = b)
    · rw [if_pos z, if_pos (by omega)]
    · rw [if_neg z, if_neg (by omega)]

def PLs : List (List (List Int)) := [
  [[0, 1, 2, 3, 4, 3, 2, 1], [1, 0, 1, 2, 3, 4, 3, 2], [2, 1, 0, 1, 2, 3, 4, 3], [3, 2, 1, 0, 1, 2, 3, 4], [4, 3, 2, 1, 0, 1, 2, 3], [3, 4, 3, 2, 1, 0, 1, 2], [2, 3, 4, 3, 2, 1, 0, 1], [1, 2, 3, 4, 3, 2, 1, 0]],
  [[0, 1, 2, 3, 3, 2, 1], [1, 0, 1, 2, 3, 3, 2], [2, 1, 0, 1, 2, 3, 3], [3, 2, 1, 0, 1, 2, 3], [3, 3, 2, 1, 0, 1, 2], [2, 3, 3, 2, 1, 0, 1], [1, 2, 3, 3, 2, 1, 0]],
  [[0, 1, 2, 3, 2, 1], [1, 0, 1, 2, 3, 2], [2, 1, 0, 1, 2, 3], [3, 2, 1, 0, 1, 2], [2, 3, 2, 1, 0, 1], [1, 2, 3, 2, 1, 0]],
  [[0, 1, 2, 2, 1], [1, 0, 1, 2, 2], [2, 1, 0, 1, 2], [2, 2, 1, 0, 1], [1, 2, 2, 1, 0]],
  [[0, 1, 2, 1], [1, 0, 1, 2], [2, 1, 0, 1], [1, 2, 1, 0]],
  [[0, 1, 1], [1, 0, 1], [1, 1, 0]],
  [[0, 1], [1, 0]],
  [[0]],
  [[0, 1, 1, 2, 1, 2, 2, 3], [1, 0, 2, 1, 2, 1, 3, 2], [1, 2, 0, 1, 2, 3, 1, 2], [2, 1, 1, 0, 3, 2, 2, 1], [1, 2, 2, 3, 0, 1, 1, 2], [2, 1, 3, 2, 1, 0, 2, 1], [2, 3, 1, 2, 1, 2, 0, 1], [3, 2, 2, 1, 2, 1, 1, 0]],
  [[0, 1, 1, 2], [1, 0, 2, 1], [1, 2, 0, 1], [2, 1, 1, 0]],
  [[0, 1, 1, 1, 1, 1, 1, 1], [1, 0, 1, 1, 1, 1, 1, 1], [1, 1, 0, 1, 1, 1, 1, 1], [1, 1, 1, 0, 1, 1, 1, 1], [1, 1, 1, 1, 0, 1, 1, 1], [1, 1, 1, 1, 1, 0, 1, 1], [1, 1, 1, 1, 1, 1, 0, 1], [1, 1, 1, 1, 1, 1, 1, 0]],
  [[0, 1, 1, 1, 1, 1, 1], [1, 0, 1, 1, 1, 1, 1], [1, 1, 0, 1, 1, 1, 1], [1, 1, 1, 0, 1, 1, 1], [1, 1, 1, 1, 0, 1, 1], [1, 1, 1, 1, 1, 0, 1], [1, 1, 1, 1, 1, 1, 0]],
  [[0, 1, 1, 1, 1, 1], [1, 0, 1, 1, 1, 1], [1, 1, 0, 1, 1, 1], [1, 1, 1, 0, 1, 1], [1, 1, 1, 1, 0, 1], [1, 1, 1, 1, 1, 0]],
  [[0, 1, 1, 1, 1], [1, 0, 1, 1, 1], [1, 1, 0, 1, 1], [1, 1, 1, 0, 1], [1, 1, 1, 1, 0]],
  [[0, 1, 1, 1], [1, 0, 1, 1], [1, 1, 0, 1], [1, 1, 1, 0]],
  [[0, 1, 2, 2, 2, 2, 2, 2], [1, 0, 2, 2, 2, 2, 2, 2], [2, 2, 0, 1, 2, 2, 2, 2], [2, 2, 1, 0, 2, 2, 2, 2], [2, 2, 2, 2, 0, 1, 2, 2], [2, 2, 2, 2, 1, 0, 2, 2], [2, 2, 2, 2, 2, 2, 0, 1], [2, 2, 2, 2, 2, 2, 1, 0]],
  [[0, 1, 1, 1, 2, 2, 2, 2], [1, 0, 1, 1, 2, 2, 2, 2], [1, 1, 0, 1, 2, 2, 2, 2], [1, 1, 1, 0, 2, 2, 2, 2], [2, 2, 2, 2, 0, 1, 1, 1], [2, 2, 2, 2, 1, 0, 1, 1], [2, 2, 2, 2, 1, 1, 0, 1], [2, 2, 2, 2, 1, 1, 1, 0]],
  [[0, 1, 2, 2, 2, 2], [1, 0, 2, 2, 2, 2], [2, 2, 0, 1, 2, 2], [2, 2, 1, 0, 2, 2], [2, 2, 2, 2, 0, 1], [2, 2, 2, 2, 1, 0]],
  [[0, 1, 1, 2, 2, 2], [1, 0, 1, 2, 2, 2], [1, 1, 0, 2, 2, 2], [2, 2, 2, 0, 1, 1], [2, 2, 2, 1, 0, 1], [2, 2, 2, 1, 1, 0]],
  [[0, 1, 2, 2], [1, 0, 2, 2], [2, 2, 0, 1], [2, 2, 1, 0]],
  [[0, 1, 1, 1, 1, 2], [1, 0, 1, 1, 2, 1], [1, 1, 0, 2, 1, 1], [1, 1, 2, 0, 1, 1], [1, 2, 1, 1, 0, 1], [2, 1, 1, 1, 1, 0]],
  [[0, 1, 2, 3], [1, 0, 3, 2], [2, 3, 0, 1], [3, 2, 1, 0]],
  [[0, 1, 2, 3, 4, 5, 6, 7], [1, 0, 3, 2, 5, 4, 7, 6], [2, 3, 0, 1, 6, 7, 4, 5], [3, 2, 1, 0, 7, 6, 5, 4], [4, 5, 6, 7, 0, 1, 2, 3], [5, 4, 7, 6, 1, 0, 3, 2], [6, 7, 4, 5, 2, 3, 0, 1], [7, 6, 5, 4, 3, 2, 1, 0]],
  [[0, 1, 2, 1, 3, 4, 5, 4], [1, 0, 1, 2, 4, 3, 4, 5], [2, 1, 0, 1, 5, 4, 3, 4], [1, 2, 1, 0, 4, 5, 4, 3], [3, 4, 5, 4, 0, 1, 2, 1], [4, 3, 4, 5, 1, 0, 1, 2], [5, 4, 3, 4, 2, 1, 0, 1], [4, 5, 4, 3, 1, 2, 1, 0]],
  [[0, 1, 1, 3, 4, 4], [1, 0, 1, 4, 3, 4], [1, 1, 0, 4, 4, 3], [3, 4, 4, 0, 1, 1], [4, 3, 4, 1, 0, 1], [4, 4, 3, 1, 1, 0]],
  [[0, 1, 3, 4], [1, 0, 4, 3], [3, 4, 0, 1], [4, 3, 1, 0]],
  [[0, 1, 2, 1, 3, 3, 3, 3], [1, 0, 1, 2, 3, 3, 3, 3], [2, 1, 0, 1, 3, 3, 3, 3], [1, 2, 1, 0, 3, 3, 3, 3], [3, 3, 3, 3, 0, 1, 2, 1], [3, 3, 3, 3, 1, 0, 1, 2], [3, 3, 3, 3, 2, 1, 0, 1], [3, 3, 3, 3, 1, 2, 1, 0]],
  [[0, 1, 1, 3, 3, 3], [1, 0, 1, 3, 3, 3], [1, 1, 0, 3, 3, 3], [3, 3, 3, 0, 1, 1], [3, 3, 3, 1, 0, 1], [3, 3, 3, 1, 1, 0]],
  [[0, 1, 3, 3], [1, 0, 3, 3], [3, 3, 0, 1], [3, 3, 1, 0]]]
theorem PLs_sym : ∀ t ∈ PLs, Sym t := fun t h => sym_dec t (List.all_eq_true.mp (show PLs.all symB = true by decide +kernel) t h)

/-! the shares of two places, counted -/
theorem repL_one (k : Nat) (x : Int) : repL k [x] = List.replicate k x := by unfold repL; induction k with
  | zero => rfl
  | succ k ih => rw [List.replicate_succ, List.flatten_cons, ih, List.replicate_succ]; rfl
def zeros (k : Int) : List (List Int) := (rg k).map fun _ => repL k.toNat ([(0 : Int)])
def inc (s : List (List Int)) (y : Int × Int) : List (List Int) := setE s y.1 y.2 ((gI (gI s y.1) y.2) + (1 : Int))
def cnt (ps : List (Int × Int)) (i j : Int) : Int := ((ps.filter fun p => decide (p = (i, j))).length : Int)
structure Sq (k : Int) (R : List (List Int)) : Prop where
  len : (R.length : Int) = k
  row : ∀ i : Int, 0 ≤ i ∧ i < k → ((gI R i).length : Int) = k
theorem zeros_sq {k : Int} (h : 0 ≤ k) : Sq k (zeros k) := by
  have e : ((zeros k).length : Int) = k := by unfold zeros; rw [List.length_map, rg_len]; omega
  refine ⟨e, fun i hi => ?_⟩
  unfold zeros
  rw [gI_map (by rw [rg_len]; omega), repL_one, List.length_replicate]; omega
theorem zeros_at {k i j : Int} (hi : 0 ≤ i ∧ i < k) (hj : 0 ≤ j ∧ j < k) : gI (gI (zeros k) i) j = 0 := by
  unfold zeros
  rw [gI_map (by rw [rg_len]; omega), repL_one]
  unfold gI
  rw [List.getD_eq_getElem?_getD, List.getElem?_replicate]
  split <;> rfl
theorem inc_sq {k : Int} {R : List (List Int)} (h : Sq k R) {y : Int × Int} (h1 : 0 ≤ y.1 ∧ y.1 < k) : Sq k (inc R y) := by
  have := h.len
  unfold inc
  refine ⟨by rw [setE_len]; exact h.len, fun i hi => ?_⟩
  rw [setE_row (by omega) (by omega)]
  exact h.row i hi
theorem fold_sq {k : Int} : ∀ (ps : List (Int × Int)) {R : List (List Int)}, Sq k R → (∀ p ∈ ps, (0 ≤ p.1 ∧ p.1 < k)) → Sq k (ps.foldl inc R)
  | [], R, h, _ => h
  | p :: ps, R, h, hp => fold_sq ps (inc_sq h (hp p List.mem_cons_self)) fun q hq => hp q (List.mem_cons_of_mem _ hq)
theorem fold_at {k i j : Int} (hi : 0 ≤ i ∧ i < k) (hj : 0 ≤ j ∧ j < k) : ∀ (ps : List (Int × Int)) {R : List (List Int)}, Sq k R → (∀ p ∈ ps, (0 ≤ p.1 ∧ p.1 < k) ∧ 0 ≤ p.2 ∧ p.2 < k) → gI (gI (ps.foldl inc R) i) j = gI (gI R i) j + cnt ps i j
  | [], R, h, _ => by unfold cnt; simp
  | p :: ps, R, h, hp => by
    have h1 := hp p List.mem_cons_self
    have hl := h.len
    have r1 := h.row p.1 h1.1
    have r2 := h.row i hi
    rw [List.foldl_cons, fold_at hi hj ps (inc_sq h h1.1) fun q hq => hp q (List.mem_cons_of_mem _ hq)]
    unfold inc cnt
    rw [setE_at (by omega) (by omega) (by omega) (by omega), List.filter_cons]
    by_cases e : i = p.1 ∧ j = p.2
    · obtain ⟨rfl, rfl⟩ := e
      rw [if_pos ⟨rfl, rfl⟩]
      simp
      omega
    · rw [if_neg e]
      have : ¬ p = (i, j) := fun z => e ⟨by rw [z], by rw [z]⟩
      simp [this]
/-- the pairs of kinds by which the places are near two -/
def prs (t : List (List Int)) (a b : Int) : List (Int × Int) := (gI t a).zip (gI t b)
theorem zip_rg {xs ys : List Int} {n : Int} (hx : (xs.length : Int) = n) (hy : (ys.length : Int) = n) : xs.zip ys = (rg n).map fun c => (gI xs c, gI ys c) := by
  refine List.ext_getElem? fun i => ?_
  rw [List.getElem?_map]
  by_cases h : i < n.toNat
  · rw [rg_get h, List.getElem?_eq_getElem (by rw [List.length_zip]; omega), List.getElem_zip]
    show some (xs[i], ys[i]) = some (gI xs (i : Int), gI ys (i : Int))
    rw [gI_nat, gI_nat]
  · rw [List.getElem?_eq_none (by rw [List.length_zip]; omega), List.getElem?_eq_none (by rw [rg_len]; omega)]; rfl
section
variable {t : List (List Int)} {a b : Int}
theorem prs_eq (h : Tab t) (ha : 0 ≤ a ∧ a < t.length) (hb : 0 ≤ b ∧ b < t.length) : prs t a b = (rg t.length).map fun c => (gI (gI t a) c, gI (gI t b) c) := by
  have h1 := h.row ha
  have h2 := h.row hb
  exact zip_rg (by omega) (by omega)
theorem prs_mem (h : Tab t) (ha : 0 ≤ a ∧ a < t.length) (hb : 0 ≤ b ∧ b < t.length) {p : Int × Int} (hp : p ∈ prs t a b) : (0 ≤ p.1 ∧ p.1 < many_kinds t) ∧ 0 ≤ p.2 ∧ p.2 < many_kinds t := by
  rw [prs_eq h ha hb] at hp
  obtain ⟨c, hc, rfl⟩ := List.mem_map.mp hp
  have hc := mem_rg.mp hc
  exact ⟨h.entry ha hc, h.entry hb hc⟩
theorem shares_in_eq : shares_in t a b = (prs t a b).foldl inc (zeros (many_kinds t)) := rfl
theorem shares_in_safe (h : Tab t) (ha : 0 ≤ a ∧ a < t.length) (hb : 0 ≤ b ∧ b < t.length) : Safe_shares_in t a b := by
  have m1 := h.mk1
  have m8 := h.mk8
  have n8 := h.n8
  have part : ∀ pre : List (Int × Int), (∀ p ∈ pre, p ∈ prs t a b) → Sq (many_kinds t) (pre.foldl inc (zeros (many_kinds t))) := fun pre hp => fold_sq pre (zeros_sq (by omega)) fun p hq => (prs_mem h ha hb (hp p hq)).1
  refine ⟨kinds_in_safe h, by omega, by rw [rg_len]; omega, fun x _ => ⟨by omega, by omega, ?_⟩, ha, hb, fun pre x post e => ?_, ?_⟩
  · show 1 * _ ≤ _; omega
  · have hx := prs_mem h ha hb (p := x) (by unfold prs; rw [e]; simp)
    have q := part pre fun p hp => by unfold prs; rw [e]; simp [hp]
    have q1 := q.len
    have q2 := q.row x.1 hx.1
    replace q1 : ((shares_in_lp1 pre (zeros (many_kinds t))).length : Int) = many_kinds t := q1
    replace q2 : ((gI (shares_in_lp1 pre (zeros (many_kinds t))) x.1).length : Int) = many_kinds t := q2
    unfold zeros at q1 q2
    refine ⟨⟨hx.1.1, ?_⟩, ⟨hx.2.1, ?_⟩, ⟨hx.1.1, ?_⟩, hx.2.1, ?_⟩ <;> omega
  · have q := (part (prs t a b) fun _ => id).len
    replace q : ((shares_in_lp1 ((gI t a).zip (gI t b)) (zeros (many_kinds t))).length : Int) = many_kinds t := q
    unfold zeros at q
    omega
theorem shares_sq (h : Tab t) (ha : 0 ≤ a ∧ a < t.length) (hb : 0 ≤ b ∧ b < t.length) : Sq (many_kinds t) (shares_in t a b) := by
  have m1 := h.mk1
  exact fold_sq _ (zeros_sq (by omega)) fun p hq => (prs_mem h ha hb hq).1
theorem shares_at (h : Tab t) (ha : 0 ≤ a ∧ a < t.length) (hb : 0 ≤ b ∧ b < t.length) {i j : Int} (hi : 0 ≤ i ∧ i < many_kinds t) (hj : 0 ≤ j ∧ j < many_kinds t) : gI (gI (shares_in t a b) i) j = cnt (prs t a b) i j := by
  have m1 := h.mk1
  rw [shares_in_eq, fold_at hi hj _ (zeros_sq (by omega)) fun p hq => prs_mem h ha hb hq, zeros_at hi hj, Int.zero_add]
theorem kinds_mk (h : Tab t) : kinds t = many_kinds t := by
  have := kinds_eq h
  unfold kinds_v1 at this
  unfold kinds
  omega
theorem shares_law (h : Tab t) (ha : 0 ≤ a ∧ a < t.length) (hb : 0 ≤ b ∧ b < t.length) : shares t a b = shares_in t a b := by
  unfold shares shares_lp1
  rw [kinds_mk h, shares_in_eq, prs_eq h ha hb, List.foldl_map]
  rfl
theorem kinds_safe0 (h : Tab t) : Safe_kinds t := by
  have n8 := h.n8
  exact ⟨by omega, fun r hr => h.ne r hr, fun z => h.neT (List.map_eq_nil_iff.mp z)⟩
theorem shares_safe (h : Tab t) (ha : 0 ≤ a ∧ a < t.length) (hb : 0 ≤ b ∧ b < t.length) : Safe_shares t a b := by
  have m1 := h.mk1
  have m8 := h.mk8
  have n8 := h.n8
  have km := kinds_mk h
  have part : ∀ pre : List Int, (∀ c ∈ pre, c ∈ rg (t.length : Int)) → Sq (many_kinds t) (shares_lp1 t a b pre (zeros (many_kinds t))) := fun pre hp => by
    have : shares_lp1 t a b pre (zeros (many_kinds t)) = (pre.map fun c => (gI (gI t a) c, gI (gI t b) c)).foldl inc (zeros (many_kinds t)) := by rw [List.foldl_map]; rfl
    rw [this]
    refine fold_sq _ (zeros_sq (by omega)) fun p hq => ?_
    obtain ⟨c, hc, rfl⟩ := List.mem_map.mp hq
    exact h.entry ha (mem_rg.mp (hp c hc))
  unfold zeros at part
  refine ⟨kinds_safe0 h, by omega, by rw [rg_len]; omega, fun x _ => ⟨by omega, by omega, ?_⟩, by omega, fun pre x post e => ?_, ?_⟩
  · show 1 * _ ≤ _; omega
  · have hx := mem_rg.mp (show x ∈ rg (t.length : Int) by rw [e]; simp)
    have q := part pre fun p hp => by rw [e]; simp [hp]
    have e1 := h.entry ha hx
    have e2 := h.entry hb hx
    have r1 := h.row ha
    have r2 := h.row hb
    have q1 := q.len
    have q2 := q.row _ e1
    rw [km]
    refine ⟨ha, ⟨hx.1, ?_⟩, hb, ⟨hx.1, ?_⟩, ⟨e1.1, ?_⟩, e2.1, ?_⟩ <;> omega
  · have q := (part (rg t.length) fun _ => id).len
    rw [km]
    omega
end

/-! breaks -/
theorem dget_in {α : Type} {xs : List (Int × α)} {k : Int} {v : α} (h : dget xs k = some v) : (k, v) ∈ xs := by
  induction xs with
  | nil => cases h
  | cons p r ih =>
    unfold dget at h
    split at h
    · rename_i e
      cases h
      subst e
      exact List.mem_cons_self
    · exact List.mem_cons_of_mem _ (ih h)
theorem dput_none {α : Type} {xs : List (Int × α)} {k : Int} {v : α} (h : dget xs k = none) : dput xs k v = xs ++ [(k, v)] := by
  induction xs with
  | nil => rfl
  | cons p r ih =>
    unfold dget at h
    split at h
    · cases h
    · rename_i e
      unfold dput
      rw [if_neg e, ih h]; rfl
theorem foldl_append {α β : Type} (f : α → List β) : ∀ (xs : List α) (s : List β), xs.foldl (fun s x => s ++ f x) s = s ++ xs.flatMap f
  | [], s => by simp
  | x :: xs, s => by rw [List.foldl_cons, foldl_append f xs, List.flatMap_cons, List.append_assoc]
theorem pairs_eq (t : List (List Int)) : pairsOf t = (rg t.length).flatMap fun a => (rg t.length).map fun b => (a, b) := by
  unfold pairsOf pairsOf_lp1
  have := foldl_append (fun a : Int => (rg (t.length : Int)).map fun b => (a, b)) (rg t.length) ([] : List (Int × Int))
  rw [List.nil_append] at this
  exact this
theorem pairs_mem {t : List (List Int)} {q : Int × Int} : q ∈ pairsOf t ↔ (0 ≤ q.1 ∧ q.1 < t.length) ∧ 0 ≤ q.2 ∧ q.2 < t.length := by
  rw [pairs_eq, List.mem_flatMap]
  constructor
  · rintro ⟨a, ha, hq⟩
    obtain ⟨b, hb, rfl⟩ := List.mem_map.mp hq
    exact ⟨mem_rg.mp ha, mem_rg.mp hb⟩
  · rintro ⟨h1, h2⟩
    exact ⟨q.1, mem_rg.mpr h1, List.mem_map.mpr ⟨q.2, mem_rg.mpr h2, rfl⟩⟩
theorem flatMap_len {α β : Type} {f : α → List β} {n : Nat} : ∀ {xs : List α}, (∀ x ∈ xs, (f x).length ≤ n) → (xs.flatMap f).length ≤ xs.length * n
  | [], _ => by simp
  | x :: xs, h => by
    have h1 := h x List.mem_cons_self
    have h2 := flatMap_len fun y hy => h y (List.mem_cons_of_mem x hy)
    rw [List.flatMap_cons, List.length_append, List.length_cons, Nat.succ_mul]
    omega
theorem pairs_lenN {n : Nat} (h : n ≤ 8) (pre : List Int) (hp : pre.length ≤ 8) : (pre.flatMap fun a => (rg (n : Int)).map fun b => (a, b)).length ≤ 64 := by
  have := flatMap_len (f := fun a : Int => (rg (n : Int)).map fun b => (a, b)) (n := 8) (xs := pre) fun x _ => by rw [List.length_map, rg_len]; omega
  have : pre.length * 8 ≤ 64 := by omega
  omega
theorem pairs_len {t : List (List Int)} (T : Tab t) : (pairsOf t).length ≤ 64 := by
  rw [pairs_eq]
  exact pairs_lenN T.n8 _ (by rw [rg_len]; have := T.n8; omega)
theorem lp1_eq (t : List (List Int)) (pre : List Int) : pairsOf_lp1 t pre ([] : List (Int × Int)) = pre.flatMap fun a => (rg (t.length : Int)).map fun b => (a, b) := by
  unfold pairsOf_lp1
  have := foldl_append (fun a : Int => (rg (t.length : Int)).map fun b => (a, b)) pre ([] : List (Int × Int))
  rw [List.nil_append] at this
  exact this
theorem pairs_safe {t : List (List Int)} (T : Tab t) : Safe_pairsOf t := by
  have n8 := T.n8
  refine ⟨by omega, fun pre x post e => ⟨by omega, by rw [rg_len]; omega, ?_⟩⟩
  have hp : pre.length ≤ 8 := by
    have := congrArg List.length e
    rw [rg_len, List.length_append] at this
    omega
  rw [lp1_eq, List.length_map, rg_len]
  have := pairs_lenN (n := t.length) n8 pre hp
  omega
theorem break_safe {t : List (List Int)} (T : Tab t) : Safe_break_in t := ⟨pairs_safe T, fun q hq => by
  have h := pairs_mem.mp hq
  have := T.row h.1
  exact ⟨shares_in_safe T h.1 h.2, h.1, by omega⟩, pairs_len T⟩

end Fn
set_option Elab.async false
set_option linter.all false
set_option maxRecDepth 100000
set_option maxHeartbeats 4000000
namespace Law93
open Mo PySem PySem.Spec L2
open PyProof.Rows hiding St
open LamX (CodeO TabS Tabs ExtN TabB)
abbrev row := PySem.Challenge.rw_nearkinds_k93_lines_that_are_none
def top (i : Nat) : Stmt := PySem.Challenge.pw_nearkinds_k93_lines_that_are_none.main.body.getD i (.Pass ⟨0, 0, 0, 0⟩)
abbrev s_is_whole : Stmt := top 19
def d_is_whole : He.DefD := ⟨("is_whole", none), "is_whole", "is_whole", defArgs s_is_whole, defBody s_is_whole, defScope s_is_whole, [], []⟩
abbrev s_is_upto : Stmt := top 20
def d_is_upto : He.DefD := ⟨("is_upto", none), "is_upto", "is_upto", defArgs s_is_upto, defBody s_is_upto, defScope s_is_upto, [], []⟩
abbrev s_is_row : Stmt := top 21
def d_is_row : He.DefD := ⟨("is_row", none), "is_row", "is_row", defArgs s_is_row, defBody s_is_row, defScope s_is_row, [], []⟩
abbrev s_kinds_in : Stmt := top 22
def d_kinds_in : He.DefD := ⟨("kinds_in", none), "kinds_in", "kinds_in", defArgs s_kinds_in, defBody s_kinds_in, defScope s_kinds_in, [], []⟩
abbrev s_is_table : Stmt := top 23
def d_is_table : He.DefD := ⟨("is_table", none), "is_table", "is_table", defArgs s_is_table, defBody s_is_table, defScope s_is_table, [], []⟩
abbrev s_many_kinds : Stmt := top 24
def d_many_kinds : He.DefD := ⟨("many_kinds", none), "many_kinds", "many_kinds", defArgs s_many_kinds, defBody s_many_kinds, defScope s_many_kinds, [], []⟩
abbrev s_shares_in : Stmt := top 25
def d_shares_in : He.DefD := ⟨("shares_in", none), "shares_in", "shares_in", defArgs s_shares_in, defBody s_shares_in, defScope s_shares_in, [], []⟩
abbrev s_pairs_of : Stmt := top 26
def d_pairs_of : He.DefD := ⟨("pairs_of", none), "pairs_of", "pairs_of", defArgs s_pairs_of, defBody s_pairs_of, defScope s_pairs_of, [], []⟩
abbrev s_break_in : Stmt := top 27
def d_break_in : He.DefD := ⟨("break_in", none), "break_in", "break_in", defArgs s_break_in, defBody s_break_in, defScope s_break_in, [], []⟩
abbrev s_is_rising : Stmt := top 29
def d_is_rising : He.DefD := ⟨("is_rising", none), "is_rising", "is_rising", defArgs s_is_rising, defBody s_is_rising, defScope s_is_rising, [], []⟩
abbrev s_free_good : Stmt := top 30
def d_free_good : He.DefD := ⟨("free_good", none), "free_good", "free_good", defArgs s_free_good, defBody s_free_good, defScope s_free_good, [], []⟩
abbrev s_free_lots : Stmt := top 31
def d_free_lots : He.DefD := ⟨("free_lots", none), "free_lots", "free_lots", defArgs s_free_lots, defBody s_free_lots, defScope s_free_lots, [], []⟩
abbrev s_most_in : Stmt := top 32
def d_most_in : He.DefD := ⟨("most_in", none), "most_in", "most_in", defArgs s_most_in, defBody s_most_in, defScope s_most_in, [], []⟩
abbrev s_shown : Stmt := top 35
def d_shown : He.DefD := ⟨("shown", none), "shown", "shown", defArgs s_shown, defBody s_shown, defScope s_shown, [], []⟩
abbrev s_row_in : Stmt := top 36
def d_row_in : He.DefD := ⟨("row_in", none), "row_in", "row_in", defArgs s_row_in, defBody s_row_in, defScope s_row_in, [], []⟩
abbrev s_read_table : Stmt := top 37
def d_read_table : He.DefD := ⟨("read_table", none), "read_table", "read_table", defArgs s_read_table, defBody s_read_table, defScope s_read_table, [], []⟩
abbrev s_told_figure : Stmt := top 41
def d_told_figure : He.DefD := ⟨("told_figure", none), "told_figure", "told_figure", defArgs s_told_figure, defBody s_told_figure, defScope s_told_figure, [], []⟩
abbrev s_exchanged : Stmt := top 42
def d_exchanged : He.DefD := ⟨("exchanged", none), "exchanged", "exchanged", defArgs s_exchanged, defBody s_exchanged, defScope s_exchanged, [], []⟩
abbrev s__law_refused : Stmt := top 45
def d__law_refused : He.DefD := ⟨("_law_refused", none), "_law_refused", "_law_refused", defArgs s__law_refused, defBody s__law_refused, defScope s__law_refused, [], []⟩
abbrev s__law_bad : Stmt := top 46
def d__law_bad : He.DefD := ⟨("_law_bad", none), "_law_bad", "_law_bad", defArgs s__law_bad, defBody s__law_bad, defScope s__law_bad, [], []⟩
abbrev s_law : Stmt := top 47
def d_law : He.DefD := ⟨("law", none), "law", "law", defArgs s_law, defBody s_law, defScope s_law, [], []⟩
abbrev s_Desk_say : Stmt := clsAt (top 43) 1
def d_Desk_say : He.DefD := ⟨("Desk", some "say"), "say", "Desk.say", defArgs s_Desk_say, defBody s_Desk_say, defScope s_Desk_say, [], []⟩
abbrev s_Desk_keep : Stmt := clsAt (top 43) 2
def d_Desk_keep : He.DefD := ⟨("Desk", some "keep"), "keep", "Desk.keep", defArgs s_Desk_keep, defBody s_Desk_keep, defScope s_Desk_keep, [], []⟩
abbrev s_Desk_greatest_lot : Stmt := clsAt (top 43) 3
def d_Desk_greatest_lot : He.DefD := ⟨("Desk", some "greatest_lot"), "greatest_lot", "Desk.greatest_lot", defArgs s_Desk_greatest_lot, defBody s_Desk_greatest_lot, defScope s_Desk_greatest_lot, [], []⟩
abbrev s_Desk_of_two : Stmt := clsAt (top 43) 4
def d_Desk_of_two : He.DefD := ⟨("Desk", some "of_two"), "of_two", "Desk.of_two", defArgs s_Desk_of_two, defBody s_Desk_of_two, defScope s_Desk_of_two, [], []⟩
abbrev s_Desk_of_kinds : Stmt := clsAt (top 43) 5
def d_Desk_of_kinds : He.DefD := ⟨("Desk", some "of_kinds"), "of_kinds", "Desk.of_kinds", defArgs s_Desk_of_kinds, defBody s_Desk_of_kinds, defScope s_Desk_of_kinds, [], []⟩
abbrev s_Desk_alone : Stmt := clsAt (top 43) 6
def d_Desk_alone : He.DefD := ⟨("Desk", some "alone"), "alone", "Desk.alone", defArgs s_Desk_alone, defBody s_Desk_alone, defScope s_Desk_alone, [], []⟩
abbrev s_Desk_init : Stmt := clsAt (top 43) 0
def d_Desk_init : He.DefD := ⟨("Desk", some "__init__"), "__init__", "Desk.__init__", defArgs s_Desk_init, defBody s_Desk_init, defScope s_Desk_init, [], []⟩
def fn0 : List He.DefD := [d_is_whole, d_is_upto, d_is_row, d_kinds_in, d_is_table, d_many_kinds, d_shares_in, d_pairs_of, d_break_in, d_is_rising, d_free_good, d_free_lots, d_most_in, d_shown, d_row_in, d_read_table, d_told_figure, d_exchanged, d__law_refused, d__law_bad]
def fn1 : List He.DefD := [d_law]
def fn : List He.DefD := fn0 ++ fn1
def frees0 : List Str := ["ValueError", "all", "bool", "enumerate", "int", "isinstance", "len", "list", "max", "min", "range", "sorted", "str", "tuple", "zip"]
def frees : List Str := frees0
def gints0 : List (Str × Int) := [("MOST_PLACES", 8)]
def gints : List (Str × Int) := gints0
def fm0 : List He.DefD := [d_Desk_say, d_Desk_keep, d_Desk_greatest_lot, d_Desk_of_two, d_Desk_of_kinds, d_Desk_alone]
def fm : List He.DefD := fm0
def flds0 : List Str := ["table", "past"]
def flds : List Str := flds0
def gtups : List (Str × List Str) := [("ALONE", ["back", "table", "steady", "break"]), ("OF_TWO", ["one", "kinds", "places", "shares"])]
def fnA : List He.DefD := fn ++ (fm ++ [d_Desk_init])
def gstrs0 : List (Str × Str) := [("FIGURES", "0123456789")]
def gstrs : List (Str × Str) := gstrs0
def xcs0 : List Str := ["NearError", "NoTable", "NotSteady", "NoPlace", "NoKind", "NoMix", "NoNumber", "NoLot", "NoKinds", "NoPaper", "NoParting", "NoClosed", "TooMany", "NoText", "NoLine", "NoDeed"]
def xcs : List Str := xcs0
def xtb (c d : Str) : Bool := c == d || d == "NearError"
def tf : List (Str × Option Str) := [("law", none)]
def tabs (K : PySem.W.Frag) : List (Addr × Str) := [((He.cT K ("law", none)).2, (("law" ++ ".<locals>.") ++ "<lambda>" : Str))]
structure Fx (K : PySem.W.Frag) (mg : Str → Option Value) : Prop where
  df : ∀ (i : Nat) (d : He.DefD), fn[i]? = some d → Df K mg d
  fr : ∀ (i : Nat) (x : Str), frees[i]? = some x → mg x = none
  gi : ∀ (i : Nat) (x : Str) (n : Int), gints[i]? = some (x, n) → ∃ t, mg x = some (.int n t)
  gs : ∀ (i : Nat) (x z : Str), gstrs[i]? = some (x, z) → ∃ t, mg x = some (.str z t)
  xc : ∀ (i : Nat) (x : Str), xcs[i]? = some x → XC K mg x
  xt : ExT K mg xcs xtb
  xm : ∀ c ∈ xcs, ∃ Ca, mg c = some (.ref Ca) ∧ PySem.W.exmOne K (.ref Ca) (.ref (He.ga K "NearError")) = some true
  cc : CC K mg "Desk"
  na : ∀ (i : Nat) (f : Str), flds[i]? = some f → NoAttr K (He.ga K "Desk") f
  dm : ∀ (i : Nat) (d : He.DefD), fm[i]? = some d → Dm K "Desk" d
  di : Di K "Desk" d_Desk_init
  tg : ∀ (i : Nat) (x : Str) (xs : List Str), gtups[i]? = some (x, xs) → mg x = some (.ref (He.ga K x)) ∧ He.tupB K x (xs.map He.Dv.str) = true
section
variable {P : Program} {w : World} {K : PySem.W.Frag} {mg : Str → Option Value} {base : Heap} {lams : List LamD} {q : Str} {cells : List (Str × Addr)} {cv : Nat → List V → Prop}
theorem sc_is_whole : FnScope ["thing"] ["thing"] (defScope s_is_whole) := ⟨rfl, rfl, rfl, by decide +kernel, rfl, by decide +kernel, by decide +kernel⟩
def lams_is_whole : List LamD := []
def m_is_whole : MS := mRet (mAnd (mAp isiW (mCons (mVar 0) (mCons (mC (.ty "int")) (mNil)))) (mNot (mAp isiW (mCons (mVar 0) (mCons (mC (.ty "bool")) (mNil))))))
def M_is_whole : MD := mDef 1 m_is_whole
theorem ok_is_whole (c : Fx K mg) : FG P w K mg base (glo K mg (tabs K) q lams cells cv) "is_whole" 1 1 (M_is_whole) :=
  (c.df 0 d_is_whole rfl).fg (N := ["thing"]) (ps := ["thing"]) sc_is_whole (fun _ _ _ _ _ _ us hl => match us, hl with | [_], _ => rfl) fun cdv A outer s H E hr => by
    have sc := sc_is_whole
    exact sm_one (sm_ret (em_and (em_b (c_isi rfl) (c.fr 5 "isinstance" rfl) (am_cons (em_var (pv 0)) (am_cons (em_tyv (c.fr 4 "int" rfl)) (am_nil)))) (em_one (em_not (em_b (c_isi rfl) (c.fr 5 "isinstance" rfl) (am_cons (em_var (pv 0)) (am_cons (em_tyv (c.fr 2 "bool" rfl)) (am_nil))))))))
theorem sc_is_upto : FnScope ["thing", "low", "high"] ["thing", "low", "high"] (defScope s_is_upto) := ⟨rfl, rfl, rfl, by decide +kernel, rfl, by decide +kernel, by decide +kernel⟩
def lams_is_upto : List LamD := []
def m_is_upto : MS := mRet (mAnd (mAp (gPure 1 M_is_whole) (mCons (mVar 0) (mNil))) (mChain leW leW (mVar 1) (mVar 0) (mVar 2)))
def M_is_upto : MD := mDef 3 m_is_upto
theorem ok_is_upto (c : Fx K mg) : FG P w K mg base (glo K mg (tabs K) q lams cells cv) "is_upto" 2 3 (M_is_upto) :=
  (c.df 1 d_is_upto rfl).fg (N := ["thing", "low", "high"]) (ps := ["thing", "low", "high"]) sc_is_upto (fun _ _ _ _ _ _ us hl => match us, hl with | [_, _, _], _ => rfl) fun cdv A outer s H E hr => by
    have sc := sc_is_upto
    exact sm_one (sm_ret (em_and (em_fP (ok_is_whole c) hr pas_of (am_cons (em_var (pv 0)) (am_nil))) (em_one (em_chain (o_le) (o_le) (em_var (pv 1)) (em_var (pv 0)) (em_var (pv 2))))))
theorem sc_is_row : FnScope ["many", "thing", "one"] ["many", "thing"] (defScope s_is_row) := ⟨rfl, rfl, rfl, by decide +kernel, rfl, by decide +kernel, by decide +kernel⟩
def lams_is_row : List LamD := []
def m_is_row : MS := mRet (mAnd (mAp isiW (mCons (mVar 1) (mCons (mC (.ty "tuple")) (mNil)))) (mAnd (mBin eqW (mAp lenW (mCons (mVar 1) (mNil))) (mVar 0)) (mAp allW (mCons (mLc (mItV (mVar 1)) [2] (tgN 2) (tYesM) (mAp (gPure 3 M_is_upto) (mCons (mVar 2) (mCons (mC (.int 0)) (mCons (mBin subW (mVar 0) (mC (.int 1))) (mNil)))))) (mNil)))))
def M_is_row : MD := mDef 3 m_is_row
theorem ok_is_row (c : Fx K mg) : FG P w K mg base (glo K mg (tabs K) q lams cells cv) "is_row" 3 2 (M_is_row) :=
  (c.df 2 d_is_row rfl).fg (N := ["many", "thing", "one"]) (ps := ["many", "thing"]) sc_is_row (fun _ _ _ _ _ _ us hl => match us, hl with | [_, _], _ => rfl) fun cdv A outer s H E hr => by
    have sc := sc_is_row
    exact sm_one (sm_ret (em_and (em_b (c_isi rfl) (c.fr 5 "isinstance" rfl) (am_cons (em_var (pv 1)) (am_cons (em_tyv (c.fr 13 "tuple" rfl)) (am_nil)))) (em_and (em_cmp (o_eq rfl hr.units) (em_b (c_len rfl) (c.fr 6 "len" rfl) (am_cons (em_var (pv 1)) (am_nil))) (em_var (pv 0))) (em_one (em_b (c_all rfl rfl) (c.fr 1 "all" rfl) (am_cons (em_lc (gm_name (i := 2)) (by decide) rfl sc.nd (im_val (em_var (pv 1))) (blkOk_by (own := [("one", 2)]) (by kernel_rfl)) (fun _s _H _C _cl _fp => pg_name (i := 2) sc.nd rfl (by first | exact Or.inl rfl | exact Or.inr rfl)) (fun _s _H _C _cl _fp => ptm_nil) (fun _s _H _C _cl _fp => em_fP (ok_is_upto c) hr passL (am_cons (em_var (pv 2)) (am_cons (em_int) (am_cons (em_op (o_sub) (em_var (pv 0)) (em_int)) (am_nil)))))) (am_nil)))))))
theorem sc_kinds_in : FnScope ["rows", "found", "row", "kind"] ["rows"] (defScope s_kinds_in) := ⟨rfl, rfl, rfl, by decide +kernel, rfl, by decide +kernel, by decide +kernel⟩
def lams_kinds_in : List LamD := []
def m_kinds_in : MS := mSeq (mSet 1 (mDictN)) (mSeq (mFor (mItV (mVar 0)) (tgN 2) (mFor (mItV (mVar 2)) (tgN 3) (mSetK (mC (.bl true)) (mVar 1) (mVar 3)))) (mRet (mAp sortAW (mCons (mVar 1) (mNil)))))
def M_kinds_in : MD := mDef 4 m_kinds_in
theorem ok_kinds_in (c : Fx K mg) : FG P w K mg base (glo K mg (tabs K) q lams cells cv) "kinds_in" 1 1 (M_kinds_in) :=
  (c.df 3 d_kinds_in rfl).fg (N := ["rows", "found", "row", "kind"]) (ps := ["rows"]) sc_kinds_in (fun _ _ _ _ _ _ us hl => match us, hl with | [_], _ => rfl) fun cdv A outer s H E hr => by
    have sc := sc_kinds_in
    exact sm_cons (sm_set (i := 1) (em_dictN) sc.nd) (sm_cons (sm_for (gm_name (i := 2)) (passes_of rfl) rfl (im_val (em_var (pv 0))) (pg_name (i := 2) sc.nd rfl (by first | exact Or.inl rfl | exact Or.inr rfl)) (sm_one (sm_for (gm_name (i := 3)) (passes_of rfl) rfl (im_val (em_var (pv 2))) (pg_name (i := 3) sc.nd rfl (by first | exact Or.inl rfl | exact Or.inr rfl)) (sm_one (sm_setK hr.units (em_bl) (em_var (pv 1)) (em_var (pv 3))))))) (sm_one (sm_ret (em_b (c_sortA rfl rfl hr.units) (c.fr 11 "sorted" rfl) (am_cons (em_var (pv 1)) (am_nil))))))
theorem sc_is_table : FnScope ["thing", "row", "a", "b", "kind"] ["thing"] (defScope s_is_table) := ⟨rfl, rfl, rfl, by decide +kernel, rfl, by decide +kernel, by decide +kernel⟩
def lams_is_table : List LamD := []
def m_is_table : MS := mSeq (mCond (mOrT (mNotT (mIsT (mAp isiW (mCons (mVar 0) (mCons (mC (.ty "tuple")) (mNil)))))) (mNotT (mIsT (mChain leW leW (mC (.int 1)) (mAp lenW (mCons (mVar 0) (mNil))) (mC (.int 8)))))) (mRet (mC (.bl false))) (mSkip)) (mSeq (mCond (mNotT (mIsT (mAp allW (mCons (mLc (mItV (mVar 0)) [1] (tgN 1) (tYesM) (mAp (gPure 2 M_is_row) (mCons (mAp lenW (mCons (mVar 0) (mNil))) (mCons (mVar 1) (mNil))))) (mNil))))) (mRet (mC (.bl false))) (mSkip)) (mSeq (mFor (mEnum (mCons (mVar 0) (mNil))) (tgT [2, 1]) (mCond (mNotT (mIsT (mAp allW (mCons (mLc (mEnum (mCons (mVar 1) (mNil))) [3, 4] (tgT [3, 4]) (tYesM) (mAnd (mBin eqW (mBin eqW (mVar 4) (mC (.int 0))) (mBin eqW (mVar 2) (mVar 3))) (mBin eqW (mVar 4) (mBin idxW (mBin idxW (mVar 0) (mVar 3)) (mVar 2))))) (mNil))))) (mRet (mC (.bl false))) (mSkip))) (mRet (mBin eqW (mAp (gPure 1 M_kinds_in) (mCons (mVar 0) (mNil))) (mAp lrngW (mCons (mAp lenW (mCons (mAp (gPure 1 M_kinds_in) (mCons (mVar 0) (mNil))) (mNil))) (mNil)))))))
def M_is_table : MD := mDef 5 m_is_table
theorem ok_is_table (c : Fx K mg) : FG P w K mg base (glo K mg (tabs K) q lams cells cv) "is_table" 4 1 (M_is_table) :=
  (c.df 4 d_is_table rfl).fg (N := ["thing", "row", "a", "b", "kind"]) (ps := ["thing"]) sc_is_table (fun _ _ _ _ _ _ us hl => match us, hl with | [_], _ => rfl) fun cdv A outer s H E hr => by
    have sc := sc_is_table
    exact sm_cons (sm_if ((wm_or (tm_not (tm_val (em_b (c_isi rfl) (c.fr 5 "isinstance" rfl) (am_cons (em_var (pv 0)) (am_cons (em_tyv (c.fr 13 "tuple" rfl)) (am_nil)))))) (wm_or1 (tm_not (tm_chain (o_le) (o_le) (em_int) (em_b (c_len rfl) (c.fr 6 "len" rfl) (am_cons (em_var (pv 0)) (am_nil))) (em_gi (c.gi 0 "MOST_PLACES" 8 rfl)))))).pt) (sm_one (sm_ret (em_bl))) (sm_nil)) (sm_cons (sm_if (tm_not (tm_val (em_b (c_all rfl rfl) (c.fr 1 "all" rfl) (am_cons (em_lc (gm_name (i := 1)) (by decide) rfl sc.nd (im_val (em_var (pv 0))) (blkOk_by (own := [("row", 1)]) (by kernel_rfl)) (fun _s _H _C _cl _fp => pg_name (i := 1) sc.nd rfl (by first | exact Or.inl rfl | exact Or.inr rfl)) (fun _s _H _C _cl _fp => ptm_nil) (fun _s _H _C _cl _fp => em_fP (ok_is_row c) hr passL (am_cons (em_b (c_len rfl) (c.fr 6 "len" rfl) (am_cons (em_var (pv 0)) (am_nil))) (am_cons (em_var (pv 1)) (am_nil))))) (am_nil))))) (sm_one (sm_ret (em_bl))) (sm_nil)) (sm_cons (sm_for (gm_tup (is := [2, 1]) rfl) (passes_of rfl) rfl (im_enum rfl (by rfl) (c.fr 3 "enumerate" rfl) (am_cons (em_var (pv 0)) (am_nil))) (pg_tup rfl (pgs_cons (pg_name (i := 2) sc.nd rfl (by first | exact Or.inl rfl | exact Or.inr rfl)) (pgs_cons (pg_name (i := 1) sc.nd rfl (by first | exact Or.inl rfl | exact Or.inr rfl)) (pgs_nil)))) (sm_one (sm_if (tm_not (tm_val (em_b (c_all rfl rfl) (c.fr 1 "all" rfl) (am_cons (em_lc (gm_tup (is := [3, 4]) rfl) (by decide) rfl sc.nd (im_enum rfl (by rfl) (c.fr 3 "enumerate" rfl) (am_cons (em_var (pv 1)) (am_nil))) (blkOk_by (own := [("b", 3), ("kind", 4)]) (by kernel_rfl)) (fun _s _H _C _cl _fp => pg_tup rfl (pgs_cons (pg_name (i := 3) sc.nd rfl (by first | exact Or.inl rfl | exact Or.inr rfl)) (pgs_cons (pg_name (i := 4) sc.nd rfl (by first | exact Or.inl rfl | exact Or.inr rfl)) (pgs_nil)))) (fun _s _H _C _cl _fp => ptm_nil) (fun _s _H _C _cl _fp => em_and (em_cmp (o_eq rfl hr.units) (em_cmp (o_eq rfl hr.units) (em_var (pv 4)) (em_int)) (em_cmp (o_eq rfl hr.units) (em_var (pv 2)) (em_var (pv 3)))) (em_one (em_cmp (o_eq rfl hr.units) (em_var (pv 4)) (em_ix (o_idx rfl) (em_ix (o_idx rfl) (em_var (pv 0)) (em_var (pv 3))) (em_var (pv 2))))))) (am_nil))))) (sm_one (sm_ret (em_bl))) (sm_nil)))) (sm_one (sm_ret (em_cmp (o_eq rfl hr.units) (em_fP (ok_kinds_in c) hr pas_of (am_cons (em_var (pv 0)) (am_nil))) (em_lrng (c.fr 7 "list" rfl) (c.fr 10 "range" rfl) (em_b (c_len rfl) (c.fr 6 "len" rfl) (am_cons (em_fP (ok_kinds_in c) hr pas_of (am_cons (em_var (pv 0)) (am_nil))) (am_nil)))))))))
theorem sc_many_kinds : FnScope ["table"] ["table"] (defScope s_many_kinds) := ⟨rfl, rfl, rfl, by decide +kernel, rfl, by decide +kernel, by decide +kernel⟩
def lams_many_kinds : List LamD := []
def m_many_kinds : MS := mRet (mAp lenW (mCons (mAp (gPure 1 M_kinds_in) (mCons (mVar 0) (mNil))) (mNil)))
def M_many_kinds : MD := mDef 1 m_many_kinds
theorem ok_many_kinds (c : Fx K mg) : FG P w K mg base (glo K mg (tabs K) q lams cells cv) "many_kinds" 2 1 (M_many_kinds) :=
  (c.df 5 d_many_kinds rfl).fg (N := ["table"]) (ps := ["table"]) sc_many_kinds (fun _ _ _ _ _ _ us hl => match us, hl with | [_], _ => rfl) fun cdv A outer s H E hr => by
    have sc := sc_many_kinds
    exact sm_one (sm_ret (em_b (c_len rfl) (c.fr 6 "len" rfl) (am_cons (em_fP (ok_kinds_in c) hr pas_of (am_cons (em_var (pv 0)) (am_nil))) (am_nil))))
theorem sc_shares_in : FnScope ["table", "one", "other", "kinds", "found", "kind", "first", "second", "row"] ["table", "one", "other"] (defScope s_shares_in) := ⟨rfl, rfl, rfl, by decide +kernel, rfl, by decide +kernel, by decide +kernel⟩
def lams_shares_in : List LamD := []
def m_shares_in : MS := mSeq (mSet 3 (mAp (gPure 1 M_many_kinds) (mCons (mVar 0) (mNil)))) (mSeq (mSet 4 (mLc (mRng1 (mCons (mVar 3) (mNil))) [5] (tgN 5) (tYesM) (mBin mulN (mLst (mCons (mC (.int 0)) (mNil))) (mVar 3)))) (mSeq (mFor (mZipB (mCons (mBin idxW (mVar 0) (mVar 1)) (mCons (mBin idxW (mVar 0) (mVar 2)) (mNil)))) (tgT [6, 7]) (mSetIx (mBin addW (mBin idxW (mBin idxW (mVar 4) (mVar 6)) (mVar 7)) (mC (.int 1))) (mBin idxW (mVar 4) (mVar 6)) (mVar 7))) (mRet (mAp tupleW (mCons (mLc (mItV (mVar 4)) [8] (tgN 8) (tYesM) (mAp tupleW (mCons (mVar 8) (mNil)))) (mNil))))))
def M_shares_in : MD := mDef 9 m_shares_in
theorem ok_shares_in (c : Fx K mg) : FG P w K mg base (glo K mg (tabs K) q lams cells cv) "shares_in" 3 3 (M_shares_in) :=
  (c.df 6 d_shares_in rfl).fg (N := ["table", "one", "other", "kinds", "found", "kind", "first", "second", "row"]) (ps := ["table", "one", "other"]) sc_shares_in (fun _ _ _ _ _ _ us hl => match us, hl with | [_, _, _], _ => rfl) fun cdv A outer s H E hr => by
    have sc := sc_shares_in
    exact sm_cons (sm_set (i := 3) (em_fP (ok_many_kinds c) hr pas_of (am_cons (em_var (pv 0)) (am_nil))) sc.nd) (sm_cons (sm_setLc (i := 4) (gm_name (i := 5)) (by decide) rfl sc.nd rfl rfl (sw_true rfl rfl rfl (by decide +kernel)) (im_rng1 (by rfl) (c.fr 10 "range" rfl) (am_cons (em_var (pv 3)) (am_nil))) (blkOk_by (own := [("kind", 5)]) (by kernel_rfl)) (fun _s _H _C _cl _fp => pg_name (i := 5) sc.nd rfl (by first | exact Or.inl rfl | exact Or.inr rfl)) (fun _s _H _C _cl _fp => ptm_nil) (fun _s _H _C _cl _fp => em_op (o_mulN) (em_lst (am_cons (em_int) (am_nil))) (em_var (pv 3)))) (sm_cons (sm_for (gm_tup (is := [6, 7]) rfl) (passes_of rfl) rfl (im_zipB rfl (by rfl) (c.fr 14 "zip" rfl) (am_cons (em_ix (o_idx rfl) (em_var (pv 0)) (em_var (pv 1))) (am_cons (em_ix (o_idx rfl) (em_var (pv 0)) (em_var (pv 2))) (am_nil)))) (pg_tup rfl (pgs_cons (pg_name (i := 6) sc.nd rfl (by first | exact Or.inl rfl | exact Or.inr rfl)) (pgs_cons (pg_name (i := 7) sc.nd rfl (by first | exact Or.inl rfl | exact Or.inr rfl)) (pgs_nil)))) (sm_one (sm_setIx (em_op (o_add) (em_ix (o_idx rfl) (em_ix (o_idx rfl) (em_var (pv 4)) (em_var (pv 6))) (em_var (pv 7))) (em_int)) (em_ix (o_idx rfl) (em_var (pv 4)) (em_var (pv 6))) (em_var (pv 7))))) (sm_one (sm_ret (em_ty (c_tuple rfl) (c.fr 13 "tuple" rfl) (am_cons (em_lc (gm_name (i := 8)) (by decide) rfl sc.nd (im_val (em_var (pv 4))) (blkOk_by (own := [("row", 8)]) (by kernel_rfl)) (fun _s _H _C _cl _fp => pg_name (i := 8) sc.nd rfl (by first | exact Or.inl rfl | exact Or.inr rfl)) (fun _s _H _C _cl _fp => ptm_nil) (fun _s _H _C _cl _fp => em_ty (c_tuple rfl) (c.fr 13 "tuple" rfl) (am_cons (em_var (pv 8)) (am_nil)))) (am_nil)))))))
theorem sc_pairs_of : FnScope ["table", "found", "one", "other"] ["table"] (defScope s_pairs_of) := ⟨rfl, rfl, rfl, by decide +kernel, rfl, by decide +kernel, by decide +kernel⟩
def lams_pairs_of : List LamD := []
def m_pairs_of : MS := mSeq (mSet 1 (mNew (mNil))) (mSeq (mFor (mRng1 (mCons (mAp lenW (mCons (mVar 0) (mNil))) (mNil))) (tgN 2) (mDo (mMt extW (mVar 1) (mCons (mLc (mRng1 (mCons (mAp lenW (mCons (mVar 0) (mNil))) (mNil))) [3] (tgN 3) (tYesM) (mTup (mCons (mVar 2) (mCons (mVar 3) (mNil))))) (mNil))))) (mRet (mVar 1)))
def M_pairs_of : MD := mDef 4 m_pairs_of
theorem ok_pairs_of (c : Fx K mg) : FG P w K mg base (glo K mg (tabs K) q lams cells cv) "pairs_of" 1 1 (M_pairs_of) :=
  (c.df 7 d_pairs_of rfl).fg (N := ["table", "found", "one", "other"]) (ps := ["table"]) sc_pairs_of (fun _ _ _ _ _ _ us hl => match us, hl with | [_], _ => rfl) fun cdv A outer s H E hr => by
    have sc := sc_pairs_of
    exact sm_cons (sm_set (i := 1) (em_new (am_nil)) sc.nd) (sm_cons (sm_for (gm_name (i := 2)) (passes_of rfl) rfl (im_rng1 (by rfl) (c.fr 10 "range" rfl) (am_cons (em_b (c_len rfl) (c.fr 6 "len" rfl) (am_cons (em_var (pv 0)) (am_nil))) (am_nil))) (pg_name (i := 2) sc.nd rfl (by first | exact Or.inl rfl | exact Or.inr rfl)) (sm_one (sm_do (em_mt rfl PySem.F.slot_list_extend rfl m_ext (em_var (pv 1)) (am_cons (em_lc (gm_name (i := 3)) (by decide) rfl sc.nd (im_rng1 (by rfl) (c.fr 10 "range" rfl) (am_cons (em_b (c_len rfl) (c.fr 6 "len" rfl) (am_cons (em_var (pv 0)) (am_nil))) (am_nil))) (blkOk_by (own := [("other", 3)]) (by kernel_rfl)) (fun _s _H _C _cl _fp => pg_name (i := 3) sc.nd rfl (by first | exact Or.inl rfl | exact Or.inr rfl)) (fun _s _H _C _cl _fp => ptm_nil) (fun _s _H _C _cl _fp => em_tup (am_cons (em_var (pv 2)) (am_cons (em_var (pv 3)) (am_nil))))) (am_nil)))))) (sm_one (sm_ret (em_var (pv 1)))))
theorem sc_break_in : FnScope ["table", "known", "pair", "a", "b", "own", "some", "shares"] ["table"] (defScope s_break_in) := ⟨rfl, rfl, rfl, by decide +kernel, rfl, by decide +kernel, by decide +kernel⟩
def lams_break_in : List LamD := []
def m_break_in : MS := mSeq (mSet 1 (mDictN)) (mSeq (mFor (mItV (mAp (gPure 1 M_pairs_of) (mCons (mVar 0) (mNil)))) (tgN 2) (mDo (mMt appW (mSetd (mVar 1) (mBin idxW (mBin idxW (mVar 0) (mBin idxW (mVar 2) (mC (.int 0)))) (mBin idxW (mVar 2) (mC (.int 1)))) (mNew (mNil))) (mCons (mTup (mCons (mVar 2) (mCons (mAp (gPure 3 M_shares_in) (mCons (mVar 0) (mCons (mBin idxW (mVar 2) (mC (.int 0))) (mCons (mBin idxW (mVar 2) (mC (.int 1))) (mNil))))) (mNil)))) (mNil))))) (mSeq (mFor (mItV (mAp (gPure 1 M_pairs_of) (mCons (mVar 0) (mNil)))) (tgT [3, 4]) (mSeq (mSet 5 (mAp (gPure 3 M_shares_in) (mCons (mVar 0) (mCons (mVar 3) (mCons (mVar 4) (mNil)))))) (mSeq (mSet 6 (mLc (mItV (mBin dixW (mVar 1) (mBin idxW (mBin idxW (mVar 0) (mVar 3)) (mVar 4)))) [2, 7] (tgT [2, 7]) (mIsT (mBin neW (mVar 7) (mVar 5))) (mVar 2))) (mCond (mIsT (mBin neW (mVar 6) (mLst (mNil)))) (mRet (mBin addW (mTup (mCons (mVar 3) (mCons (mVar 4) (mNil)))) (mBin idxW (mVar 6) (mC (.int 0))))) (mSkip))))) (mRet (mC .non))))
def M_break_in : MD := mDef 8 m_break_in
theorem ok_break_in (c : Fx K mg) : FG P w K mg base (glo K mg (tabs K) q lams cells cv) "break_in" 4 1 (M_break_in) :=
  (c.df 8 d_break_in rfl).fg (N := ["table", "known", "pair", "a", "b", "own", "some", "shares"]) (ps := ["table"]) sc_break_in (fun _ _ _ _ _ _ us hl => match us, hl with | [_], _ => rfl) fun cdv A outer s H E hr => by
    have sc := sc_break_in
    exact sm_cons (sm_set (i := 1) (em_dictN) sc.nd) (sm_cons (sm_for (gm_name (i := 2)) (passes_of rfl) rfl (im_val (em_fP (ok_pairs_of c) hr pas_of (am_cons (em_var (pv 0)) (am_nil)))) (pg_name (i := 2) sc.nd rfl (by first | exact Or.inl rfl | exact Or.inr rfl)) (sm_one (sm_do (em_mt rfl PySem.F.slot_list_append rfl m_app (em_setd (em_var (pv 1)) (em_ix (o_idx rfl) (em_ix (o_idx rfl) (em_var (pv 0)) (em_ix (o_idx rfl) (em_var (pv 2)) (em_int))) (em_ix (o_idx rfl) (em_var (pv 2)) (em_int))) (em_new (am_nil))) (am_cons (em_tup (am_cons (em_var (pv 2)) (am_cons (em_fP (ok_shares_in c) hr pas_of (am_cons (em_var (pv 0)) (am_cons (em_ix (o_idx rfl) (em_var (pv 2)) (em_int)) (am_cons (em_ix (o_idx rfl) (em_var (pv 2)) (em_int)) (am_nil))))) (am_nil)))) (am_nil)))))) (sm_cons (sm_for (gm_tup (is := [3, 4]) rfl) (passes_of rfl) rfl (im_val (em_fP (ok_pairs_of c) hr pas_of (am_cons (em_var (pv 0)) (am_nil)))) (pg_tup rfl (pgs_cons (pg_name (i := 3) sc.nd rfl (by first | exact Or.inl rfl | exact Or.inr rfl)) (pgs_cons (pg_name (i := 4) sc.nd rfl (by first | exact Or.inl rfl | exact Or.inr rfl)) (pgs_nil)))) (sm_cons (sm_set (i := 5) (em_fP (ok_shares_in c) hr pas_of (am_cons (em_var (pv 0)) (am_cons (em_var (pv 3)) (am_cons (em_var (pv 4)) (am_nil))))) sc.nd) (sm_cons (sm_setLc (i := 6) (gm_tup (is := [2, 7]) rfl) (by decide) rfl sc.nd rfl rfl (sw_true rfl rfl rfl (by decide +kernel)) (im_val (em_dix hr.units (em_var (pv 1)) (em_ix (o_idx rfl) (em_ix (o_idx rfl) (em_var (pv 0)) (em_var (pv 3))) (em_var (pv 4))))) (blkOk_by (own := [("pair", 2), ("shares", 7)]) (by kernel_rfl)) (fun _s _H _C _cl _fp => pg_tup rfl (pgs_cons (pg_name (i := 2) sc.nd rfl (by first | exact Or.inl rfl | exact Or.inr rfl)) (pgs_cons (pg_name (i := 7) sc.nd rfl (by first | exact Or.inl rfl | exact Or.inr rfl)) (pgs_nil)))) (fun _s _H _C _cl _fp => pts_one (tm_cmp (o_ne rfl hr.units) (em_var (pv 7)) (em_var (pv 5)))) (fun _s _H _C _cl _fp => em_var (pv 2))) (sm_one (sm_if (tm_cmp (o_ne rfl hr.units) (em_var (pv 6)) (em_lst (am_nil))) (sm_one (sm_ret (em_op (o_add) (em_tup (am_cons (em_var (pv 3)) (am_cons (em_var (pv 4)) (am_nil)))) (em_ix (o_idx rfl) (em_var (pv 6)) (em_int))))) (sm_nil)))))) (sm_one (sm_ret (em_non)))))
theorem sc_is_rising : FnScope ["thing", "low", "high", "one", "other"] ["thing", "low", "high"] (defScope s_is_rising) := ⟨rfl, rfl, rfl, by decide +kernel, rfl, by decide +kernel, by decide +kernel⟩
def lams_is_rising : List LamD := []
def m_is_rising : MS := mSeq (mCond (mOrT (mNotT (mIsT (mAp isiW (mCons (mVar 0) (mCons (mC (.ty "tuple")) (mNil)))))) (mNotT (mIsT (mAp allW (mCons (mLc (mItV (mVar 0)) [3] (tgN 3) (tYesM) (mAp (gPure 3 M_is_upto) (mCons (mVar 3) (mCons (mVar 1) (mCons (mVar 2) (mNil)))))) (mNil)))))) (mRet (mC (.bl false))) (mSkip)) (mRet (mAp allW (mCons (mLc (mZipB (mCons (mVar 0) (mCons (mSlc (mVar 0) (some (mC (.int 1))) none) (mNil)))) [3, 4] (tgT [3, 4]) (tYesM) (mBin ltW (mVar 3) (mVar 4))) (mNil))))
def M_is_rising : MD := mDef 5 m_is_rising
theorem ok_is_rising (c : Fx K mg) : FG P w K mg base (glo K mg (tabs K) q lams cells cv) "is_rising" 3 3 (M_is_rising) :=
  (c.df 9 d_is_rising rfl).fg (N := ["thing", "low", "high", "one", "other"]) (ps := ["thing", "low", "high"]) sc_is_rising (fun _ _ _ _ _ _ us hl => match us, hl with | [_, _, _], _ => rfl) fun cdv A outer s H E hr => by
    have sc := sc_is_rising
    exact sm_cons (sm_if ((wm_or (tm_not (tm_val (em_b (c_isi rfl) (c.fr 5 "isinstance" rfl) (am_cons (em_var (pv 0)) (am_cons (em_tyv (c.fr 13 "tuple" rfl)) (am_nil)))))) (wm_or1 (tm_not (tm_val (em_b (c_all rfl rfl) (c.fr 1 "all" rfl) (am_cons (em_lc (gm_name (i := 3)) (by decide) rfl sc.nd (im_val (em_var (pv 0))) (blkOk_by (own := [("one", 3)]) (by kernel_rfl)) (fun _s _H _C _cl _fp => pg_name (i := 3) sc.nd rfl (by first | exact Or.inl rfl | exact Or.inr rfl)) (fun _s _H _C _cl _fp => ptm_nil) (fun _s _H _C _cl _fp => em_fP (ok_is_upto c) hr passL (am_cons (em_var (pv 3)) (am_cons (em_var (pv 1)) (am_cons (em_var (pv 2)) (am_nil)))))) (am_nil))))))).pt) (sm_one (sm_ret (em_bl))) (sm_nil)) (sm_one (sm_ret (em_b (c_all rfl rfl) (c.fr 1 "all" rfl) (am_cons (em_lc (gm_tup (is := [3, 4]) rfl) (by decide) rfl sc.nd (im_zipB rfl (by rfl) (c.fr 14 "zip" rfl) (am_cons (em_var (pv 0)) (am_cons (em_slc rfl (em_var (pv 0)) (pm_some (em_int)) pm_none) (am_nil)))) (blkOk_by (own := [("one", 3), ("other", 4)]) (by kernel_rfl)) (fun _s _H _C _cl _fp => pg_tup rfl (pgs_cons (pg_name (i := 3) sc.nd rfl (by first | exact Or.inl rfl | exact Or.inr rfl)) (pgs_cons (pg_name (i := 4) sc.nd rfl (by first | exact Or.inl rfl | exact Or.inr rfl)) (pgs_nil)))) (fun _s _H _C _cl _fp => ptm_nil) (fun _s _H _C _cl _fp => em_cmp (o_lt) (em_var (pv 3)) (em_var (pv 4)))) (am_nil)))))
theorem sc_free_good : FnScope ["table", "kinds", "lot", "at", "one", "other"] ["table", "kinds", "lot"] (defScope s_free_good) := ⟨rfl, rfl, rfl, by decide +kernel, rfl, by decide +kernel, by decide +kernel⟩
def lams_free_good : List LamD := []
def m_free_good : MS := mSeq (mFor (mEnum (mCons (mVar 2) (mNil))) (tgT [3, 4]) (mCond (mNotT (mIsT (mAp allW (mCons (mLc (mItV (mSlc (mVar 2) none (some (mVar 3)))) [5] (tgN 5) (tYesM) (mBin (inW false) (mBin idxW (mBin idxW (mVar 0) (mVar 4)) (mVar 5)) (mVar 1))) (mNil))))) (mRet (mC (.bl false))) (mSkip))) (mRet (mC (.bl true)))
def M_free_good : MD := mDef 6 m_free_good
theorem ok_free_good (c : Fx K mg) : FG P w K mg base (glo K mg (tabs K) q lams cells cv) "free_good" 1 3 (M_free_good) :=
  (c.df 10 d_free_good rfl).fg (N := ["table", "kinds", "lot", "at", "one", "other"]) (ps := ["table", "kinds", "lot"]) sc_free_good (fun _ _ _ _ _ _ us hl => match us, hl with | [_, _, _], _ => rfl) fun cdv A outer s H E hr => by
    have sc := sc_free_good
    exact sm_cons (sm_for (gm_tup (is := [3, 4]) rfl) (passes_of rfl) rfl (im_enum rfl (by rfl) (c.fr 3 "enumerate" rfl) (am_cons (em_var (pv 2)) (am_nil))) (pg_tup rfl (pgs_cons (pg_name (i := 3) sc.nd rfl (by first | exact Or.inl rfl | exact Or.inr rfl)) (pgs_cons (pg_name (i := 4) sc.nd rfl (by first | exact Or.inl rfl | exact Or.inr rfl)) (pgs_nil)))) (sm_one (sm_if (tm_not (tm_val (em_b (c_all rfl rfl) (c.fr 1 "all" rfl) (am_cons (em_lc (gm_name (i := 5)) (by decide) rfl sc.nd (im_val (em_slc rfl (em_var (pv 2)) pm_none (pm_some (em_var (pv 3))))) (blkOk_by (own := [("other", 5)]) (by kernel_rfl)) (fun _s _H _C _cl _fp => pg_name (i := 5) sc.nd rfl (by first | exact Or.inl rfl | exact Or.inr rfl)) (fun _s _H _C _cl _fp => ptm_nil) (fun _s _H _C _cl _fp => em_cmp (o_in rfl (u65 hr)) (em_ix (o_idx rfl) (em_ix (o_idx rfl) (em_var (pv 0)) (em_var (pv 4))) (em_var (pv 5))) (em_var (pv 1)))) (am_nil))))) (sm_one (sm_ret (em_bl))) (sm_nil)))) (sm_one (sm_ret (em_bl)))
theorem sc_free_lots : FnScope ["table", "kinds", "found", "place", "lot"] ["table", "kinds"] (defScope s_free_lots) := ⟨rfl, rfl, rfl, by decide +kernel, rfl, by decide +kernel, by decide +kernel⟩
def lams_free_lots : List LamD := []
def m_free_lots : MS := mSeq (mSet 2 (mLst (mCons (mTup (mNil)) (mNil)))) (mSeq (mFor (mRng1 (mCons (mAp lenW (mCons (mVar 0) (mNil))) (mNil))) (tgN 3) (mSet 2 (mBin addW (mVar 2) (mLc (mItV (mVar 2)) [4] (tgN 4) (mIsT (mAp (gPure 3 M_free_good) (mCons (mVar 0) (mCons (mVar 1) (mCons (mBin addW (mVar 4) (mTup (mCons (mVar 3) (mNil)))) (mNil)))))) (mBin addW (mVar 4) (mTup (mCons (mVar 3) (mNil)))))))) (mRet (mAp sortAW (mCons (mVar 2) (mNil)))))
def M_free_lots : MD := mDef 5 m_free_lots
theorem ok_free_lots (c : Fx K mg) : FG P w K mg base (glo K mg (tabs K) q lams cells cv) "free_lots" 2 2 (M_free_lots) :=
  (c.df 11 d_free_lots rfl).fg (N := ["table", "kinds", "found", "place", "lot"]) (ps := ["table", "kinds"]) sc_free_lots (fun _ _ _ _ _ _ us hl => match us, hl with | [_, _], _ => rfl) fun cdv A outer s H E hr => by
    have sc := sc_free_lots
    exact sm_cons (sm_set (i := 2) (em_lst (am_cons (em_tup (am_nil)) (am_nil))) sc.nd) (sm_cons (sm_for (gm_name (i := 3)) (passes_of rfl) rfl (im_rng1 (by rfl) (c.fr 10 "range" rfl) (am_cons (em_b (c_len rfl) (c.fr 6 "len" rfl) (am_cons (em_var (pv 0)) (am_nil))) (am_nil))) (pg_name (i := 3) sc.nd rfl (by first | exact Or.inl rfl | exact Or.inr rfl)) (sm_one (sm_set (i := 2) (em_op (o_add) (em_var (pv 2)) (em_lc (gm_name (i := 4)) (by decide) rfl sc.nd (im_val (em_var (pv 2))) (blkOk_by (own := [("lot", 4)]) (by kernel_rfl)) (fun _s _H _C _cl _fp => pg_name (i := 4) sc.nd rfl (by first | exact Or.inl rfl | exact Or.inr rfl)) (fun _s _H _C _cl _fp => pts_one (tm_val (em_fP (ok_free_good c) hr passL (am_cons (em_var (pv 0)) (am_cons (em_var (pv 1)) (am_cons (em_op (o_add) (em_var (pv 4)) (em_tup (am_cons (em_var (pv 3)) (am_nil)))) (am_nil))))))) (fun _s _H _C _cl _fp => em_op (o_add) (em_var (pv 4)) (em_tup (am_cons (em_var (pv 3)) (am_nil)))))) sc.nd))) (sm_one (sm_ret (em_b (c_sortA rfl rfl hr.units) (c.fr 11 "sorted" rfl) (am_cons (em_var (pv 2)) (am_nil))))))
theorem sc_most_in : FnScope ["table", "kinds", "lot"] ["table", "kinds"] (defScope s_most_in) := ⟨rfl, rfl, rfl, by decide +kernel, rfl, by decide +kernel, by decide +kernel⟩
def lams_most_in : List LamD := []
def m_most_in : MS := mRet (mAp maxAW (mCons (mLc (mItV (mAp (gPure 2 M_free_lots) (mCons (mVar 0) (mCons (mVar 1) (mNil))))) [2] (tgN 2) (tYesM) (mAp lenW (mCons (mVar 2) (mNil)))) (mNil)))
def M_most_in : MD := mDef 3 m_most_in
theorem ok_most_in (c : Fx K mg) : FG P w K mg base (glo K mg (tabs K) q lams cells cv) "most_in" 3 2 (M_most_in) :=
  (c.df 12 d_most_in rfl).fg (N := ["table", "kinds", "lot"]) (ps := ["table", "kinds"]) sc_most_in (fun _ _ _ _ _ _ us hl => match us, hl with | [_, _], _ => rfl) fun cdv A outer s H E hr => by
    have sc := sc_most_in
    exact sm_one (sm_ret (em_b (c_maxA rfl rfl hr.units) (c.fr 8 "max" rfl) (am_cons (em_lc (gm_name (i := 2)) (by decide) rfl sc.nd (im_val (em_fP (ok_free_lots c) hr pas_of (am_cons (em_var (pv 0)) (am_cons (em_var (pv 1)) (am_nil))))) (blkOk_by (own := [("lot", 2)]) (by kernel_rfl)) (fun _s _H _C _cl _fp => pg_name (i := 2) sc.nd rfl (by first | exact Or.inl rfl | exact Or.inr rfl)) (fun _s _H _C _cl _fp => ptm_nil) (fun _s _H _C _cl _fp => em_b (c_len rfl) (c.fr 6 "len" rfl) (am_cons (em_var (pv 2)) (am_nil)))) (am_nil))))
theorem sc_shown : FnScope ["table", "kind", "row"] ["table"] (defScope s_shown) := ⟨rfl, rfl, rfl, by decide +kernel, rfl, by decide +kernel, by decide +kernel⟩
def lams_shown : List LamD := []
def m_shown : MS := mRet (mS1 joinW (mC (.str "/")) (mLc (mItV (mVar 0)) [2] (tgN 2) (tYesM) (mS1 joinW (mC (.str "")) (mLc (mItV (mVar 2)) [1] (tgN 1) (tYesM) (mAp strW (mCons (mVar 1) (mNil)))))))
def M_shown : MD := mDef 3 m_shown
theorem ok_shown (c : Fx K mg) : FG P w K mg base (glo K mg (tabs K) q lams cells cv) "shown" 1 1 (M_shown) :=
  (c.df 13 d_shown rfl).fg (N := ["table", "kind", "row"]) (ps := ["table"]) sc_shown (fun _ _ _ _ _ _ us hl => match us, hl with | [_], _ => rfl) fun cdv A outer s H E hr => by
    have sc := sc_shown
    exact sm_one (sm_ret (em_s1 PySem.F.slot_str_join PySem.F.type_str_join (m_join rfl) (em_str) (em_lc (gm_name (i := 2)) (by decide) rfl sc.nd (im_val (em_var (pv 0))) (blkOk_by (own := [("row", 2)]) (by kernel_rfl)) (fun _s _H _C _cl _fp => pg_name (i := 2) sc.nd rfl (by first | exact Or.inl rfl | exact Or.inr rfl)) (fun _s _H _C _cl _fp => ptm_nil) (fun _s _H _C _cl _fp => em_s1 PySem.F.slot_str_join PySem.F.type_str_join (m_join rfl) (em_str) (em_lc (gm_name (i := 1)) (by decide) rfl sc.nd (im_val (em_var (pv 2))) (blkOk_by (own := [("kind", 1)]) (by kernel_rfl)) (fun _s _H _C _cl _fp => pg_name (i := 1) sc.nd rfl (by first | exact Or.inl rfl | exact Or.inr rfl)) (fun _s _H _C _cl _fp => ptm_nil) (fun _s _H _C _cl _fp => em_ty (c_str) (c.fr 12 "str" rfl) (am_cons (em_var (pv 1)) (am_nil))))))))
theorem sc_row_in : FnScope ["word", "sign"] ["word"] (defScope s_row_in) := ⟨rfl, rfl, rfl, by decide +kernel, rfl, by decide +kernel, by decide +kernel⟩
def lams_row_in : List LamD := []
def m_row_in : MS := mRet (mAp tupleW (mCons (mLc (mIts (mVar 0)) [1] (tgN 1) (tYesM) (mIf (mIsT (mBin (sgnW false) (mVar 1) (mC (.str "0123456789")))) (mAp intXW (mCons (mVar 1) (mNil))) (mC .non))) (mNil)))
def M_row_in : MD := mDef 2 m_row_in
theorem ok_row_in (c : Fx K mg) : FG P w K mg base (glo K mg (tabs K) q lams cells cv) "row_in" 1 1 (M_row_in) :=
  (c.df 14 d_row_in rfl).fg (N := ["word", "sign"]) (ps := ["word"]) sc_row_in (fun _ _ _ _ _ _ us hl => match us, hl with | [_], _ => rfl) fun cdv A outer s H E hr => by
    have sc := sc_row_in
    exact sm_one (sm_ret (em_ty (c_tuple rfl) (c.fr 13 "tuple" rfl) (am_cons (em_lc (gm_name (i := 1)) (by decide) rfl sc.nd (im_str (em_var (pv 0))) (blkOk_by (own := [("sign", 1)]) (by kernel_rfl)) (fun _s _H _C _cl _fp => pg_name (i := 1) sc.nd rfl (by first | exact Or.inl rfl | exact Or.inr rfl)) (fun _s _H _C _cl _fp => ptm_nil) (fun _s _H _C _cl _fp => em_if (tm_cmp (o_sgn) (em_var (pv 1)) (em_gs (c.gs 0 "FIGURES" "0123456789" rfl))) (em_ty (c_intX) (c.fr 4 "int" rfl) (am_cons (em_var (pv 1)) (am_nil))) (em_non))) (am_nil))))
theorem sc_read_table : FnScope ["text", "found", "word"] ["text"] (defScope s_read_table) := ⟨rfl, rfl, rfl, by decide +kernel, rfl, by decide +kernel, by decide +kernel⟩
def lams_read_table : List LamD := []
def m_read_table : MS := mSeq (mCond (mNotT (mIsT (mAp isiW (mCons (mVar 0) (mCons (mC (.ty "str")) (mNil)))))) (mRaise "NoText") (mSkip)) (mSeq (mSet 1 (mAp tupleW (mCons (mLc (mItV (mS1 splitW (mVar 0) (mC (.str "/")))) [2] (tgN 2) (tYesM) (mAp (gPure 1 M_row_in) (mCons (mVar 2) (mNil)))) (mNil)))) (mSeq (mCond (mNotT (mIsT (mAp (gPure 1 M_is_table) (mCons (mVar 1) (mNil))))) (mRaise "NoText") (mSkip)) (mRet (mVar 1))))
def M_read_table : MD := mDef 3 m_read_table
theorem ok_read_table (c : Fx K mg) : FG P w K mg base (glo K mg (tabs K) q lams cells cv) "read_table" 5 1 (M_read_table) :=
  (c.df 15 d_read_table rfl).fg (N := ["text", "found", "word"]) (ps := ["text"]) sc_read_table (fun _ _ _ _ _ _ us hl => match us, hl with | [_], _ => rfl) fun cdv A outer s H E hr => by
    have sc := sc_read_table
    exact sm_cons (sm_if (tm_not (tm_val (em_b (c_isi rfl) (c.fr 5 "isinstance" rfl) (am_cons (em_var (pv 0)) (am_cons (em_tyv (c.fr 12 "str" rfl)) (am_nil)))))) (sm_one (sm_raiseX (c.xc 13 "NoText" rfl) rfl tk_of)) (sm_nil)) (sm_cons (sm_set (i := 1) (em_ty (c_tuple rfl) (c.fr 13 "tuple" rfl) (am_cons (em_lc (gm_name (i := 2)) (by decide) rfl sc.nd (im_val (em_s1 PySem.F.slot_str_split PySem.F.type_str_split m_split (em_var (pv 0)) (em_str))) (blkOk_by (own := [("word", 2)]) (by kernel_rfl)) (fun _s _H _C _cl _fp => pg_name (i := 2) sc.nd rfl (by first | exact Or.inl rfl | exact Or.inr rfl)) (fun _s _H _C _cl _fp => ptm_nil) (fun _s _H _C _cl _fp => em_fP (ok_row_in c) hr passL (am_cons (em_var (pv 2)) (am_nil)))) (am_nil))) sc.nd) (sm_cons (sm_if (tm_not (tm_val (em_fP (ok_is_table c) hr pas_of (am_cons (em_var (pv 1)) (am_nil))))) (sm_one (sm_raiseX (c.xc 13 "NoText" rfl) rfl tk_of)) (sm_nil)) (sm_one (sm_ret (em_var (pv 1))))))
theorem sc_told_figure : FnScope ["word"] ["word"] (defScope s_told_figure) := ⟨rfl, rfl, rfl, by decide +kernel, rfl, by decide +kernel, by decide +kernel⟩
def lams_told_figure : List LamD := []
def m_told_figure : MS := mSeq (mCond (mOrT (mIsT (mBin neW (mAp lenW (mCons (mVar 0) (mNil))) (mC (.int 1)))) (mIsT (mBin (sgnW true) (mVar 0) (mC (.str "0123456789"))))) (mRaise "NoLine") (mSkip)) (mRet (mAp intXW (mCons (mVar 0) (mNil))))
def M_told_figure : MD := mDef 1 m_told_figure
theorem ok_told_figure (c : Fx K mg) : FG P w K mg base (glo K mg (tabs K) q lams cells cv) "told_figure" 1 1 (M_told_figure) :=
  (c.df 16 d_told_figure rfl).fg (N := ["word"]) (ps := ["word"]) sc_told_figure (fun _ _ _ _ _ _ us hl => match us, hl with | [_], _ => rfl) fun cdv A outer s H E hr => by
    have sc := sc_told_figure
    exact sm_cons (sm_if ((wm_or (tm_cmp (o_ne rfl hr.units) (em_b (c_len rfl) (c.fr 6 "len" rfl) (am_cons (em_var (pv 0)) (am_nil))) (em_int)) (wm_or1 (tm_cmp (o_nsgn) (em_var (pv 0)) (em_gs (c.gs 0 "FIGURES" "0123456789" rfl))))).pt) (sm_one (sm_raiseX (c.xc 14 "NoLine" rfl) rfl tk_of)) (sm_nil)) (sm_one (sm_ret (em_ty (c_intX) (c.fr 4 "int" rfl) (am_cons (em_var (pv 0)) (am_nil)))))
theorem sc_exchanged : FnScope ["number", "one", "other"] ["number", "one", "other"] (defScope s_exchanged) := ⟨rfl, rfl, rfl, by decide +kernel, rfl, by decide +kernel, by decide +kernel⟩
def lams_exchanged : List LamD := []
def m_exchanged : MS := mSeq (mCond (mIsT (mBin eqW (mVar 0) (mVar 1))) (mRet (mVar 2)) (mSkip)) (mSeq (mCond (mIsT (mBin eqW (mVar 0) (mVar 2))) (mRet (mVar 1)) (mSkip)) (mRet (mVar 0)))
def M_exchanged : MD := mDef 3 m_exchanged
theorem ok_exchanged (c : Fx K mg) : FG P w K mg base (glo K mg (tabs K) q lams cells cv) "exchanged" 1 3 (M_exchanged) :=
  (c.df 17 d_exchanged rfl).fg (N := ["number", "one", "other"]) (ps := ["number", "one", "other"]) sc_exchanged (fun _ _ _ _ _ _ us hl => match us, hl with | [_, _, _], _ => rfl) fun cdv A outer s H E hr => by
    have sc := sc_exchanged
    exact sm_cons (sm_if (tm_cmp (o_eq rfl hr.units) (em_var (pv 0)) (em_var (pv 1))) (sm_one (sm_ret (em_var (pv 2)))) (sm_nil)) (sm_cons (sm_if (tm_cmp (o_eq rfl hr.units) (em_var (pv 0)) (em_var (pv 2))) (sm_one (sm_ret (em_var (pv 1)))) (sm_nil)) (sm_one (sm_ret (em_var (pv 0)))))
theorem sc__law_refused : FnScope ["_law_call", "_law_error", "e", "_law_marks", "_law_k"] ["_law_call"] (defScope s__law_refused) := ⟨rfl, rfl, rfl, by decide +kernel, rfl, by decide +kernel, by decide +kernel⟩
def lams__law_refused : List LamD := []
def m__law_refused (ap : Ap) : MS := mSeq (mSet 1 (mC .non)) (mSeq (mTryK ap 0 1 2 xcs) (mSeq (mSet 3 (mLst (mCons (mAp (isxW xcs xtb) (mCons (mVar 1) (mCons (mC (.glob "NoTable")) (mNil)))) (mCons (mAp (isxW xcs xtb) (mCons (mVar 1) (mCons (mC (.glob "NotSteady")) (mNil)))) (mCons (mAp (isxW xcs xtb) (mCons (mVar 1) (mCons (mC (.glob "NoPlace")) (mNil)))) (mNil)))))) (mSeq (mSet 3 (mBin addW (mVar 3) (mLst (mCons (mAp (isxW xcs xtb) (mCons (mVar 1) (mCons (mC (.glob "NoKind")) (mNil)))) (mCons (mAp (isxW xcs xtb) (mCons (mVar 1) (mCons (mC (.glob "NoMix")) (mNil)))) (mCons (mAp (isxW xcs xtb) (mCons (mVar 1) (mCons (mC (.glob "NoNumber")) (mNil)))) (mNil))))))) (mSeq (mSet 3 (mBin addW (mVar 3) (mLst (mCons (mAp (isxW xcs xtb) (mCons (mVar 1) (mCons (mC (.glob "NoLot")) (mNil)))) (mCons (mAp (isxW xcs xtb) (mCons (mVar 1) (mCons (mC (.glob "NoKinds")) (mNil)))) (mCons (mAp (isxW xcs xtb) (mCons (mVar 1) (mCons (mC (.glob "NoPaper")) (mNil)))) (mNil))))))) (mSeq (mSet 3 (mBin addW (mVar 3) (mLst (mCons (mAp (isxW xcs xtb) (mCons (mVar 1) (mCons (mC (.glob "NoParting")) (mNil)))) (mCons (mAp (isxW xcs xtb) (mCons (mVar 1) (mCons (mC (.glob "NoClosed")) (mNil)))) (mCons (mAp (isxW xcs xtb) (mCons (mVar 1) (mCons (mC (.glob "TooMany")) (mNil)))) (mNil))))))) (mSeq (mSet 3 (mBin addW (mVar 3) (mLst (mCons (mAp (isxW xcs xtb) (mCons (mVar 1) (mCons (mC (.glob "NoText")) (mNil)))) (mCons (mAp (isxW xcs xtb) (mCons (mVar 1) (mCons (mC (.glob "NoLine")) (mNil)))) (mCons (mAp (isxW xcs xtb) (mCons (mVar 1) (mCons (mC (.glob "NoDeed")) (mNil)))) (mNil))))))) (mSeq (mCond (mNotT (mIsT (mAp (isxW xcs xtb) (mCons (mVar 1) (mCons (mC (.ty "ValueError")) (mNil)))))) (mRet (mC .non)) (mSkip)) (mRet (mLc (mRng1 (mCons (mC (.int 15)) (mNil))) [4] (tgN 4) (mIsT (mBin idxW (mVar 3) (mVar 4))) (mVar 4))))))))))
def M__law_refused (ap : Ap) : MD := mDef 5 (m__law_refused ap)
theorem ok__law_refused (c : Fx K mg) {ap : Ap} (C : CallC P w K mg base (glo K mg (tabs K) q lams cells cv) 10 ap) : FG P w K mg base (glo K mg (tabs K) q lams cells cv) "_law_refused" 12 1 (M__law_refused ap) :=
  (c.df 18 d__law_refused rfl).fg (N := ["_law_call", "_law_error", "e", "_law_marks", "_law_k"]) (ps := ["_law_call"]) sc__law_refused (fun _ _ _ _ _ _ us hl => match us, hl with | [_], _ => rfl) fun cdv A outer s H E hr => by
    have sc := sc__law_refused
    exact sm_cons (sm_set (i := 1) (em_non) sc.nd) (sm_cons (sm_tryK (i := 0) (j := 1) (k := 2) C (hr.mono (by decide)) rfl (fun _ Ca _ _ h1 h2 => ⟨Ca, h1, h2⟩) rfl rfl rfl sc.nd rfl (by first | exact Or.inl rfl | exact Or.inr (Or.inl rfl) | exact Or.inr (Or.inr rfl)) rfl rfl (by first | exact Or.inl rfl | exact Or.inr (Or.inl rfl) | exact Or.inr (Or.inr rfl)) rfl (by first | exact Or.inl rfl | exact Or.inr rfl) (by decide) ⟨rfl, rfl, .inl (c.xc 0 "NearError" rfl).at_⟩ c.xm) (sm_cons (sm_set (i := 3) (em_lst (am_cons (em_b (c_isx rfl c.xt rfl (fun _ _ _ h => h)) (c.fr 5 "isinstance" rfl) (am_cons (em_var (pv 1)) (am_cons (em_gf (c.xc 1 "NoTable" rfl).at_ rfl) (am_nil)))) (am_cons (em_b (c_isx rfl c.xt rfl (fun _ _ _ h => h)) (c.fr 5 "isinstance" rfl) (am_cons (em_var (pv 1)) (am_cons (em_gf (c.xc 2 "NotSteady" rfl).at_ rfl) (am_nil)))) (am_cons (em_b (c_isx rfl c.xt rfl (fun _ _ _ h => h)) (c.fr 5 "isinstance" rfl) (am_cons (em_var (pv 1)) (am_cons (em_gf (c.xc 3 "NoPlace" rfl).at_ rfl) (am_nil)))) (am_nil))))) sc.nd) (sm_cons (sm_set (i := 3) (em_op (o_add) (em_var (pv 3)) (em_lst (am_cons (em_b (c_isx rfl c.xt rfl (fun _ _ _ h => h)) (c.fr 5 "isinstance" rfl) (am_cons (em_var (pv 1)) (am_cons (em_gf (c.xc 4 "NoKind" rfl).at_ rfl) (am_nil)))) (am_cons (em_b (c_isx rfl c.xt rfl (fun _ _ _ h => h)) (c.fr 5 "isinstance" rfl) (am_cons (em_var (pv 1)) (am_cons (em_gf (c.xc 5 "NoMix" rfl).at_ rfl) (am_nil)))) (am_cons (em_b (c_isx rfl c.xt rfl (fun _ _ _ h => h)) (c.fr 5 "isinstance" rfl) (am_cons (em_var (pv 1)) (am_cons (em_gf (c.xc 6 "NoNumber" rfl).at_ rfl) (am_nil)))) (am_nil)))))) sc.nd) (sm_cons (sm_set (i := 3) (em_op (o_add) (em_var (pv 3)) (em_lst (am_cons (em_b (c_isx rfl c.xt rfl (fun _ _ _ h => h)) (c.fr 5 "isinstance" rfl) (am_cons (em_var (pv 1)) (am_cons (em_gf (c.xc 7 "NoLot" rfl).at_ rfl) (am_nil)))) (am_cons (em_b (c_isx rfl c.xt rfl (fun _ _ _ h => h)) (c.fr 5 "isinstance" rfl) (am_cons (em_var (pv 1)) (am_cons (em_gf (c.xc 8 "NoKinds" rfl).at_ rfl) (am_nil)))) (am_cons (em_b (c_isx rfl c.xt rfl (fun _ _ _ h => h)) (c.fr 5 "isinstance" rfl) (am_cons (em_var (pv 1)) (am_cons (em_gf (c.xc 9 "NoPaper" rfl).at_ rfl) (am_nil)))) (am_nil)))))) sc.nd) (sm_cons (sm_set (i := 3) (em_op (o_add) (em_var (pv 3)) (em_lst (am_cons (em_b (c_isx rfl c.xt rfl (fun _ _ _ h => h)) (c.fr 5 "isinstance" rfl) (am_cons (em_var (pv 1)) (am_cons (em_gf (c.xc 10 "NoParting" rfl).at_ rfl) (am_nil)))) (am_cons (em_b (c_isx rfl c.xt rfl (fun _ _ _ h => h)) (c.fr 5 "isinstance" rfl) (am_cons (em_var (pv 1)) (am_cons (em_gf (c.xc 11 "NoClosed" rfl).at_ rfl) (am_nil)))) (am_cons (em_b (c_isx rfl c.xt rfl (fun _ _ _ h => h)) (c.fr 5 "isinstance" rfl) (am_cons (em_var (pv 1)) (am_cons (em_gf (c.xc 12 "TooMany" rfl).at_ rfl) (am_nil)))) (am_nil)))))) sc.nd) (sm_cons (sm_set (i := 3) (em_op (o_add) (em_var (pv 3)) (em_lst (am_cons (em_b (c_isx rfl c.xt rfl (fun _ _ _ h => h)) (c.fr 5 "isinstance" rfl) (am_cons (em_var (pv 1)) (am_cons (em_gf (c.xc 13 "NoText" rfl).at_ rfl) (am_nil)))) (am_cons (em_b (c_isx rfl c.xt rfl (fun _ _ _ h => h)) (c.fr 5 "isinstance" rfl) (am_cons (em_var (pv 1)) (am_cons (em_gf (c.xc 14 "NoLine" rfl).at_ rfl) (am_nil)))) (am_cons (em_b (c_isx rfl c.xt rfl (fun _ _ _ h => h)) (c.fr 5 "isinstance" rfl) (am_cons (em_var (pv 1)) (am_cons (em_gf (c.xc 15 "NoDeed" rfl).at_ rfl) (am_nil)))) (am_nil)))))) sc.nd) (sm_cons (sm_if (tm_not (tm_val (em_b (c_isx rfl c.xt rfl (fun _ _ _ h => h)) (c.fr 5 "isinstance" rfl) (am_cons (em_var (pv 1)) (am_cons (em_tyv (c.fr 0 "ValueError" rfl)) (am_nil)))))) (sm_one (sm_ret (em_non))) (sm_nil)) (sm_one (sm_ret (em_lc (gm_name (i := 4)) (by decide) rfl sc.nd (im_rng1 (by rfl) (c.fr 10 "range" rfl) (am_cons (em_int) (am_nil))) (blkOk_by (own := [("_law_k", 4)]) (by kernel_rfl)) (fun _s _H _C _cl _fp => pg_name (i := 4) sc.nd rfl (by first | exact Or.inl rfl | exact Or.inr rfl)) (fun _s _H _C _cl _fp => pts_one (tm_val (em_ix (o_idx rfl) (em_var (pv 3)) (em_var (pv 4))))) (fun _s _H _C _cl _fp => em_var (pv 4))))))))))))
theorem sc__law_bad : FnScope ["_law_k", "_law_some"] ["_law_k"] (defScope s__law_bad) := ⟨rfl, rfl, rfl, by decide +kernel, rfl, by decide +kernel, by decide +kernel⟩
def lams__law_bad : List LamD := []
def m__law_bad : MS := mSeq (mSet 1 (mNew (mCons (mC (.str "")) (mCons (mC (.str " ")) (mCons (mC (.str "tables")) (mCons (mC (.str "Table 0")) (mCons (mC (.str " table 0")) (mCons (mC (.str "table2 0")) (mCons (mC (.str "one")) (mCons (mC (.str "one ")) (mCons (mC (.str "one 1")) (mCons (mC (.str "one 1 ")) (mNil))))))))))))) (mSeq (mSet 1 (mBin addN (mVar 1) (mLst (mCons (mC (.str "one 1 2 3")) (mCons (mC (.str "one  1 2")) (mNil)))))) (mSeq (mSet 1 (mBin addN (mVar 1) (mLst (mCons (mC (.str "one x 1")) (mCons (mC (.str "one 1 x")) (mCons (mC (.str "one 01 2")) (mCons (mC (.str "one 1 -2")) (mCons (mC (.str "one 1-2")) (mCons (mC (.str "ones 1 2")) (mCons (mC (.str "kinds")) (mCons (mC (.str "kinds 1")) (mNil)))))))))))) (mSeq (mDo (mMt appW (mVar 1) (mCons (mC (.str "kinds 1 2 3")) (mNil)))) (mSeq (mSet 1 (mBin addN (mVar 1) (mLst (mCons (mC (.str "kinds 1 x")) (mCons (mC (.str "kind 1 2")) (mCons (mC (.str "places")) (mCons (mC (.str "places 0")) (mCons (mC (.str "places 0 1 2")) (mCons (mC (.str "places 0 10")) (mCons (mC (.str "place 0 1")) (mCons (mC (.str "back ")) (mNil)))))))))))) (mSeq (mSet 1 (mBin addN (mVar 1) (mLst (mCons (mC (.str "back 1")) (mCons (mC (.str "steady ")) (mCons (mC (.str "steady 1")) (mCons (mC (.str "break ")) (mCons (mC (.str "break 0")) (mCons (mC (.str "breaks")) (mCons (mC (.str "shares")) (mCons (mC (.str "shares 0")) (mCons (mC (.str "shares 0 0 0")) (mNil))))))))))))) (mSeq (mSet 1 (mBin addN (mVar 1) (mLst (mCons (mC (.str "share 0 0")) (mCons (mC (.str "shares 0 x")) (mCons (mC (.str "most")) (mCons (mC (.str "most ")) (mCons (mC (.str "most x")) (mCons (mC (.str "most 1 ")) (mCons (mC (.str "most 1  2")) (mCons (mC (.str "most 12")) (mCons (mC (.str "mosts 1")) (mNil))))))))))))) (mSeq (mSet 1 (mBin addN (mVar 1) (mLst (mCons (mC (.str "none")) (mCons (mC (.str "0")) (mCons (mC (.str "undo")) (mNil))))))) (mSeq (mSet 1 (mBin addN (mVar 1) (mLst (mCons (mC .non) (mCons (mC (.int 7)) (mCons (mC (.bl true)) (mCons (mTup (mCons (mC (.str "table")) (mNil))) (mCons (mLst (mCons (mC (.str "steady")) (mNil))) (mCons (mEd) (mCons (mC (.str "steady\n")) (mCons (mTup (mCons (mTup (mCons (mC (.int 0)) (mNil))) (mNil))) (mNil)))))))))))) (mRet (mBin idxW (mVar 1) (mBin modW (mVar 0) (mAp lenW (mCons (mVar 1) (mNil))))))))))))))
def M__law_bad : MD := mDef 2 m__law_bad
theorem ok__law_bad (c : Fx K mg) : FG P w K mg base (glo K mg (tabs K) q lams cells cv) "_law_bad" 1 1 (M__law_bad) :=
  (c.df 19 d__law_bad rfl).fg (N := ["_law_k", "_law_some"]) (ps := ["_law_k"]) sc__law_bad (fun _ _ _ _ _ _ us hl => match us, hl with | [_], _ => rfl) fun cdv A outer s H E hr => by
    have sc := sc__law_bad
    exact sm_cons (sm_set (i := 1) (em_new (am_cons (em_str) (am_cons (em_str) (am_cons (em_str) (am_cons (em_str) (am_cons (em_str) (am_cons (em_str) (am_cons (em_str) (am_cons (em_str) (am_cons (em_str) (am_cons (em_str) (am_nil)))))))))))) sc.nd) (sm_cons (sm_set (i := 1) (em_op (o_addN) (em_var (pv 1)) (em_lst (am_cons (em_str) (am_cons (em_str) (am_nil))))) sc.nd) (sm_cons (sm_set (i := 1) (em_op (o_addN) (em_var (pv 1)) (em_lst (am_cons (em_str) (am_cons (em_str) (am_cons (em_str) (am_cons (em_str) (am_cons (em_str) (am_cons (em_str) (am_cons (em_str) (am_cons (em_str) (am_nil))))))))))) sc.nd) (sm_cons (sm_do (em_mt rfl PySem.F.slot_list_append rfl m_app (em_var (pv 1)) (am_cons (em_str) (am_nil)))) (sm_cons (sm_set (i := 1) (em_op (o_addN) (em_var (pv 1)) (em_lst (am_cons (em_str) (am_cons (em_str) (am_cons (em_str) (am_cons (em_str) (am_cons (em_str) (am_cons (em_str) (am_cons (em_str) (am_cons (em_str) (am_nil))))))))))) sc.nd) (sm_cons (sm_set (i := 1) (em_op (o_addN) (em_var (pv 1)) (em_lst (am_cons (em_str) (am_cons (em_str) (am_cons (em_str) (am_cons (em_str) (am_cons (em_str) (am_cons (em_str) (am_cons (em_str) (am_cons (em_str) (am_cons (em_str) (am_nil)))))))))))) sc.nd) (sm_cons (sm_set (i := 1) (em_op (o_addN) (em_var (pv 1)) (em_lst (am_cons (em_str) (am_cons (em_str) (am_cons (em_str) (am_cons (em_str) (am_cons (em_str) (am_cons (em_str) (am_cons (em_str) (am_cons (em_str) (am_cons (em_str) (am_nil)))))))))))) sc.nd) (sm_cons (sm_set (i := 1) (em_op (o_addN) (em_var (pv 1)) (em_lst (am_cons (em_str) (am_cons (em_str) (am_cons (em_str) (am_nil)))))) sc.nd) (sm_cons (sm_set (i := 1) (em_op (o_addN) (em_var (pv 1)) (em_lst (am_cons (em_non) (am_cons (em_int) (am_cons (em_bl) (am_cons (em_tup (am_cons (em_str) (am_nil))) (am_cons (em_lst (am_cons (em_str) (am_nil))) (am_cons (em_ed) (am_cons (em_str) (am_cons (em_tup (am_cons (em_tup (am_cons (em_int) (am_nil))) (am_nil))) (am_nil))))))))))) sc.nd) (sm_one (sm_ret (em_ix (o_idx rfl) (em_var (pv 1)) (em_op (o_mod) (em_var (pv 0)) (em_b (c_len rfl) (c.fr 6 "len" rfl) (am_cons (em_var (pv 1)) (am_nil)))))))))))))))
theorem sc_Desk_keep : FnScope ["self", "table"] ["self", "table"] (defScope s_Desk_keep) := ⟨rfl, rfl, rfl, by decide +kernel, rfl, by decide +kernel, by decide +kernel⟩
def lams_Desk_keep : List LamD := []
def m_Desk_keep : MS := mSeq (mDo (mMt appW (mFld "Desk" "past" (mVar 0)) (mCons (mFld "Desk" "table" (mVar 0)) (mNil)))) (mSeq (mSetFld "Desk" "table" (mVar 1) (mVar 0)) (mRet (mC (.str "ok"))))
def M_Desk_keep : MD := mDef 2 m_Desk_keep
theorem ok_Desk_keep (c : Fx K mg) : FM P w K mg base (glo K mg (tabs K) q lams cells cv) "Desk" "keep" 1 2 (M_Desk_keep) :=
  (c.dm 1 d_Desk_keep rfl).fm (N := ["self", "table"]) (ps := ["self", "table"]) sc_Desk_keep (fun _ _ _ _ _ _ us hl => match us, hl with | [_, _], _ => rfl) fun cdv A outer s H E hr => by
    have sc := sc_Desk_keep
    exact sm_cons (sm_do (em_mt rfl PySem.F.slot_list_append rfl m_app (em_fld rfl c.cc (c.na 1 "past" rfl) (em_var (pv 0))) (am_cons (em_fld rfl c.cc (c.na 0 "table" rfl) (em_var (pv 0))) (am_nil)))) (sm_cons (sm_setFld rfl c.cc (c.na 0 "table" rfl) (em_var (pv 1)) (em_var (pv 0))) (sm_one (sm_ret (em_str))))
theorem sc_Desk_greatest_lot : FnScope ["self", "kinds"] ["self", "kinds"] (defScope s_Desk_greatest_lot) := ⟨rfl, rfl, rfl, by decide +kernel, rfl, by decide +kernel, by decide +kernel⟩
def lams_Desk_greatest_lot : List LamD := []
def m_Desk_greatest_lot : MS := mSeq (mCond (mNotT (mIsT (mAp (gPure 3 M_is_rising) (mCons (mVar 1) (mCons (mC (.int 1)) (mCons (mBin subW (mAp (gPure 1 M_many_kinds) (mCons (mFld "Desk" "table" (mVar 0)) (mNil))) (mC (.int 1))) (mNil))))))) (mRaise "NoKind") (mSkip)) (mRet (mAp strW (mCons (mAp (gPure 2 M_most_in) (mCons (mFld "Desk" "table" (mVar 0)) (mCons (mVar 1) (mNil)))) (mNil))))
def M_Desk_greatest_lot : MD := mDef 2 m_Desk_greatest_lot
theorem ok_Desk_greatest_lot (c : Fx K mg) : FM P w K mg base (glo K mg (tabs K) q lams cells cv) "Desk" "greatest_lot" 4 2 (M_Desk_greatest_lot) :=
  (c.dm 2 d_Desk_greatest_lot rfl).fm (N := ["self", "kinds"]) (ps := ["self", "kinds"]) sc_Desk_greatest_lot (fun _ _ _ _ _ _ us hl => match us, hl with | [_, _], _ => rfl) fun cdv A outer s H E hr => by
    have sc := sc_Desk_greatest_lot
    exact sm_cons (sm_if (tm_not (tm_val (em_fP (ok_is_rising c) hr pas_of (am_cons (em_var (pv 1)) (am_cons (em_int) (am_cons (em_op (o_sub) (em_fP (ok_many_kinds c) hr pas_of (am_cons (em_fld rfl c.cc (c.na 0 "table" rfl) (em_var (pv 0))) (am_nil))) (em_int)) (am_nil))))))) (sm_one (sm_raiseX (c.xc 4 "NoKind" rfl) rfl tk_of)) (sm_nil)) (sm_one (sm_ret (em_ty (c_str) (c.fr 12 "str" rfl) (am_cons (em_fP (ok_most_in c) hr pas_of (am_cons (em_fld rfl c.cc (c.na 0 "table" rfl) (em_var (pv 0))) (am_cons (em_var (pv 1)) (am_nil)))) (am_nil)))))
theorem sc_Desk_of_kinds : FnScope ["self", "word", "one", "other", "kind", "low", "high", "names", "row"] ["self", "word", "one", "other"] (defScope s_Desk_of_kinds) := ⟨rfl, rfl, rfl, by decide +kernel, rfl, by decide +kernel, by decide +kernel⟩
def lams_Desk_of_kinds : List LamD := []
def m_Desk_of_kinds : MS := mSeq (mFor (mItV (mTup (mCons (mVar 2) (mCons (mVar 3) (mNil))))) (tgN 4) (mCond (mNotT (mIsT (mAp (gPure 3 M_is_upto) (mCons (mVar 4) (mCons (mC (.int 1)) (mCons (mBin subW (mAp (gPure 1 M_many_kinds) (mCons (mFld "Desk" "table" (mVar 0)) (mNil))) (mC (.int 1))) (mNil))))))) (mRaise "NoKind") (mSkip))) (mSeq (mCond (mIsT (mBin eqW (mVar 2) (mVar 3))) (mRaise "NoKind") (mSkip)) (mSeq (mAsg (tgT [5, 6]) (mTup (mCons (mAp min2W (mCons (mVar 2) (mCons (mVar 3) (mNil)))) (mCons (mAp max2W (mCons (mVar 2) (mCons (mVar 3) (mNil)))) (mNil))))) (mSeq (mSet 7 (mLc (mRng1 (mCons (mAp (gPure 1 M_many_kinds) (mCons (mFld "Desk" "table" (mVar 0)) (mNil))) (mNil))) [4] (tgN 4) (tYesM) (mAp (gPure 3 M_exchanged) (mCons (mVar 4) (mCons (mVar 2) (mCons (mVar 3) (mNil))))))) (mSeq (mCond (mIsT (mBin eqW (mVar 1) (mC (.str "one")))) (mSet 7 (mLc (mRng1 (mCons (mAp (gPure 1 M_many_kinds) (mCons (mFld "Desk" "table" (mVar 0)) (mNil))) (mNil))) [4] (tgN 4) (tYesM) (mIf (mIsT (mBin eqW (mVar 4) (mVar 6))) (mVar 5) (mBin subW (mVar 4) (mAp intXW (mCons (mBin gtW (mVar 4) (mVar 6)) (mNil))))))) (mSkip)) (mRet (mMeth "Desk" "keep" 2 M_Desk_keep (mVar 0) (mCons (mAp tupleW (mCons (mLc (mItV (mFld "Desk" "table" (mVar 0))) [8] (tgN 8) (tYesM) (mAp tupleW (mCons (mLc (mItV (mVar 8)) [4] (tgN 4) (tYesM) (mBin idxW (mVar 7) (mVar 4))) (mNil)))) (mNil))) (mNil))))))))
def M_Desk_of_kinds : MD := mDef 9 m_Desk_of_kinds
theorem ok_Desk_of_kinds (c : Fx K mg) : FM P w K mg base (glo K mg (tabs K) q lams cells cv) "Desk" "of_kinds" 3 4 (M_Desk_of_kinds) :=
  (c.dm 4 d_Desk_of_kinds rfl).fm (N := ["self", "word", "one", "other", "kind", "low", "high", "names", "row"]) (ps := ["self", "word", "one", "other"]) sc_Desk_of_kinds (fun _ _ _ _ _ _ us hl => match us, hl with | [_, _, _, _], _ => rfl) fun cdv A outer s H E hr => by
    have sc := sc_Desk_of_kinds
    exact sm_cons (sm_for (gm_name (i := 4)) (passes_of rfl) rfl (im_val (em_tup (am_cons (em_var (pv 2)) (am_cons (em_var (pv 3)) (am_nil))))) (pg_name (i := 4) sc.nd rfl (by first | exact Or.inl rfl | exact Or.inr rfl)) (sm_one (sm_if (tm_not (tm_val (em_fP (ok_is_upto c) hr pas_of (am_cons (em_var (pv 4)) (am_cons (em_int) (am_cons (em_op (o_sub) (em_fP (ok_many_kinds c) hr pas_of (am_cons (em_fld rfl c.cc (c.na 0 "table" rfl) (em_var (pv 0))) (am_nil))) (em_int)) (am_nil))))))) (sm_one (sm_raiseX (c.xc 4 "NoKind" rfl) rfl tk_of)) (sm_nil)))) (sm_cons (sm_if (tm_cmp (o_eq rfl hr.units) (em_var (pv 2)) (em_var (pv 3))) (sm_one (sm_raiseX (c.xc 4 "NoKind" rfl) rfl tk_of)) (sm_nil)) (sm_cons (sm_asg (gm_tup (is := [5, 6]) rfl) (em_tup (am_cons (em_b (c_min2 rfl) (c.fr 9 "min" rfl) (am_cons (em_var (pv 2)) (am_cons (em_var (pv 3)) (am_nil)))) (am_cons (em_b (c_max2 rfl) (c.fr 8 "max" rfl) (am_cons (em_var (pv 2)) (am_cons (em_var (pv 3)) (am_nil)))) (am_nil)))) (pg_tup rfl (pgs_cons (pg_name (i := 5) sc.nd rfl (by first | exact Or.inl rfl | exact Or.inr rfl)) (pgs_cons (pg_name (i := 6) sc.nd rfl (by first | exact Or.inl rfl | exact Or.inr rfl)) (pgs_nil))))) (sm_cons (sm_set (i := 7) (em_lc (gm_name (i := 4)) (by decide) rfl sc.nd (im_rng1 (by rfl) (c.fr 10 "range" rfl) (am_cons (em_fP (ok_many_kinds c) hr pas_of (am_cons (em_fld rfl c.cc (c.na 0 "table" rfl) (em_var (pv 0))) (am_nil))) (am_nil))) (blkOk_by (own := [("kind", 4)]) (by kernel_rfl)) (fun _s _H _C _cl _fp => pg_name (i := 4) sc.nd rfl (by first | exact Or.inl rfl | exact Or.inr rfl)) (fun _s _H _C _cl _fp => ptm_nil) (fun _s _H _C _cl _fp => em_fP (ok_exchanged c) hr passL (am_cons (em_var (pv 4)) (am_cons (em_var (pv 2)) (am_cons (em_var (pv 3)) (am_nil)))))) sc.nd) (sm_cons (sm_if (tm_cmp (o_eq rfl hr.units) (em_var (pv 1)) (em_str)) (sm_one (sm_set (i := 7) (em_lc (gm_name (i := 4)) (by decide) rfl sc.nd (im_rng1 (by rfl) (c.fr 10 "range" rfl) (am_cons (em_fP (ok_many_kinds c) hr pas_of (am_cons (em_fld rfl c.cc (c.na 0 "table" rfl) (em_var (pv 0))) (am_nil))) (am_nil))) (blkOk_by (own := [("kind", 4)]) (by kernel_rfl)) (fun _s _H _C _cl _fp => pg_name (i := 4) sc.nd rfl (by first | exact Or.inl rfl | exact Or.inr rfl)) (fun _s _H _C _cl _fp => ptm_nil) (fun _s _H _C _cl _fp => em_if (tm_cmp (o_eq rfl hr.units) (em_var (pv 4)) (em_var (pv 6))) (em_var (pv 5)) (em_op (o_sub) (em_var (pv 4)) (em_ty (c_intX) (c.fr 4 "int" rfl) (am_cons (em_cmp (o_gt) (em_var (pv 4)) (em_var (pv 6))) (am_nil)))))) sc.nd)) (sm_nil)) (sm_one (sm_ret (em_meth rfl c.cc (ok_Desk_keep c) hr pas_of (em_var (pv 0)) (am_cons (em_ty (c_tuple rfl) (c.fr 13 "tuple" rfl) (am_cons (em_lc (gm_name (i := 8)) (by decide) rfl sc.nd (im_val (em_fld rfl c.cc (c.na 0 "table" rfl) (em_var (pv 0)))) (blkOk_by (own := [("row", 8)]) (by kernel_rfl)) (fun _s _H _C _cl _fp => pg_name (i := 8) sc.nd rfl (by first | exact Or.inl rfl | exact Or.inr rfl)) (fun _s _H _C _cl _fp => ptm_nil) (fun _s _H _C _cl _fp => em_ty (c_tuple rfl) (c.fr 13 "tuple" rfl) (am_cons (em_lc (gm_name (i := 4)) (by decide) rfl sc.nd (im_val (em_var (pv 8))) (blkOk_by (own := [("kind", 4)]) (by kernel_rfl)) (fun _s _H _C _cl _fp => pg_name (i := 4) sc.nd rfl (by first | exact Or.inl rfl | exact Or.inr rfl)) (fun _s _H _C _cl _fp => ptm_nil) (fun _s _H _C _cl _fp => em_ix (o_idx rfl) (em_var (pv 7)) (em_var (pv 4)))) (am_nil)))) (am_nil))) (am_nil)))))))))
theorem sc_Desk_of_two : FnScope ["self", "word", "one", "other", "place", "many", "row", "order", "b", "a"] ["self", "word", "one", "other"] (defScope s_Desk_of_two) := ⟨rfl, rfl, rfl, by decide +kernel, rfl, by decide +kernel, by decide +kernel⟩
def lams_Desk_of_two : List LamD := []
def m_Desk_of_two : MS := mSeq (mCond (mIsT (mBin (inW false) (mVar 1) (mTup (mCons (mC (.str "one")) (mCons (mC (.str "kinds")) (mNil)))))) (mRet (mMeth "Desk" "of_kinds" 4 M_Desk_of_kinds (mVar 0) (mCons (mVar 1) (mCons (mVar 2) (mCons (mVar 3) (mNil)))))) (mSkip)) (mSeq (mFor (mItV (mTup (mCons (mVar 2) (mCons (mVar 3) (mNil))))) (tgN 4) (mCond (mNotT (mIsT (mAp (gPure 3 M_is_upto) (mCons (mVar 4) (mCons (mC (.int 0)) (mCons (mBin subW (mAp lenW (mCons (mFld "Desk" "table" (mVar 0)) (mNil))) (mC (.int 1))) (mNil))))))) (mRaise "NoPlace") (mSkip))) (mSeq (mCond (mIsT (mBin eqW (mVar 1) (mC (.str "shares")))) (mRet (mS1 joinW (mC (.str "/")) (mLc (mItV (mAp (gPure 3 M_shares_in) (mCons (mFld "Desk" "table" (mVar 0)) (mCons (mVar 2) (mCons (mVar 3) (mNil)))))) [6] (tgN 6) (tYesM) (mS1 joinW (mC (.str "")) (mLc (mItV (mVar 6)) [5] (tgN 5) (tYesM) (mAp strW (mCons (mVar 5) (mNil)))))))) (mSkip)) (mSeq (mCond (mIsT (mBin eqW (mVar 2) (mVar 3))) (mRaise "NoPlace") (mSkip)) (mSeq (mSet 7 (mLc (mRng1 (mCons (mAp lenW (mCons (mFld "Desk" "table" (mVar 0)) (mNil))) (mNil))) [4] (tgN 4) (tYesM) (mAp (gPure 3 M_exchanged) (mCons (mVar 4) (mCons (mVar 2) (mCons (mVar 3) (mNil))))))) (mRet (mMeth "Desk" "keep" 2 M_Desk_keep (mVar 0) (mCons (mAp tupleW (mCons (mLc (mItV (mVar 7)) [9] (tgN 9) (tYesM) (mAp tupleW (mCons (mLc (mItV (mVar 7)) [8] (tgN 8) (tYesM) (mBin idxW (mBin idxW (mFld "Desk" "table" (mVar 0)) (mVar 9)) (mVar 8))) (mNil)))) (mNil))) (mNil))))))))
def M_Desk_of_two : MD := mDef 10 m_Desk_of_two
theorem ok_Desk_of_two (c : Fx K mg) : FM P w K mg base (glo K mg (tabs K) q lams cells cv) "Desk" "of_two" 4 4 (M_Desk_of_two) :=
  (c.dm 3 d_Desk_of_two rfl).fm (N := ["self", "word", "one", "other", "place", "many", "row", "order", "b", "a"]) (ps := ["self", "word", "one", "other"]) sc_Desk_of_two (fun _ _ _ _ _ _ us hl => match us, hl with | [_, _, _, _], _ => rfl) fun cdv A outer s H E hr => by
    have sc := sc_Desk_of_two
    exact sm_cons (sm_if (tm_cmp (o_in rfl (u65 hr)) (em_var (pv 1)) (em_tup (am_cons (em_str) (am_cons (em_str) (am_nil))))) (sm_one (sm_ret (em_meth rfl c.cc (ok_Desk_of_kinds c) hr pas_of (em_var (pv 0)) (am_cons (em_var (pv 1)) (am_cons (em_var (pv 2)) (am_cons (em_var (pv 3)) (am_nil))))))) (sm_nil)) (sm_cons (sm_for (gm_name (i := 4)) (passes_of rfl) rfl (im_val (em_tup (am_cons (em_var (pv 2)) (am_cons (em_var (pv 3)) (am_nil))))) (pg_name (i := 4) sc.nd rfl (by first | exact Or.inl rfl | exact Or.inr rfl)) (sm_one (sm_if (tm_not (tm_val (em_fP (ok_is_upto c) hr pas_of (am_cons (em_var (pv 4)) (am_cons (em_int) (am_cons (em_op (o_sub) (em_b (c_len rfl) (c.fr 6 "len" rfl) (am_cons (em_fld rfl c.cc (c.na 0 "table" rfl) (em_var (pv 0))) (am_nil))) (em_int)) (am_nil))))))) (sm_one (sm_raiseX (c.xc 3 "NoPlace" rfl) rfl tk_of)) (sm_nil)))) (sm_cons (sm_if (tm_cmp (o_eq rfl hr.units) (em_var (pv 1)) (em_str)) (sm_one (sm_ret (em_s1 PySem.F.slot_str_join PySem.F.type_str_join (m_join rfl) (em_str) (em_lc (gm_name (i := 6)) (by decide) rfl sc.nd (im_val (em_fP (ok_shares_in c) hr pas_of (am_cons (em_fld rfl c.cc (c.na 0 "table" rfl) (em_var (pv 0))) (am_cons (em_var (pv 2)) (am_cons (em_var (pv 3)) (am_nil)))))) (blkOk_by (own := [("row", 6)]) (by kernel_rfl)) (fun _s _H _C _cl _fp => pg_name (i := 6) sc.nd rfl (by first | exact Or.inl rfl | exact Or.inr rfl)) (fun _s _H _C _cl _fp => ptm_nil) (fun _s _H _C _cl _fp => em_s1 PySem.F.slot_str_join PySem.F.type_str_join (m_join rfl) (em_str) (em_lc (gm_name (i := 5)) (by decide) rfl sc.nd (im_val (em_var (pv 6))) (blkOk_by (own := [("many", 5)]) (by kernel_rfl)) (fun _s _H _C _cl _fp => pg_name (i := 5) sc.nd rfl (by first | exact Or.inl rfl | exact Or.inr rfl)) (fun _s _H _C _cl _fp => ptm_nil) (fun _s _H _C _cl _fp => em_ty (c_str) (c.fr 12 "str" rfl) (am_cons (em_var (pv 5)) (am_nil))))))))) (sm_nil)) (sm_cons (sm_if (tm_cmp (o_eq rfl hr.units) (em_var (pv 2)) (em_var (pv 3))) (sm_one (sm_raiseX (c.xc 3 "NoPlace" rfl) rfl tk_of)) (sm_nil)) (sm_cons (sm_set (i := 7) (em_lc (gm_name (i := 4)) (by decide) rfl sc.nd (im_rng1 (by rfl) (c.fr 10 "range" rfl) (am_cons (em_b (c_len rfl) (c.fr 6 "len" rfl) (am_cons (em_fld rfl c.cc (c.na 0 "table" rfl) (em_var (pv 0))) (am_nil))) (am_nil))) (blkOk_by (own := [("place", 4)]) (by kernel_rfl)) (fun _s _H _C _cl _fp => pg_name (i := 4) sc.nd rfl (by first | exact Or.inl rfl | exact Or.inr rfl)) (fun _s _H _C _cl _fp => ptm_nil) (fun _s _H _C _cl _fp => em_fP (ok_exchanged c) hr passL (am_cons (em_var (pv 4)) (am_cons (em_var (pv 2)) (am_cons (em_var (pv 3)) (am_nil)))))) sc.nd) (sm_one (sm_ret (em_meth rfl c.cc (ok_Desk_keep c) hr pas_of (em_var (pv 0)) (am_cons (em_ty (c_tuple rfl) (c.fr 13 "tuple" rfl) (am_cons (em_lc (gm_name (i := 9)) (by decide) rfl sc.nd (im_val (em_var (pv 7))) (blkOk_by (own := [("a", 9)]) (by kernel_rfl)) (fun _s _H _C _cl _fp => pg_name (i := 9) sc.nd rfl (by first | exact Or.inl rfl | exact Or.inr rfl)) (fun _s _H _C _cl _fp => ptm_nil) (fun _s _H _C _cl _fp => em_ty (c_tuple rfl) (c.fr 13 "tuple" rfl) (am_cons (em_lc (gm_name (i := 8)) (by decide) rfl sc.nd (im_val (em_var (pv 7))) (blkOk_by (own := [("b", 8)]) (by kernel_rfl)) (fun _s _H _C _cl _fp => pg_name (i := 8) sc.nd rfl (by first | exact Or.inl rfl | exact Or.inr rfl)) (fun _s _H _C _cl _fp => ptm_nil) (fun _s _H _C _cl _fp => em_ix (o_idx rfl) (em_ix (o_idx rfl) (em_fld rfl c.cc (c.na 0 "table" rfl) (em_var (pv 0))) (em_var (pv 9))) (em_var (pv 8)))) (am_nil)))) (am_nil))) (am_nil)))))))))
theorem sc_Desk_alone : FnScope ["self", "word", "found", "place"] ["self", "word"] (defScope s_Desk_alone) := ⟨rfl, rfl, rfl, by decide +kernel, rfl, by decide +kernel, by decide +kernel⟩
def lams_Desk_alone : List LamD := []
def m_Desk_alone : MS := mSeq (mCond (mIsT (mBin eqW (mVar 1) (mC (.str "back")))) (mSeq (mCond (mIsT (mBin eqW (mFld "Desk" "past" (mVar 0)) (mLst (mNil)))) (mRaise "NoDeed") (mSkip)) (mSeq (mSetFld "Desk" "table" (mMt pop0W (mFld "Desk" "past" (mVar 0)) mNil) (mVar 0)) (mRet (mC (.str "ok"))))) (mSkip)) (mSeq (mCond (mIsT (mBin eqW (mVar 1) (mC (.str "table")))) (mRet (mAp (gPure 1 M_shown) (mCons (mFld "Desk" "table" (mVar 0)) (mNil)))) (mSkip)) (mSeq (mSet 2 (mAp (gPure 1 M_break_in) (mCons (mFld "Desk" "table" (mVar 0)) (mNil)))) (mSeq (mCond (mIsT (mBin eqW (mVar 1) (mC (.str "steady")))) (mRet (mBin idxW (mLst (mCons (mC (.str "no")) (mCons (mC (.str "yes")) (mNil)))) (mAp intXW (mCons (mBin isW (mVar 2) (mC .non)) (mNil))))) (mSkip)) (mSeq (mCond (mIsT (mBin isW (mVar 2) (mC .non))) (mRet (mC (.str "none"))) (mSkip)) (mRet (mS1 joinW (mC (.str " ")) (mLc (mItV (mVar 2)) [3] (tgN 3) (tYesM) (mAp strW (mCons (mVar 3) (mNil))))))))))
def M_Desk_alone : MD := mDef 4 m_Desk_alone
theorem ok_Desk_alone (c : Fx K mg) : FM P w K mg base (glo K mg (tabs K) q lams cells cv) "Desk" "alone" 5 2 (M_Desk_alone) :=
  (c.dm 5 d_Desk_alone rfl).fm (N := ["self", "word", "found", "place"]) (ps := ["self", "word"]) sc_Desk_alone (fun _ _ _ _ _ _ us hl => match us, hl with | [_, _], _ => rfl) fun cdv A outer s H E hr => by
    have sc := sc_Desk_alone
    exact sm_cons (sm_if (tm_cmp (o_eq rfl hr.units) (em_var (pv 1)) (em_str)) (sm_cons (sm_if (tm_cmp (o_eq rfl hr.units) (em_fld rfl c.cc (c.na 1 "past" rfl) (em_var (pv 0))) (em_lst (am_nil))) (sm_one (sm_raiseX (c.xc 15 "NoDeed" rfl) rfl tk_of)) (sm_nil)) (sm_cons (sm_setFld rfl c.cc (c.na 0 "table" rfl) (em_mt0 rfl PySem.F.slot_list_pop rfl m_pop0 (em_fld rfl c.cc (c.na 1 "past" rfl) (em_var (pv 0)))) (em_var (pv 0))) (sm_one (sm_ret (em_str))))) (sm_nil)) (sm_cons (sm_if (tm_cmp (o_eq rfl hr.units) (em_var (pv 1)) (em_str)) (sm_one (sm_ret (em_fP (ok_shown c) hr pas_of (am_cons (em_fld rfl c.cc (c.na 0 "table" rfl) (em_var (pv 0))) (am_nil))))) (sm_nil)) (sm_cons (sm_set (i := 2) (em_fP (ok_break_in c) hr pas_of (am_cons (em_fld rfl c.cc (c.na 0 "table" rfl) (em_var (pv 0))) (am_nil))) sc.nd) (sm_cons (sm_if (tm_cmp (o_eq rfl hr.units) (em_var (pv 1)) (em_str)) (sm_one (sm_ret (em_ix (o_idx rfl) (em_lst (am_cons (em_str) (am_cons (em_str) (am_nil)))) (em_ty (c_intX) (c.fr 4 "int" rfl) (am_cons (em_cmp (o_is) (em_var (pv 2)) (em_non)) (am_nil)))))) (sm_nil)) (sm_cons (sm_if (tm_cmp (o_is) (em_var (pv 2)) (em_non)) (sm_one (sm_ret (em_str))) (sm_nil)) (sm_one (sm_ret (em_s1 PySem.F.slot_str_join PySem.F.type_str_join (m_join rfl) (em_str) (em_lc (gm_name (i := 3)) (by decide) rfl sc.nd (im_val (em_var (pv 2))) (blkOk_by (own := [("place", 3)]) (by kernel_rfl)) (fun _s _H _C _cl _fp => pg_name (i := 3) sc.nd rfl (by first | exact Or.inl rfl | exact Or.inr rfl)) (fun _s _H _C _cl _fp => ptm_nil) (fun _s _H _C _cl _fp => em_ty (c_str) (c.fr 12 "str" rfl) (am_cons (em_var (pv 3)) (am_nil)))))))))))
theorem sc_Desk_say : FnScope ["self", "line", "word", "blank", "text", "words", "numbers", "one"] ["self", "line"] (defScope s_Desk_say) := ⟨rfl, rfl, rfl, by decide +kernel, rfl, by decide +kernel, by decide +kernel⟩
def lams_Desk_say : List LamD := []
def m_Desk_say : MS := mSeq (mCond (mNotT (mIsT (mAp isiW (mCons (mVar 1) (mCons (mC (.ty "str")) (mNil)))))) (mRaise "NoLine") (mSkip)) (mSeq (mAsg (tgT [2, 3, 4]) (mS1 partW (mVar 1) (mC (.str " ")))) (mSeq (mCond (mAndT (mIsT (mBin eqW (mVar 2) (mC (.str "table")))) (mIsT (mBin eqW (mVar 3) (mC (.str " "))))) (mRet (mMeth "Desk" "keep" 2 M_Desk_keep (mVar 0) (mCons (mAp (gPure 1 M_read_table) (mCons (mVar 4) (mNil))) (mNil)))) (mSkip)) (mSeq (mSet 5 (mS1 splitW (mVar 1) (mC (.str " ")))) (mSeq (mCond (mAndT (mIsT (mBin eqW (mAp lenW (mCons (mVar 5) (mNil))) (mC (.int 1)))) (mIsT (mBin (inGW false "ALONE" ["back", "table", "steady", "break"]) (mVar 2) (mC (.glob "ALONE"))))) (mRet (mMeth "Desk" "alone" 2 M_Desk_alone (mVar 0) (mCons (mVar 2) (mNil)))) (mSkip)) (mSeq (mSet 6 (mLcR (mItV (mSlc (mVar 5) (some (mC (.int 1))) none)) [7] (tgN 7) (tYesM) (mAp (gPure 1 M_told_figure) (mCons (mVar 7) (mNil))))) (mSeq (mCond (mAndT (mIsT (mBin eqW (mVar 2) (mC (.str "most")))) (mIsT (mBin neW (mVar 6) (mLst (mNil))))) (mRet (mMeth "Desk" "greatest_lot" 2 M_Desk_greatest_lot (mVar 0) (mCons (mAp tupleW (mCons (mVar 6) (mNil))) (mNil)))) (mSkip)) (mSeq (mCond (mAndT (mIsT (mBin (inGW false "OF_TWO" ["one", "kinds", "places", "shares"]) (mVar 2) (mC (.glob "OF_TWO")))) (mIsT (mBin eqW (mAp lenW (mCons (mVar 6) (mNil))) (mC (.int 2))))) (mRet (mMeth "Desk" "of_two" 4 M_Desk_of_two (mVar 0) (mCons (mVar 2) (mCons (mBin idxW (mVar 6) (mC (.int 0))) (mCons (mBin idxW (mVar 6) (mC (.int 1))) (mNil)))))) (mSkip)) (mRaise "NoLine"))))))))
def M_Desk_say : MD := mDef 8 m_Desk_say
theorem ok_Desk_say (c : Fx K mg) : FM P w K mg base (glo K mg (tabs K) q lams cells cv) "Desk" "say" 6 2 (M_Desk_say) :=
  (c.dm 0 d_Desk_say rfl).fm (N := ["self", "line", "word", "blank", "text", "words", "numbers", "one"]) (ps := ["self", "line"]) sc_Desk_say (fun _ _ _ _ _ _ us hl => match us, hl with | [_, _], _ => rfl) fun cdv A outer s H E hr => by
    have sc := sc_Desk_say
    exact sm_cons (sm_if (tm_not (tm_val (em_b (c_isi rfl) (c.fr 5 "isinstance" rfl) (am_cons (em_var (pv 1)) (am_cons (em_tyv (c.fr 12 "str" rfl)) (am_nil)))))) (sm_one (sm_raiseX (c.xc 14 "NoLine" rfl) rfl tk_of)) (sm_nil)) (sm_cons (sm_asg (gm_tup (is := [2, 3, 4]) rfl) (em_s1 PySem.F.slot_str_partition PySem.F.type_str_partition m_part (em_var (pv 1)) (em_str)) (pg_tup rfl (pgs_cons (pg_name (i := 2) sc.nd rfl (by first | exact Or.inl rfl | exact Or.inr rfl)) (pgs_cons (pg_name (i := 3) sc.nd rfl (by first | exact Or.inl rfl | exact Or.inr rfl)) (pgs_cons (pg_name (i := 4) sc.nd rfl (by first | exact Or.inl rfl | exact Or.inr rfl)) (pgs_nil)))))) (sm_cons (sm_if ((wm_and (tm_cmp (o_eq rfl hr.units) (em_var (pv 2)) (em_str)) (wm_and1 (tm_cmp (o_eq rfl hr.units) (em_var (pv 3)) (em_str)))).pt) (sm_one (sm_ret (em_meth rfl c.cc (ok_Desk_keep c) hr pas_of (em_var (pv 0)) (am_cons (em_fP (ok_read_table c) hr pas_of (am_cons (em_var (pv 4)) (am_nil))) (am_nil))))) (sm_nil)) (sm_cons (sm_set (i := 5) (em_s1 PySem.F.slot_str_split PySem.F.type_str_split m_split (em_var (pv 1)) (em_str)) sc.nd) (sm_cons (sm_if ((wm_and (tm_cmp (o_eq rfl hr.units) (em_b (c_len rfl) (c.fr 6 "len" rfl) (am_cons (em_var (pv 5)) (am_nil))) (em_int)) (wm_and1 (tm_cmp (o_inG (g := "ALONE") (xs := ["back", "table", "steady", "break"]) rfl (c.tg 0 "ALONE" ["back", "table", "steady", "break"] rfl).1 (c.tg 0 "ALONE" ["back", "table", "steady", "break"] rfl).2) (em_var (pv 2)) (em_gf (c.tg 0 "ALONE" ["back", "table", "steady", "break"] rfl).1 rfl)))).pt) (sm_one (sm_ret (em_meth rfl c.cc (ok_Desk_alone c) hr pas_of (em_var (pv 0)) (am_cons (em_var (pv 2)) (am_nil))))) (sm_nil)) (sm_cons (sm_setLcR (i := 6) rfl rfl tk_of (gm_name (i := 7)) (by decide) rfl sc.nd rfl rfl (sw_true rfl rfl rfl (by decide +kernel)) (im_val (em_slc rfl (em_var (pv 5)) (pm_some (em_int)) pm_none)) (blkOk_by (own := [("one", 7)]) (by kernel_rfl)) (fun _s _H _C _cl _fp => pg_name (i := 7) sc.nd rfl (by first | exact Or.inl rfl | exact Or.inr rfl)) (fun _s _H _C _cl _fp => ptm_nil) (fun _s _H _C _cl _fp bp => em_fP (ok_told_figure c) hr bp (am_cons (em_var (pv 7)) (am_nil)))) (sm_cons (sm_if ((wm_and (tm_cmp (o_eq rfl hr.units) (em_var (pv 2)) (em_str)) (wm_and1 (tm_cmp (o_ne rfl hr.units) (em_var (pv 6)) (em_lst (am_nil))))).pt) (sm_one (sm_ret (em_meth rfl c.cc (ok_Desk_greatest_lot c) hr pas_of (em_var (pv 0)) (am_cons (em_ty (c_tuple rfl) (c.fr 13 "tuple" rfl) (am_cons (em_var (pv 6)) (am_nil))) (am_nil))))) (sm_nil)) (sm_cons (sm_if ((wm_and (tm_cmp (o_inG (g := "OF_TWO") (xs := ["one", "kinds", "places", "shares"]) rfl (c.tg 1 "OF_TWO" ["one", "kinds", "places", "shares"] rfl).1 (c.tg 1 "OF_TWO" ["one", "kinds", "places", "shares"] rfl).2) (em_var (pv 2)) (em_gf (c.tg 1 "OF_TWO" ["one", "kinds", "places", "shares"] rfl).1 rfl)) (wm_and1 (tm_cmp (o_eq rfl hr.units) (em_b (c_len rfl) (c.fr 6 "len" rfl) (am_cons (em_var (pv 6)) (am_nil))) (em_int)))).pt) (sm_one (sm_ret (em_meth rfl c.cc (ok_Desk_of_two c) hr pas_of (em_var (pv 0)) (am_cons (em_var (pv 2)) (am_cons (em_ix (o_idx rfl) (em_var (pv 6)) (em_int)) (am_cons (em_ix (o_idx rfl) (em_var (pv 6)) (em_int)) (am_nil))))))) (sm_nil)) (sm_one (sm_raiseX (c.xc 14 "NoLine" rfl) rfl tk_of)))))))))
theorem sc_Desk_init : FnScope ["self"] ["self"] (defScope s_Desk_init) := ⟨rfl, rfl, rfl, by decide +kernel, rfl, by decide +kernel, by decide +kernel⟩
def lams_Desk_init : List LamD := []
def m_Desk_init : MS := mSeq (mSetFld "Desk" "table" (mTup (mCons (mTup (mCons (mC (.int 0)) (mNil))) (mNil))) (mVar 0)) (mSetFld "Desk" "past" (mNew (mNil)) (mVar 0))
def M_Desk_init : MD := mDef 1 m_Desk_init
theorem ok_Desk_init (c : Fx K mg) : FI P w K mg base (glo K mg (tabs K) q lams cells cv) "Desk" 1 (M_Desk_init) :=
  (c.di).fi (N := ["self"]) sc_Desk_init (fun _ _ _ _ _ _ us hl => match us, hl with | [_], _ => rfl) fun cdv A outer s H E hr => by
    have sc := sc_Desk_init
    exact sm_cons (sm_setFld rfl c.cc (c.na 0 "table" rfl) (em_tup (am_cons (em_tup (am_cons (em_int) (am_nil))) (am_nil))) (em_var (pv 0))) (sm_one (sm_setFld rfl c.cc (c.na 1 "past" rfl) (em_new (am_nil)) (em_var (pv 0))))
theorem sc_law : FnScope ["_law_script", "_law_desk", "_law_words", "_law_told", "_law_word", "_law_cell", "_law_line"] ["_law_script"] (defScope s_law) := ⟨rfl, rfl, rfl, by decide +kernel, rfl, by decide +kernel, by decide +kernel⟩
def l_law_0 : LamD := ⟨laP (eC (eC (sT (sB ((defBody s_law).getD 5 noS) 1)) 0) 0) (defArgs s_law), laB (eC (eC (sT (sB ((defBody s_law).getD 5 noS) 1)) 0) 0), laS (eC (eC (sT (sB ((defBody s_law).getD 5 noS) 1)) 0) 0) (defScope s_law), ["_law_line", "_law_desk"], [], ["_law_line", "_law_desk"], [6, 1]⟩
def lm_law_0 : LamM := ⟨0, 2, 2, mMeth "Desk" "say" 2 M_Desk_say (mVar 1) (mCons (mVar 0) (mNil)), [6, 1]⟩
def lams_law : List LamD := [l_law_0]
def ms_law : List LamM := [lm_law_0]
theorem cf_law_0 : ∀ y ∈ l_law_0.scope.names, y.2 = .free → (defScope s_law).names.lookup y.1 = some .cell := by decide +kernel
theorem lk_law_0 (c : Fx K mg) (hf : ∀ y ∈ l_law_0.scope.names, y.2 = .free → ∃ cc, cells.lookup y.1 = some cc) : LamOk P w K mg base (glo K mg (tabs K) q lams_law cells cv) 9 q cells l_law_0 lm_law_0 where
  np := rfl
  nf := rfl
  nn := rfl
  S := NdefX.nscope_by (by decide +kernel)
  bind := fun _ _ _ _ us hl => match us, hl with | [], _ => rfl
  body := fun f c' A outer s H E hr => by
    exact em_meth rfl c.cc (ok_Desk_say c) hr pas_ncx (em_var (pv 1)) (am_cons (em_var (pv 0)) (am_nil))
  free := hf
theorem hl_law (c : Fx K mg) (has : ∀ y, (defScope s_law).names.lookup y = some .cell ∨ (defScope s_law).names.lookup y = some .free → ∃ cc, cells.lookup y = some cc) (k : Nat) (L : LamD) (M : LamM) (h1 : lams_law[k]? = some L) (h2 : ms_law[k]? = some M) : LamOk P w K mg base (glo K mg (tabs K) q lams_law cells cv) 9 q cells L M := match k, h1, h2 with
  | 0, h1, h2 => by cases h1; cases h2; exact lk_law_0 c fun y hy e => has y.1 (.inl (cf_law_0 y hy e))
theorem hcap_law (X : Cx) (hN : X.N = (["_law_script", "_law_desk", "_law_words", "_law_told", "_law_word", "_law_cell", "_law_line"] : List Str)) (hs : X.env.scope = defScope s_law) (k : Nat) (L : LamD) (M : LamM) (h1 : lams_law[k]? = some L) (h2 : ms_law[k]? = some M) : Capt X L M := match k, h1, h2 with
  | 0, h1, h2 => by cases h1; cases h2; exact capt_of rfl rfl (by rw [hN, hs]; decide +kernel)
def m_law : MS := mSeq (mSet 1 (mMake "Desk" M_Desk_init)) (mSeq (mCond (mIsT (mBin eqW (mBin modW (mBin idxW (mBin addW (mSlc (mVar 0) none (some (mC (.int 1)))) (mLst (mCons (mC (.int 0)) (mNil)))) (mC (.int 0))) (mC (.int 2))) (mC (.int 1)))) (mSeq (mDo (mMeth "Desk" "say" 2 M_Desk_say (mVar 1) (mCons (mC (.str "table 0121/1012/2101/1210")) (mNil)))) (mDo (mMeth "Desk" "say" 2 M_Desk_say (mVar 1) (mCons (mC (.str "places 0 1")) (mNil))))) (mSkip)) (mSeq (mSet 2 (mLst (mCons (mC (.str "table")) (mCons (mC (.str "steady")) (mCons (mC (.str "break")) (mCons (mC (.str "shares 0 0")) (mNil))))))) (mSeq (mSet 3 (mNew (mNil))) (mSeq (mFor (mItV (mVar 2)) (tgN 4) (mDo (mMt appW (mVar 3) (mCons (mMeth "Desk" "say" 2 M_Desk_say (mVar 1) (mCons (mVar 4) (mNil))) (mNil))))) (mSeq (mFor (mItV (mBin addW (mSlc (mVar 0) (some (mC (.int 1))) (some (mC (.int 31)))) (mLst (mCons (mC (.int 5)) (mNil))))) (tgN 5) (mSeq (mSet 6 (mAp (gPure 1 M__law_bad) (mCons (mBin modW (mVar 5) (mC (.int 2147483647))) (mNil)))) (mSeq (mCond (mIsT (mBin neW (mCallH 1 (M__law_refused (apM ms_law [])) ms_law (mCons (mC (.clo 0 [])) (mNil))) (mLst (mCons (mC (.int 13)) (mNil))))) (mRet (mC (.bl false))) (mSkip)) (mCond (mIsT (mBin neW (mLc (mItV (mVar 2)) [4] (tgN 4) (tYesM) (mMeth "Desk" "say" 2 M_Desk_say (mVar 1) (mCons (mVar 4) (mNil)))) (mVar 3))) (mRet (mC (.bl false))) (mSkip))))) (mRet (mC (.bl true))))))))
def M_law : MD := mkM 7 m_law
theorem tabM_law : ((He.cT K ("law", none)).2, (("law" ++ ".<locals>.") ++ "<lambda>" : Str)) ∈ tabs K := by unfold tabs; simp
theorem tabU_law : ∀ p ∈ tabs K, p.1 = (He.cT K ("law", none)).2 → p.2 = (("law" ++ ".<locals>.") ++ "<lambda>" : Str) := by unfold tabs; intro p hp e; simp at hp; first | (rw [hp]; done) | (subst hp; rfl)
theorem ok_law (c : Fx K mg) (TB : TabB base mg (He.cT K ("law", none)).1 (He.cT K ("law", none)).2) : FG P w K mg base (glo K mg (tabs K) q lams cells cv) "law" 13 1 (M_law) :=
  (c.df 20 d_law rfl).mk_ (N := ["_law_script", "_law_desk", "_law_words", "_law_told", "_law_word", "_law_cell", "_law_line"]) (ps := ["_law_script"]) (lams := lams_law) sc_law (fun _ _ _ _ _ _ us hl => match us, hl with | [_], _ => rfl) fun A outer s H E hr => by
    have sc := sc_law
    exact sm_cons (sm_set (i := 1) (em_make0 rfl c.cc (ok_Desk_init c) hr pas_of) sc.nd) (sm_cons (sm_if (tm_cmp (o_eq rfl hr.units) (em_op (o_mod) (em_ix (o_idx rfl) (em_op (o_add) (em_slc rfl (em_var (pv 0)) pm_none (pm_some (em_int))) (em_lst (am_cons (em_int) (am_nil)))) (em_int)) (em_int)) (em_int)) (sm_cons (sm_do (em_meth rfl c.cc (ok_Desk_say c) hr pas_of (em_var (pv 1)) (am_cons (em_str) (am_nil)))) (sm_one (sm_do (em_meth rfl c.cc (ok_Desk_say c) hr pas_of (em_var (pv 1)) (am_cons (em_str) (am_nil)))))) (sm_nil)) (sm_cons (sm_set (i := 2) (em_lst (am_cons (em_str) (am_cons (em_str) (am_cons (em_str) (am_cons (em_str) (am_nil)))))) sc.nd) (sm_cons (sm_set (i := 3) (em_new (am_nil)) sc.nd) (sm_cons (sm_for (gm_name (i := 4)) (passes_of rfl) rfl (im_val (em_var (pv 2))) (pg_name (i := 4) sc.nd rfl (by first | exact Or.inl rfl | exact Or.inr rfl)) (sm_one (sm_do (em_mt rfl PySem.F.slot_list_append rfl m_app (em_var (pv 3)) (am_cons (em_meth rfl c.cc (ok_Desk_say c) hr pas_of (em_var (pv 1)) (am_cons (em_var (pv 4)) (am_nil))) (am_nil)))))) (sm_cons (sm_for (gm_name (i := 5)) (passes_of rfl) rfl (im_val (em_op (o_add) (em_slc rfl (em_var (pv 0)) (pm_some (em_int)) (pm_some (em_int))) (em_lst (am_cons (em_int) (am_nil))))) (pg_name (i := 5) sc.nd rfl (by first | exact Or.inl rfl | exact Or.inr rfl)) (sm_cons (sm_set (i := 6) (em_fP (ok__law_bad c) hr pas_of (am_cons (em_op (o_mod) (em_var (pv 5)) (em_int)) (am_nil))) sc.nd) (sm_cons (sm_if (tm_cmp (o_ne rfl hr.units) (em_callH (kk := 9) (gs := []) (fun _ => rfl) rfl (hcap_law _ rfl rfl) (fun B cv k L M h1 h2 ok tr => hl_law c ok.has k L M h1 h2) (fun B cv x n m h => nomatch h) (fun B cv C => ok__law_refused c C) (hr.mono (by decide)) rfl (c.df 18 d__law_refused rfl).at_ (c.df 18 d__law_refused rfl).kp pas_of (am_cons (em_lam (k := 0) (L := l_law_0) TB rfl tabM_law tabU_law rfl (fun y hy e => cell_has (cf_law_0 y hy e))) (am_nil))) (em_lst (am_cons (em_int) (am_nil)))) (sm_one (sm_ret (em_bl))) (sm_nil)) (sm_one (sm_if (tm_cmp (o_ne rfl hr.units) (em_lc (gm_name (i := 4)) (by decide) rfl sc.nd (im_val (em_var (pv 2))) (blkOk_by (own := [("_law_word", 4)]) (by kernel_rfl)) (fun _s _H _C _cl _fp => pg_name (i := 4) sc.nd rfl (by first | exact Or.inl rfl | exact Or.inr rfl)) (fun _s _H _C _cl _fp => ptm_nil) (fun _s _H _C _cl _fp => em_meth rfl c.cc (ok_Desk_say c) hr passL (em_var (pv 1)) (am_cons (em_var (pv 4)) (am_nil)))) (em_var (pv 3))) (sm_one (sm_ret (em_bl))) (sm_nil)))))) (sm_one (sm_ret (em_bl))))))))
theorem okl_law (c : Fx K mg) (TB : TabB base mg (He.cT K ("law", none)).1 (He.cT K ("law", none)).2) {fd : FuncData} (F : FunD K d_law.name d_law.qual d_law.params d_law.body d_law.scope [] [] (He.fAd K d_law.at_) fd) : FnOk P w K mg base (L2.CX P w) 13 (He.fAd K d_law.at_) fd ["_law_script"] (spM (glo K mg (tabs K) q lams cells cv) 1 M_law) :=
  mkFn (N := ["_law_script", "_law_desk", "_law_words", "_law_told", "_law_word", "_law_cell", "_law_line"]) (ps := ["_law_script"]) (lams := lams_law) F sc_law fun A outer s H E hr => by
    have sc := sc_law
    exact sm_cons (sm_set (i := 1) (em_make0 rfl c.cc (ok_Desk_init c) hr pas_of) sc.nd) (sm_cons (sm_if (tm_cmp (o_eq rfl hr.units) (em_op (o_mod) (em_ix (o_idx rfl) (em_op (o_add) (em_slc rfl (em_var (pv 0)) pm_none (pm_some (em_int))) (em_lst (am_cons (em_int) (am_nil)))) (em_int)) (em_int)) (em_int)) (sm_cons (sm_do (em_meth rfl c.cc (ok_Desk_say c) hr pas_of (em_var (pv 1)) (am_cons (em_str) (am_nil)))) (sm_one (sm_do (em_meth rfl c.cc (ok_Desk_say c) hr pas_of (em_var (pv 1)) (am_cons (em_str) (am_nil)))))) (sm_nil)) (sm_cons (sm_set (i := 2) (em_lst (am_cons (em_str) (am_cons (em_str) (am_cons (em_str) (am_cons (em_str) (am_nil)))))) sc.nd) (sm_cons (sm_set (i := 3) (em_new (am_nil)) sc.nd) (sm_cons (sm_for (gm_name (i := 4)) (passes_of rfl) rfl (im_val (em_var (pv 2))) (pg_name (i := 4) sc.nd rfl (by first | exact Or.inl rfl | exact Or.inr rfl)) (sm_one (sm_do (em_mt rfl PySem.F.slot_list_append rfl m_app (em_var (pv 3)) (am_cons (em_meth rfl c.cc (ok_Desk_say c) hr pas_of (em_var (pv 1)) (am_cons (em_var (pv 4)) (am_nil))) (am_nil)))))) (sm_cons (sm_for (gm_name (i := 5)) (passes_of rfl) rfl (im_val (em_op (o_add) (em_slc rfl (em_var (pv 0)) (pm_some (em_int)) (pm_some (em_int))) (em_lst (am_cons (em_int) (am_nil))))) (pg_name (i := 5) sc.nd rfl (by first | exact Or.inl rfl | exact Or.inr rfl)) (sm_cons (sm_set (i := 6) (em_fP (ok__law_bad c) hr pas_of (am_cons (em_op (o_mod) (em_var (pv 5)) (em_int)) (am_nil))) sc.nd) (sm_cons (sm_if (tm_cmp (o_ne rfl hr.units) (em_callH (kk := 9) (gs := []) (fun _ => rfl) rfl (hcap_law _ rfl rfl) (fun B cv k L M h1 h2 ok tr => hl_law c ok.has k L M h1 h2) (fun B cv x n m h => nomatch h) (fun B cv C => ok__law_refused c C) (hr.mono (by decide)) rfl (c.df 18 d__law_refused rfl).at_ (c.df 18 d__law_refused rfl).kp pas_of (am_cons (em_lam (k := 0) (L := l_law_0) TB rfl tabM_law tabU_law rfl (fun y hy e => cell_has (cf_law_0 y hy e))) (am_nil))) (em_lst (am_cons (em_int) (am_nil)))) (sm_one (sm_ret (em_bl))) (sm_nil)) (sm_one (sm_if (tm_cmp (o_ne rfl hr.units) (em_lc (gm_name (i := 4)) (by decide) rfl sc.nd (im_val (em_var (pv 2))) (blkOk_by (own := [("_law_word", 4)]) (by kernel_rfl)) (fun _s _H _C _cl _fp => pg_name (i := 4) sc.nd rfl (by first | exact Or.inl rfl | exact Or.inr rfl)) (fun _s _H _C _cl _fp => ptm_nil) (fun _s _H _C _cl _fp => em_meth rfl c.cc (ok_Desk_say c) hr passL (em_var (pv 1)) (am_cons (em_var (pv 4)) (am_nil)))) (em_var (pv 3))) (sm_one (sm_ret (em_bl))) (sm_nil)))))) (sm_one (sm_ret (em_bl))))))))
end
def exf : List He.Fa := [.glo "Desk", .cls "Desk", .mkr "Desk"] ++ (flds.map (.noat "Desk") ++ (fm.map (fun d => .meth "Desk" d.name) ++ gtups.map (fun p => .glo p.1)))
theorem fm_at : ∀ d ∈ fm, d.at_ = (("Desk" : Str), some d.name) ∧ d.dfl.isEmpty = true ∧ d.kwd.isEmpty = true := by decide +kernel
def fa : List He.Fa := fn.map (fun d => .glo d.name) ++ (frees.map .free ++ (gints.map (fun p => .int p.1 p.2) ++ (xcs.map .glo ++ (xcs.map .exc ++ (gstrs.map (fun p => .str p.1 p.2) ++ exf)))))
def ex (K : PySem.W.Frag) : Bool := ((extB xcs xtb K && xcs.all fun c => decide (PySem.W.exmOne K (.ref (He.ga K c)) (.ref (He.ga K "NearError")) = some true))) && gtups.all fun p => He.tupB K p.1 (p.2.map He.Dv.str)
theorem fn_at : ∀ d ∈ fn, d.at_ = (d.name, none) ∧ d.dfl.isEmpty = true ∧ d.kwd.isEmpty = true := by decide +kernel
theorem fx_of {h : Heap} {w : World} {K : PySem.W.Frag} {mg : Str → Option Value} (X : K.In h) (G : h.Ns mainGlobals mg) (c : He.SaysX fa fnA [] tf ex w h K) : Fx K mg := by
  have cd := c.t.d
  have xc : ∀ x ∈ xcs, XC K mg x := fun x hx => xc_of X G cd (by unfold fa; simp only [List.mem_append, List.mem_map]; exact .inr (.inr (.inr (.inl ⟨x, hx, rfl⟩)))) (by unfold fa; simp only [List.mem_append, List.mem_map]; exact .inr (.inr (.inr (.inr (.inl ⟨x, hx, rfl⟩)))))
  have moA := c.more
  unfold ex at moA
  have moE := (Bool.and_eq_true_iff.mp moA).1
  have moTT := (Bool.and_eq_true_iff.mp moA).2
  have mo := moE
  have exi : ∀ f ∈ exf, f ∈ fa := fun f h => by unfold fa; simp only [List.mem_append]; exact .inr (.inr (.inr (.inr (.inr (.inr h)))))
  have cc : CC K mg "Desk" := ⟨He.glo_ok X G (cd.facts (exi _ (List.mem_append_left _ List.mem_cons_self))), He.cls_ok (cd.facts (exi _ (List.mem_append_left _ (List.mem_cons_of_mem _ List.mem_cons_self))))⟩
  have na : ∀ (i : Nat) (f : Str), flds[i]? = some f → NoAttr K (He.ga K "Desk") f := fun i f hf => He.noat_ok (cd.facts (exi _ (List.mem_append_right _ (List.mem_append_left _ (List.mem_map.mpr ⟨f, List.mem_of_getElem? hf, rfl⟩)))))
  have dm : ∀ (i : Nat) (d : He.DefD), fm[i]? = some d → Dm K "Desk" d := fun i d hd => by
    have hm := List.mem_of_getElem? hd
    obtain ⟨h1, h2, h3⟩ := fm_at d hm
    exact dm_of cd (List.mem_append_right _ (List.mem_append_left _ hm)) (exi _ (List.mem_append_right _ (List.mem_append_right _ (List.mem_append_left _ (List.mem_map.mpr ⟨d, hm, rfl⟩))))) h1 (List.isEmpty_iff.mp h2) (List.isEmpty_iff.mp h3)
  have di : Di K "Desk" d_Desk_init := di_of cd (List.mem_append_right _ (List.mem_append_right _ List.mem_cons_self)) (exi _ (List.mem_append_left _ (List.mem_cons_of_mem _ (List.mem_cons_of_mem _ List.mem_cons_self)))) rfl rfl rfl
  have tg : ∀ (i : Nat) (x : Str) (xs : List Str), gtups[i]? = some (x, xs) → mg x = some (.ref (He.ga K x)) ∧ He.tupB K x (xs.map He.Dv.str) = true := fun i x xs hx => ⟨He.glo_ok X G (cd.facts (exi _ (List.mem_append_right _ (List.mem_append_right _ (List.mem_append_right _ (List.mem_map.mpr ⟨(x, xs), List.mem_of_getElem? hx, rfl⟩)))))), List.all_eq_true.mp moTT (x, xs) (List.mem_of_getElem? hx)⟩
  refine ⟨fun i d hd => ?_, fun i x hx => ?_, fun i x n hx => ?_, fun i x z hx => ?_, fun i x hx => xc x (List.mem_of_getElem? hx), ?_, ?_, cc, na, dm, di, tg⟩
  · have hm := List.mem_of_getElem? hd
    obtain ⟨h1, h2, h3⟩ := fn_at d hm
    exact df_of X G cd (List.mem_append_left _ hm) (by unfold fa; simp only [List.mem_append, List.mem_map]; exact .inl ⟨d, hm, rfl⟩) h1 (List.isEmpty_iff.mp h2) (List.isEmpty_iff.mp h3)
  · exact He.free_ok X G (cd.facts (by unfold fa; simp only [List.mem_append, List.mem_map]; exact .inr (.inl ⟨x, List.mem_of_getElem? hx, rfl⟩)))
  · exact He.int_ok X G (cd.facts (by unfold fa; simp only [List.mem_append, List.mem_map]; exact .inr (.inr (.inl ⟨(x, n), List.mem_of_getElem? hx, rfl⟩))))
  · exact He.str_ok X G (cd.facts (by unfold fa; simp only [List.mem_append, List.mem_map]; exact .inr (.inr (.inr (.inr (.inr (.inl ⟨(x, z), List.mem_of_getElem? hx, rfl⟩)))))))
  · exact extB_ok (Bool.and_eq_true_iff.mp mo).1 fun c hc => (xc c hc).at_
  · intro c hc
    exact ⟨_, (xc c hc).at_, of_decide_eq_true (List.all_eq_true.mp (Bool.and_eq_true_iff.mp mo).2 c hc)⟩

def nms0 : List Str := ["NearError", "NoTable", "NotSteady", "NoPlace", "NoKind", "NoMix", "NoNumber", "NoLot", "NoKinds", "NoPaper", "NoParting", "NoClosed", "TooMany", "NoText", "NoLine", "NoDeed", "MOST_PLACES", "is_whole", "is_upto", "is_row"]
def nms1 : List Str := ["kinds_in", "is_table", "many_kinds", "shares_in", "pairs_of", "break_in", "is_rising", "free_good", "free_lots", "most_in", "FIGURES", "shown", "row_in", "read_table", "ALONE", "OF_TWO", "told_figure", "exchanged", "Desk", "_law_refused"]
def nms2 : List Str := ["_law_bad"]
def nms : List Str := nms0 ++ nms1 ++ nms2
abbrev rwR : PySem.W.OpenRow := PySem.W.OpenLaw.row row
abbrev hk : PySem.W.Hook := He.hookX 5 fa fnA [] tf ex
def ob (s : PySem.W.SharedT) : He.AlX := He.obsX 5 fa fnA [] tf ex (HandSHeadRun.getT s)
theorem ob_eq (s : PySem.W.SharedT) : ob s = hk.obs s.abs := He.obsX_eq (HandSHeadRun.getT_eq s)
theorem run (w : World) : HandSHeadRun.RunEq rwR (PySem.W.view rwR.prog [47]) hk ob 15000 nms w := by
  intro os
  kernel_rfl
end Law93
namespace Law93
open Mo Fn PySem PySem.Spec L2
theorem g_is_whole (thing : Int) {S : Sto} : gPure 1 M_is_whole [W.int thing] S = .ok (W.bl (is_whole thing)) S := by
  obtain ⟨v, hv⟩ : ∃ v, is_whole thing = v := ⟨_, rfl⟩
  rw [hv]
  unfold is_whole at hv
  refine gp rfl (nrs_cons (Fro.nr (e := W.int) _) nrs_nil) ?_
  have hO := own_nil (S := [])
  show Ws (m_is_whole [some (W.int thing)] []) _ _ _
  unfold m_is_whole
  refine w_ret (w := W.bl (true && (!false))) (S1 := []) ?_ ?_
  · exact (q_and (q_ap (q_cons rfl (q_cons rfl q_nil)) (f_isi true (by rfl))) fun hb2 => (q_not (q_ap (q_cons rfl (q_cons rfl q_nil)) (f_isi false (by rfl)))))
  exact fz_fro (e := W.bl) _ hv
theorem g_is_upto (thing : Int) (low : Int) (high : Int) {S : Sto} : gPure 3 M_is_upto [W.int thing, W.int low, W.int high] S = .ok (W.bl (is_upto thing low high)) S := by
  obtain ⟨v, hv⟩ : ∃ v, is_upto thing low high = v := ⟨_, rfl⟩
  rw [hv]
  unfold is_upto at hv
  refine gp rfl (nrs_cons (Fro.nr (e := W.int) _) (nrs_cons (Fro.nr (e := W.int) _) (nrs_cons (Fro.nr (e := W.int) _) nrs_nil))) ?_
  have hO := own_nil (S := [])
  show Ws (m_is_upto [some (W.int thing), some (W.int low), some (W.int high)] []) _ _ _
  unfold m_is_upto
  refine w_ret (w := W.bl ((is_whole thing) && (decide (low ≤ thing) && decide (thing ≤ high)))) (S1 := []) ?_ ?_
  · exact (q_and (q_ap (q_cons rfl q_nil) (g_is_whole thing)) fun hb3 => (q_chain rfl rfl rfl (fun hb4 => rfl) (fun hb4 => rfl)))
  exact fz_fro (e := W.bl) _ hv
theorem g_is_row (many : Int) (thing : (List Int)) (hs : Safe_is_row many thing) {S : Sto} : gPure 2 M_is_row [W.int many, (eT W.int) thing] S = .ok (W.bl (is_row many thing)) S := by
  obtain ⟨v, hv⟩ : ∃ v, is_row many thing = v := ⟨_, rfl⟩
  rw [hv]
  unfold is_row at hv
  refine gp rfl (nrs_cons (Fro.nr (e := W.int) _) (nrs_cons (Fro.nr (e := (eT W.int)) _) nrs_nil)) ?_
  have hO := own_nil (S := [])
  show Ws (m_is_row [some (W.int many), some ((eT W.int) thing), none] []) _ _ _
  unfold m_is_row
  refine w_ret (w := W.bl (true && ((decide ((thing.length : Int) = many)) && ((thing.map fun x7 => (is_upto x7 (0 : Int) (many - (1 : Int)))).all id)))) (S1 := []) ?_ ?_
  · exact (q_and (q_ap (q_cons rfl (q_cons rfl q_nil)) (f_isi true (by rfl))) fun hb5 => (q_and (q_bin (q_ap (q_cons rfl q_nil) (f_lenT (e := W.int))) rfl (eq_dat (e := W.int) _ _ _)) fun hb6 => (q_ap (q_cons (q_lc (e := W.int) (d := W.bl) (f := fun x7 => (is_upto x7 (0 : Int) (many - (1 : Int)))) (i_T (e := W.int) rfl) ((hs hb5) hb6) fun x7 hx8 => ⟨_, rfl, (q_ap (q_cons rfl (q_cons rfl (q_cons (q_bin rfl rfl rfl) q_nil))) (g_is_upto x7 (0 : Int) (many - (1 : Int))))⟩) q_nil) f_all)))
  exact fz_fro (e := W.bl) _ hv
theorem g_kinds_in (rows_ : (List (List Int))) (hs : Safe_kinds_in rows_) {S : Sto} : gPure 1 M_kinds_in [(eT (eT W.int)) rows_] S = .ok ((eL W.int) (kinds_in rows_)) S := by
  obtain ⟨v, hv⟩ : ∃ v, kinds_in rows_ = v := ⟨_, rfl⟩
  rw [hv]
  unfold kinds_in at hv
  refine gp rfl (nrs_cons (Fro.nr (e := (eT (eT W.int))) _) nrs_nil) ?_
  have hO := own_nil (S := [])
  show Ws (m_kinds_in [some ((eT (eT W.int)) rows_), none, none, none] []) _ _ _
  unfold m_kinds_in
  refine w_seq ?_
  refine w_dictO hO ?_
  intro n6 S7 hO8
  replace hO8 : Own S7 [(n6, .dict (([] : (List (Int × Bool))).map (eK W.bl)))] := hO8
  refine w_seq ?_
  refine w_for (xs := rows_) (e := (eT W.int)) (S1 := S7) (fun (preq9 : List (List Int)) ρ S => ∃ (gv10 : Option W) (gv11 : Option W), ρ = [some ((eT (eT W.int)) rows_), some (.ref n6), gv10, gv11] ∧ Own S [(n6, .dict ((kinds_in_lp1  preq9 ([] : (List (Int × Bool)))).map (eK W.bl)))]) ?_ ⟨_, _, rfl, hO8⟩ ?_ ?_
  · exact (i_T (e := (eT W.int)) rfl)
  · intro preq9 xq9 postq9 _ S12 hxq9
    rintro ⟨gv16, gv17, rfl, hO13⟩
    have hst15 : (kinds_in_lp1  (preq9 ++ [xq9]) ([] : (List (Int × Bool)))) = (kinds_in_lp2  xq9 (kinds_in_lp1  preq9 ([] : (List (Int × Bool))))) := foldl_snoc _ _ _ _
    refine ⟨_, rfl, ?_⟩
    refine w_for (xs := xq9) (e := W.int) (S1 := S12) (fun (preq18 : List Int) ρ S => ∃ (gv19 : Option W), ρ = [some ((eT (eT W.int)) rows_), some (.ref n6), some ((eT W.int) xq9), gv19] ∧ Own S [(n6, .dict ((kinds_in_lp2  preq18 (kinds_in_lp1  preq9 ([] : (List (Int × Bool))))).map (eK W.bl)))]) ?_ ⟨_, rfl, hO13⟩ ?_ ?_
    · exact (i_T (e := W.int) rfl)
    · intro preq18 xq18 postq18 _ S20 hxq18
      rintro ⟨gv24, rfl, hO21⟩
      have hst23 : (kinds_in_lp2  (preq18 ++ [xq18]) (kinds_in_lp1  preq9 ([] : (List (Int × Bool))))) = (dput (kinds_in_lp2  preq18 (kinds_in_lp1  preq9 ([] : (List (Int × Bool))))) xq18 true) := foldl_snoc _ _ _ _
      refine ⟨_, rfl, ?_⟩
      refine w_setKO (e := W.bl) hO21 0 rfl rfl rfl rfl ((hs.1 preq9 xq9 postq9 hxq9) preq18 xq18 postq18 hxq18).1 ((hs.1 preq9 xq9 postq9 hxq9) preq18 xq18 postq18 hxq18).2 ?_
      intro S25 hO26
      replace hO26 : Own S25 [(n6, .dict ((dput (kinds_in_lp2  preq18 (kinds_in_lp1  preq9 ([] : (List (Int × Bool))))) xq18 true).map (eK W.bl)))] := hO26
      rw [hst23]
      exact ⟨_, rfl, hO26⟩
    · intro _ S28
      rintro ⟨gv27, rfl, hO29⟩
      rw [hst15]
      exact ⟨_, _, rfl, hO29⟩
  · intro _ S33
    rintro ⟨gv31, gv32, rfl, hO34⟩
    refine w_ret (w := (eL W.int) (sortI ((kinds_in_lp1  rows_ ([] : (List (Int × Bool)))).map Prod.fst))) (S1 := S33) ?_ ?_
    · exact (q_ap (q_cons rfl q_nil) (f_sortDA (e := W.bl) (own_get hO34 0 rfl) hs.2))
    exact fz_fro (e := (eL W.int)) _ hv
theorem g_is_table (thing : (List (List Int))) (hs : Safe_is_table thing) {S : Sto} : gPure 1 M_is_table [(eT (eT W.int)) thing] S = .ok (W.bl (is_table thing)) S := by
  obtain ⟨v, hv⟩ : ∃ v, is_table thing = v := ⟨_, rfl⟩
  rw [hv]
  unfold is_table at hv
  refine gp rfl (nrs_cons (Fro.nr (e := (eT (eT W.int))) _) nrs_nil) ?_
  have hO := own_nil (S := [])
  show Ws (m_is_table [some ((eT (eT W.int)) thing), none, none, none, none] []) _ _ _
  unfold m_is_table
  refine w_seq ?_
  refine w_if (k := ((!true) || (!(decide ((1 : Int) ≤ (thing.length : Int)) && decide ((thing.length : Int) ≤ (8 : Int)))))) (S1 := []) ?_ (fun hb16 => ?_) (fun hb17 => ?_)
  · exact (q_orT (q_notT (q_isT (q_ap (q_cons rfl (q_cons rfl q_nil)) (f_isi true (by rfl))))) fun hb14 => (q_notT (q_isT (q_chain rfl (q_ap (q_cons rfl q_nil) (f_lenT (e := (eT W.int)))) rfl (fun hb15 => rfl) (fun hb15 => rfl)))))
  · first | rw [if_pos hb16] at hv | skip
    refine w_ret (w := W.bl false) (S1 := []) ?_ ?_
    · exact rfl
    exact fz_fro (e := W.bl) _ hv
  · first | rw [if_neg (nt hb17)] at hv | skip
    refine w_skip ?_
    refine w_seq ?_
    refine w_if (k := (!((thing.map fun x18 => (is_row (thing.length : Int) x18)).all id))) (S1 := []) ?_ (fun hb20 => ?_) (fun hb21 => ?_)
    · exact (q_notT (q_isT (q_ap (q_cons (q_lc (e := (eT W.int)) (d := W.bl) (f := fun x18 => (is_row (thing.length : Int) x18)) (i_T (e := (eT W.int)) rfl) (hs hb17).1 fun x18 hx19 => ⟨_, rfl, (q_ap (q_cons (q_ap (q_cons rfl q_nil) (f_lenT (e := (eT W.int)))) (q_cons rfl q_nil)) (g_is_row (thing.length : Int) x18 ((hs hb17).2.1 x18 hx19)))⟩) q_nil) f_all)))
    · first | rw [if_pos hb20] at hv | skip
      refine w_ret (w := W.bl false) (S1 := []) ?_ ?_
      · exact rfl
      exact fz_fro (e := W.bl) _ hv
    · first | rw [if_neg (nt hb21)] at hv | skip
      refine w_skip ?_
      refine w_seq ?_
      refine w_for (xs := (enm thing)) (e := (eI W.int (eT W.int))) (S1 := []) (fun (preq22 : List (Int × (List Int))) ρ S => ∃ (gv23 : Option W) (gv24 : Option W) (gv25 : Option W) (gv26 : Option W), ρ = [some ((eT (eT W.int)) thing), gv24, gv23, gv25, gv26] ∧ preq22.findSome? (is_table_ex1 thing) = none ∧ Own S []) ?_ ⟨_, _, _, _, rfl, rfl, hO⟩ ?_ ?_
      · exact (i_enumT (e := (eT W.int)) (q_cons rfl q_nil))
      · intro preq22 xq22 postq22 _ S27 hxq22
        rintro ⟨gv31, gv32, gv33, gv34, rfl, hp29, hO28⟩
        have hex30 : (is_table_ex1 thing) xq22 = (if (!(((enm xq22.2).map fun x35 => ((decide ((decide (x35.2 = (0 : Int))) = (decide (xq22.1 = x35.1)))) && (decide (x35.2 = (gI (gI thing x35.1) xq22.1))))).all id)) then some false else none) := rfl
        refine ⟨_, rfl, ?_⟩
        refine w_if (k := (!(((enm xq22.2).map fun x35 => ((decide ((decide (x35.2 = (0 : Int))) = (decide (xq22.1 = x35.1)))) && (decide (x35.2 = (gI (gI thing x35.1) xq22.1))))).all id))) (S1 := S27) ?_ (fun hb38 => ?_) (fun hb39 => ?_)
        · exact (q_notT (q_isT (q_ap (q_cons (q_lc (e := (eI W.int W.int)) (d := W.bl) (f := fun x35 => ((decide ((decide (x35.2 = (0 : Int))) = (decide (xq22.1 = x35.1)))) && (decide (x35.2 = (gI (gI thing x35.1) xq22.1))))) (i_enumT (e := W.int) (q_cons rfl q_nil)) (((hs hb17).2.2 hb21).1 xq22 (mem_mid hxq22)).1 fun x35 hx36 => ⟨_, rfl, (q_and (q_bin (q_bin rfl rfl (eq_dat (e := W.int) _ _ _)) (q_bin rfl rfl (eq_dat (e := W.int) _ _ _)) (eq_dat (e := W.bl) _ _ _)) fun hb37 => (q_bin rfl (q_bin (q_bin rfl rfl (f_idxT (((((hs hb17).2.2 hb21).1 xq22 (mem_mid hxq22)).2 x35 hx36) hb37).1)) rfl (f_idxT (((((hs hb17).2.2 hb21).1 xq22 (mem_mid hxq22)).2 x35 hx36) hb37).2)) (eq_dat (e := W.int) _ _ _)))⟩) q_nil) f_all)))
        · first | rw [if_pos hb38] at hex30 | skip
          refine w_ret (w := W.bl false) (S1 := S27) ?_ ?_
          · exact rfl
          rw [find_mid hxq22 hp29 hex30] at hv
          exact fz_fro (e := W.bl) _ hv
        · first | rw [if_neg (nt hb39)] at hex30 | skip
          refine w_skip ?_
          exact ⟨_, _, _, _, rfl, find_snoc hp29 hex30, hO28⟩
      · intro _ S44
        rintro ⟨gv40, gv41, gv42, gv43, rfl, hp46, hO45⟩
        rw [hp46] at hv
        refine w_ret (w := W.bl (decide ((kinds_in thing) = (rg ((kinds_in thing).length : Int))))) (S1 := S44) ?_ ?_
        · exact (q_bin (q_ap (q_cons rfl q_nil) (g_kinds_in thing ((hs hb17).2.2 hb21).2.1)) (q_ap (q_cons (q_ap (q_cons (q_ap (q_cons rfl q_nil) (g_kinds_in thing ((hs hb17).2.2 hb21).2.2.1)) q_nil) (f_lenL (e := W.int))) q_nil) (f_lrng ((hs hb17).2.2 hb21).2.2.2)) (eq_dat (e := (eL W.int)) _ _ _))
        exact fz_fro (e := W.bl) _ hv
theorem g_many_kinds (table : (List (List Int))) (hs : Safe_many_kinds table) {S : Sto} : gPure 1 M_many_kinds [(eT (eT W.int)) table] S = .ok (W.int (many_kinds table)) S := by
  obtain ⟨v, hv⟩ : ∃ v, many_kinds table = v := ⟨_, rfl⟩
  rw [hv]
  unfold many_kinds at hv
  refine gp rfl (nrs_cons (Fro.nr (e := (eT (eT W.int))) _) nrs_nil) ?_
  have hO := own_nil (S := [])
  show Ws (m_many_kinds [some ((eT (eT W.int)) table)] []) _ _ _
  unfold m_many_kinds
  refine w_ret (w := W.int ((kinds_in table).length : Int)) (S1 := []) ?_ ?_
  · exact (q_ap (q_cons (q_ap (q_cons rfl q_nil) (g_kinds_in table hs)) q_nil) (f_lenL (e := W.int)))
  exact fz_fro (e := W.int) _ hv
theorem g_shares_in (table : (List (List Int))) (one : Int) (other : Int) (hs : Safe_shares_in table one other) {S : Sto} : gPure 3 M_shares_in [(eT (eT W.int)) table, W.int one, W.int other] S = .ok ((eT (eT W.int)) (shares_in table one other)) S := by
  obtain ⟨v, hv⟩ : ∃ v, shares_in table one other = v := ⟨_, rfl⟩
  rw [hv]
  unfold shares_in at hv
  refine gp rfl (nrs_cons (Fro.nr (e := (eT (eT W.int))) _) (nrs_cons (Fro.nr (e := W.int) _) (nrs_cons (Fro.nr (e := W.int) _) nrs_nil))) ?_
  have hO := own_nil (S := [])
  show Ws (m_shares_in [some ((eT (eT W.int)) table), some (W.int one), some (W.int other), none, none, none, none, none, none] []) _ _ _
  unfold m_shares_in
  refine w_seq ?_
  refine w_set (w := W.int (many_kinds table)) (S1 := []) ?_ ?_
  · exact (q_ap (q_cons rfl q_nil) (g_many_kinds table hs.1))
  refine w_seq ?_
  refine w_lcRowsI (e := W.int) (r := fun x10 => (repL (many_kinds table).toNat ([(0 : Int)]))) hO (i_rng1 (q_cons rfl q_nil) hs.2.1) hs.2.2.1 (fun x10 hx11 => ⟨_, rfl, fun S => (q_mulNI (q_lst (q_cons rfl q_nil) (Nat.le_of_ble_eq_true rfl)) rfl (hs.2.2.2.1 x10 hx11))⟩) ?_
  intro ms12 S14 hl13 hO15
  replace hO15 : Own S14 (([] : List (Nat × O)) ++ rowsI ms12 ((rg (many_kinds table)).map fun x10 => (repL (many_kinds table).toNat ([(0 : Int)])))) := hO15
  refine w_seq ?_
  refine w_for (xs := ((gI table one).zip (gI table other))) (e := (eI W.int W.int)) (S1 := S14) (fun (preq16 : List (Int × Int)) ρ S => ∃ (gv17 : Option W) (gv18 : Option W), ρ = [some ((eT (eT W.int)) table), some (W.int one), some (W.int other), some (W.int (many_kinds table)), some (.lst (ms12.map .ref)), none, gv17, gv18, none] ∧ ms12.length = (shares_in_lp1  preq16 ((rg (many_kinds table)).map fun x10 => (repL (many_kinds table).toNat ([(0 : Int)])))).length ∧ Own S (([] : List (Nat × O)) ++ rowsI ms12 (shares_in_lp1  preq16 ((rg (many_kinds table)).map fun x10 => (repL (many_kinds table).toNat ([(0 : Int)])))))) ?_ ⟨_, _, rfl, hl13, hO15⟩ ?_ ?_
  · exact (i_zip (e := W.int) (f := W.int) (q_cons (q_bin rfl rfl (f_idxT hs.2.2.2.2.1)) (q_cons (q_bin rfl rfl (f_idxT hs.2.2.2.2.2.1)) q_nil)) frz_T frz_T)
  · intro preq16 xq16 postq16 _ S19 hxq16
    rintro ⟨gv23, gv24, rfl, hl25, hO20⟩
    have hst22 : (shares_in_lp1  (preq16 ++ [xq16]) ((rg (many_kinds table)).map fun x10 => (repL (many_kinds table).toNat ([(0 : Int)])))) = (setE (shares_in_lp1  preq16 ((rg (many_kinds table)).map fun x10 => (repL (many_kinds table).toNat ([(0 : Int)])))) xq16.1 xq16.2 ((gI (gI (shares_in_lp1  preq16 ((rg (many_kinds table)).map fun x10 => (repL (many_kinds table).toNat ([(0 : Int)])))) xq16.1) xq16.2) + (1 : Int))) := foldl_snoc _ _ _ _
    refine ⟨_, rfl, ?_⟩
    refine w_setRowI hO20 hl25 (q_bin (q_row (o := 0) hO20 hl25 rfl rfl rfl (hs.2.2.2.2.2.2.1 preq16 xq16 postq16 hxq16).1 (hs.2.2.2.2.2.2.1 preq16 xq16 postq16 hxq16).2.1) rfl rfl) rfl rfl rfl (hs.2.2.2.2.2.2.1 preq16 xq16 postq16 hxq16).2.2.1 (hs.2.2.2.2.2.2.1 preq16 xq16 postq16 hxq16).2.2.2 ?_
    intro S27 hO28
    replace hO28 : Own S27 (([] : List (Nat × O)) ++ rowsI ms12 (setE (shares_in_lp1  preq16 ((rg (many_kinds table)).map fun x10 => (repL (many_kinds table).toNat ([(0 : Int)])))) xq16.1 xq16.2 ((gI (gI (shares_in_lp1  preq16 ((rg (many_kinds table)).map fun x10 => (repL (many_kinds table).toNat ([(0 : Int)])))) xq16.1) xq16.2) + (1 : Int)))) := hO28
    have hl26 : ms12.length = (setE (shares_in_lp1  preq16 ((rg (many_kinds table)).map fun x10 => (repL (many_kinds table).toNat ([(0 : Int)])))) xq16.1 xq16.2 ((gI (gI (shares_in_lp1  preq16 ((rg (many_kinds table)).map fun x10 => (repL (many_kinds table).toNat ([(0 : Int)])))) xq16.1) xq16.2) + (1 : Int))).length := by rw [setE_len]; exact hl25
    rw [hst22]
    exact ⟨_, _, rfl, hl26, hO28⟩
  · intro _ S31
    rintro ⟨gv29, gv30, rfl, hl34, hO32⟩
    refine w_ret (w := (eT (eT W.int)) (shares_in_lp1  ((gI table one).zip (gI table other)) ((rg (many_kinds table)).map fun x10 => (repL (many_kinds table).toNat ([(0 : Int)]))))) (S1 := S31) ?_ ?_
    · exact (q_ap (q_cons (q_frzL hO32 hl34 hs.2.2.2.2.2.2.2 rfl (Nat.le_of_ble_eq_true rfl)) q_nil) (f_tupL (e := (eT W.int))))
    exact fz_fro (e := (eT (eT W.int))) _ hv
theorem g_pairsOf (table : (List (List Int))) (hs : Safe_pairsOf table) {S : Sto} : gPure 1 M_pairs_of [(eT (eT W.int)) table] S = .ok ((eL (eP W.int W.int)) (pairsOf table)) S := by
  obtain ⟨v, hv⟩ : ∃ v, pairsOf table = v := ⟨_, rfl⟩
  rw [hv]
  unfold pairsOf at hv
  refine gp rfl (nrs_cons (Fro.nr (e := (eT (eT W.int))) _) nrs_nil) ?_
  have hO := own_nil (S := [])
  show Ws (m_pairs_of [some ((eT (eT W.int)) table), none, none, none] []) _ _ _
  unfold m_pairs_of
  refine w_seq ?_
  refine w_newO (ws := ([] : (List (Int × Int))).map (eP W.int W.int)) hO q_nil (Nat.le_of_ble_eq_true rfl) ?_
  intro n8 S9 hO10
  replace hO10 : Own S9 [(n8, .lst (([] : (List (Int × Int))).map (eP W.int W.int)))] := hO10
  refine w_seq ?_
  refine w_for (xs := (rg (table.length : Int))) (e := W.int) (S1 := S9) (fun (preq11 : List Int) ρ S => ∃ (gv12 : Option W) (gv13 : Option W), ρ = [some ((eT (eT W.int)) table), some (.ref n8), gv12, gv13] ∧ Own S [(n8, .lst ((pairsOf_lp1 table preq11 ([] : (List (Int × Int)))).map (eP W.int W.int)))]) ?_ ⟨_, _, rfl, hO10⟩ ?_ ?_
  · exact (i_rng1 (q_cons (q_ap (q_cons rfl q_nil) (f_lenT (e := (eT W.int)))) q_nil) hs.1)
  · intro preq11 xq11 postq11 _ S14 hxq11
    rintro ⟨gv18, gv19, rfl, hO15⟩
    have hst17 : (pairsOf_lp1 table (preq11 ++ [xq11]) ([] : (List (Int × Int)))) = ((pairsOf_lp1 table preq11 ([] : (List (Int × Int)))) ++ ((rg (table.length : Int)).map fun x20 => (xq11, x20))) := foldl_snoc _ _ _ _
    refine ⟨_, rfl, ?_⟩
    refine w_extO (e := (eP W.int W.int)) hO15 0 rfl rfl (q_cons (q_lc (e := W.int) (d := (eP W.int W.int)) (f := fun x20 => (xq11, x20)) (i_rng1 (q_cons (q_ap (q_cons rfl q_nil) (f_lenT (e := (eT W.int)))) q_nil) (hs.2 preq11 xq11 postq11 hxq11).1) (hs.2 preq11 xq11 postq11 hxq11).2.1 fun x20 hx21 => ⟨_, rfl, (q_tup (q_cons rfl (q_cons rfl q_nil)) (Nat.le_of_ble_eq_true rfl))⟩) q_nil) (hs.2 preq11 xq11 postq11 hxq11).2.2 ?_
    intro S22 hO23
    replace hO23 : Own S22 [(n8, .lst (((pairsOf_lp1 table preq11 ([] : (List (Int × Int)))) ++ ((rg (table.length : Int)).map fun x20 => (xq11, x20))).map (eP W.int W.int)))] := hO23
    rw [hst17]
    exact ⟨_, _, rfl, hO23⟩
  · intro _ S26
    rintro ⟨gv24, gv25, rfl, hO27⟩
    refine w_ret (w := .ref n8) (S1 := S26) ?_ ?_
    · exact rfl
    exact fz_ref (e := (eP W.int W.int)) (own_get hO27 0 rfl) hv
/-! the first break, as the program finds it -/
abbrev eE := eP (eP W.int W.int) (eT (eT W.int))
def rowK (t : List (List Int)) (pre : List (Int × Int)) (p : Int × Nat) : Nat × O := (p.2, .lst (((pre.filter fun q => decide (kd t q = p.1)).map (ent t)).map eE))
/-- the dict of pairs by kinds, and its lists -/
def Kn (t : List (List Int)) (pre : List (Int × Int)) (n : Nat) (S : Sto) : Prop := ∃ xs : List (Int × Nat), (xs.map Prod.fst).Nodup ∧ (∀ q ∈ pre, kd t q ∈ xs.map Prod.fst) ∧ xs.length ≤ pre.length ∧ Own S ((n, .dict (xs.map (eK W.ref))) :: xs.map (rowK t pre))
theorem rowK_other {t : List (List Int)} {pre : List (Int × Int)} {q : Int × Int} {p : Int × Nat} (h : p.1 ≠ kd t q) : rowK t (pre ++ [q]) p = rowK t pre p := by
  unfold rowK
  rw [List.filter_append, List.filter_cons_of_neg (by simpa using Ne.symm h), List.filter_nil, List.append_nil]
/-- a thing put behind the list of its kind -/
theorem kn_put {t : List (List Int)} {pre : List (Int × Int)} {n m : Nat} {S : Sto} {q : Int × Int} {xs : List (Int × Nat)} (hp : pre.length < 1000) (nd : (xs.map Prod.fst).Nodup) (hm : ∀ q ∈ pre, kd t q ∈ xs.map Prod.fst) (hl : xs.length ≤ pre.length + 1) (hx : (kd t q, m) ∈ xs)
    (hO : Own S ((n, .dict (xs.map (eK W.ref))) :: xs.map (rowK t pre))) : ∃ S', appW (.ref m) [eE (ent t q)] S = .ok .non S' ∧ Kn t (pre ++ [q]) n S' := by
  obtain ⟨i, hi⟩ := List.mem_iff_getElem?.mp hx
  have hi2 : ((n, O.dict (xs.map (eK W.ref))) :: xs.map (rowK t pre))[i + 1]? = some (rowK t pre (kd t q, m)) := by
    rw [List.getElem?_cons_succ, List.getElem?_map, hi]; rfl
  have g := own_get hO (i + 1) hi2
  have hO2 := own_set hO (i + 1) hi2 (.lst ((((pre.filter fun q' => decide (kd t q' = kd t q)).map (ent t)) ++ [ent t q]).map eE))
  refine ⟨_, f_app (e := eE) g ?_, xs, nd, fun q' hq => ?_, by rw [List.length_append]; exact hl, ?_⟩
  · rw [List.length_map]
    exact Nat.lt_of_le_of_lt (List.length_filter_le _ _) (by omega)
  · rcases List.mem_append.mp hq with hq | hq
    · exact hm q' hq
    · rw [List.mem_singleton] at hq
      subst hq
      exact List.mem_map.mpr ⟨_, hx, rfl⟩
  · rw [show ((n, O.dict (xs.map (eK W.ref))) :: xs.map (rowK t pre)).set (i + 1) (m, .lst ((((pre.filter fun q' => decide (kd t q' = kd t q)).map (ent t)) ++ [ent t q]).map eE)) = (n, O.dict (xs.map (eK W.ref))) :: xs.map (rowK t (pre ++ [q])) from ?_] at hO2
    · exact hO2
    · rw [List.set_cons_succ]
      congr 1
      refine List.ext_getElem? fun j => ?_
      have hil := (List.getElem?_eq_some_iff.mp hi).1
      by_cases hj : i = j
      · subst hj
        rw [List.getElem?_set_self (by simpa using hil), List.getElem?_map, hi]
        show _ = some (rowK t (pre ++ [q]) (kd t q, m))
        unfold rowK
        rw [List.filter_append, List.filter_cons_of_pos (by simp), List.filter_nil]
        simp only [List.map_append]
        rfl
      · rw [List.getElem?_set_ne hj, List.getElem?_map, List.getElem?_map]
        cases hxj : xs[j]? with
        | none => rfl
        | some p =>
          show some _ = some _
          rw [rowK_other]
          intro e
          have a1 : (xs.map Prod.fst)[i]? = some (kd t q) := by rw [List.getElem?_map, hi]; rfl
          have a2 : (xs.map Prod.fst)[j]? = some (kd t q) := by rw [List.getElem?_map, hxj, ← e]; rfl
          exact hj ((List.getElem?_inj (by simpa using hil) nd).mp (a1.trans a2.symm))
theorem q_setdN {α : Type} {e : α → W} {S S1 S2 : Sto} {L : List (Nat × O)} {n : Nat} {xs : List (Int × α)} {ρ : Env'} {mo mk mz : ME} {k : Int} {v : α} (ho : mo ρ S = .ok (.ref n) S) (hd : ∃ kvs, S[n]? = some (.dict kvs)) (hk : mk ρ S = .ok (.int k) S1) (hz : mz ρ S1 = .ok (e v) S2) (hO : Own S2 L) (i : Nat) (hi : L[i]? = some (n, .dict (xs.map (eK e)))) (hl : xs.length < 100000) (hu : (xs.map Prod.fst).Nodup) :
    ∃ S', mSetd mo mk mz ρ S = .ok (e ((dget xs k).getD v)) S' ∧ Own S' (L.set i (n, .dict ((if (dget xs k).isSome then xs else dput xs k v).map (eK e)))) := by
  obtain ⟨S', e1, h1⟩ := q_setd (e := e) (ρ := ρ) (mo := fun _ T => .ok (.ref n) T) (mk := fun _ T => .ok (.int k) T) (mz := fun _ T => .ok (e v) T) (S := S2) rfl ⟨_, own_get hO i hi⟩ rfl rfl hO i hi hl hu
  refine ⟨S', ?_, h1⟩
  rw [← e1]
  obtain ⟨kvs, hd⟩ := hd
  have a1 : isDict S (.ref n) = true := by unfold isDict; dsimp only; rw [hd]
  have a2 : isDict S2 (.ref n) = true := by unfold isDict; dsimp only; rw [own_get hO i hi]
  unfold mSetd
  rw [ho, R.bind_ok, if_pos a1, hk, R.bind_ok, hz, R.bind_ok, R.bind_ok, if_pos a2, R.bind_ok, R.bind_ok]
theorem kn_step {t : List (List Int)} {pre : List (Int × Int)} {n : Nat} {S : Sto} {q : Int × Int} (hp : pre.length < 1000) (h : Kn t pre n S) {ρ : Env'} {mk : ME} {r : MA} (h1 : ρ[1]? = some (some (.ref n))) (hk : ∀ S, mk ρ S = .ok (.int (kd t q)) S) (hr : ∀ S, r ρ S = .ok [eE (ent t q)] S) :
    ∃ S', mMt appW (mSetd (mVar 1) mk (mNew mNil)) r ρ S = .ok .non S' ∧ Kn t (pre ++ [q]) n S' := by
  obtain ⟨xs, nd, hm, hl, hO⟩ := h
  have hd := own_get hO 0 rfl
  have hO1 := own_new hO (.lst [])
  obtain ⟨S2, e2, hO2⟩ := q_setdN (e := W.ref) (ρ := ρ) (mo := mVar 1) (mk := mk) (mz := mNew mNil) (S := S) (S1 := S) (S2 := S ++ [.lst []]) (n := n) (xs := xs) (k := kd t q) (v := S.length) (by unfold mVar; rw [h1]) ⟨_, hd⟩ (hk S) (by rfl) hO1 0 rfl (by omega) nd
  cases e : dget xs (kd t q) with
  | some m =>
    rw [e] at e2 hO2
    replace hO2 : Own S2 ((n, O.dict (xs.map (eK W.ref))) :: xs.map (rowK t pre)) := own_sub hO2 (List.sublist_append_left ((n, O.dict (xs.map (eK W.ref))) :: xs.map (rowK t pre)) [(S.length, .lst [])])
    obtain ⟨S', e3, h3⟩ := kn_put hp nd hm (by omega) (dget_in e) hO2
    refine ⟨S', ?_, h3⟩
    obtain ⟨i, hi⟩ := List.mem_iff_getElem?.mp (dget_in e)
    have g := own_get hO2 (i + 1) (show _ = some (rowK t pre (kd t q, m)) by rw [List.getElem?_cons_succ, List.getElem?_map, hi]; rfl)
    exact q_mt e2 (it_ref g) (hr S2) e3
  | none =>
    rw [e] at e2 hO2
    have hn : kd t q ∉ xs.map Prod.fst := dget_none.mp e
    have hf : pre.filter (fun q' => decide (kd t q' = kd t q)) = [] := by
      rw [List.filter_eq_nil_iff]
      intro q' hq' z
      exact hn (of_decide_eq_true z ▸ hm q' hq')
    replace hO2 : Own S2 ((n, O.dict ((xs ++ [(kd t q, S.length)]).map (eK W.ref))) :: (xs ++ [(kd t q, S.length)]).map (rowK t pre)) := by
      rw [List.map_append (f := rowK t pre)]
      rw [show [(kd t q, S.length)].map (rowK t pre) = [(S.length, .lst [])] by simp [rowK, hf]]
      have : dput xs (kd t q) S.length = xs ++ [(kd t q, S.length)] := dput_none e
      rw [← this]
      exact hO2
    have nd2 : ((xs ++ [(kd t q, S.length)]).map Prod.fst).Nodup := by
      rw [List.map_append, List.nodup_append]
      exact ⟨nd, by simp, fun a ha b hb z => by simp at hb; subst hb; subst z; exact hn ha⟩
    obtain ⟨S', e3, h3⟩ := kn_put (q := q) (m := S.length) hp nd2 (fun q' hq' => by rw [List.map_append]; exact List.mem_append_left _ (hm q' hq')) (by rw [List.length_append]; show _ + 1 ≤ _; omega) (List.mem_append_right _ List.mem_cons_self) hO2
    refine ⟨S', ?_, h3⟩
    have g := own_get hO2 (xs.length + 1) (show _ = some (rowK t pre (kd t q, S.length)) by rw [List.getElem?_cons_succ, List.getElem?_map, List.getElem?_append_right (Nat.le_refl _), Nat.sub_self]; rfl)
    exact q_mt e2 (it_ref g) (hr S2) e3
theorem g_break_in (t : List (List Int)) (hs : Safe_break_in t) {S : Sto} : gPure 1 M_break_in [eT (eT W.int) t] S = .ok (eO (eT W.int) (brk t)) S := by
  obtain ⟨ps, hp, pl⟩ := hs
  refine gp rfl (nrs_cons (Fro.nr (e := eT (eT W.int)) t) nrs_nil) ?_
  show Ws (m_break_in [some (eT (eT W.int) t), none, none, none, none, none, none, none] []) _ _ _
  unfold m_break_in
  refine w_seq (w_dictO (own_nil (S := [])) fun n S1 hO1 => ?_)
  refine w_seq ?_
  refine w_for (xs := pairsOf t) (e := eP W.int W.int) (S1 := S1) (fun pre ρ S => ∃ g2 : Option W, ρ = [some (eT (eT W.int) t), some (.ref n), g2, none, none, none, none, none] ∧ Kn t pre n S) (i_L (e := eP W.int W.int) (q_ap (q_cons rfl q_nil) (g_pairsOf t ps))) ⟨_, rfl, [], List.nodup_nil, fun _ h => absurd h List.not_mem_nil, Nat.le_refl _, hO1⟩ ?_ ?_
  · rintro pre q post _ S2 eq ⟨g2, rfl, hK⟩
    refine ⟨_, rfl, ?_⟩
    obtain ⟨sh, hq1, hq2⟩ := hp q (mem_mid eq)
    have hpl : pre.length < 1000 := by
      have := congrArg List.length eq
      rw [List.length_append, List.length_cons] at this
      omega
    obtain ⟨S3, e3, h3⟩ := kn_step hpl hK (ρ := [some (eT (eT W.int) t), some (.ref n), some (eP W.int W.int q), none, none, none, none, none]) (mk := mBin idxW (mBin idxW (mVar 0) (mBin idxW (mVar 2) (mC (.int 0)))) (mBin idxW (mVar 2) (mC (.int 1)))) (r := mCons (mTup (mCons (mVar 2) (mCons (mAp (gPure 3 M_shares_in) (mCons (mVar 0) (mCons (mBin idxW (mVar 2) (mC (.int 0))) (mCons (mBin idxW (mVar 2) (mC (.int 1))) (mNil))))) (mNil)))) (mNil)) (q := q) rfl
      (fun S => q_bin (q_bin rfl (q_bin rfl rfl f_fst) (f_idxT (e := eT W.int) hq1)) (q_bin rfl rfl f_snd) (f_idxT (e := W.int) hq2))
      (fun S => q_cons (q_tup (q_cons rfl (q_cons (q_ap (q_cons rfl (q_cons (q_bin rfl rfl f_fst) (q_cons (q_bin rfl rfl f_snd) q_nil))) (g_shares_in t q.1 q.2 sh)) q_nil)) (Nat.le_of_ble_eq_true rfl)) q_nil)
    exact w_do e3 ⟨_, rfl, h3⟩
  · rintro _ S2 ⟨g2, rfl, xs, nd, hm, hl, hO⟩
    refine w_seq ?_
    refine w_for (xs := pairsOf t) (e := eP W.int W.int) (S1 := S2) (fun pre ρ S => ∃ g2 g3 g4 g5 g6 g7 : Option W, ρ = [some (eT (eT W.int) t), some (.ref n), g2, g3, g4, g5, g6, g7] ∧ S = S2 ∧ pre.findSome? (brk1 t) = none) (i_L (e := eP W.int W.int) (q_ap (q_cons rfl q_nil) (g_pairsOf t ps))) ⟨_, _, _, _, _, _, rfl, rfl, rfl⟩ ?_ ?_
    · rintro pre q post _ S3 eq ⟨g2, g3, g4, g5, g6, g7, rfl, rfl, hn⟩
      refine ⟨_, rfl, ?_⟩
      obtain ⟨sh, hq1, hq2⟩ := hp q (mem_mid eq)
      refine w_seq (w_set (w := eT (eT W.int) (shares_in t q.1 q.2)) (S1 := S3) (q_ap (q_cons rfl (q_cons rfl (q_cons rfl q_nil))) (g_shares_in t q.1 q.2 sh)) ?_)
      have hk : kd t q ∈ xs.map Prod.fst := hm q (mem_mid eq)
      obtain ⟨m, em⟩ : ∃ m, dget xs (kd t q) = some m := by
        cases e : dget xs (kd t q) with
        | none => exact absurd hk (dget_none.mp e)
        | some m => exact ⟨m, rfl⟩
      obtain ⟨i, hi⟩ := List.mem_iff_getElem?.mp (dget_in em)
      have g := own_get hO (i + 1) (show _ = some (rowK t (pairsOf t) (kd t q, m)) by rw [List.getElem?_cons_succ, List.getElem?_map, hi]; rfl)
      replace g : S3[m]? = some (.lst ((((pairsOf t).filter fun q' => decide (kd t q' = kd t q)).map (ent t)).map eE)) := g
      have gd := own_get hO 0 rfl
      have fl : ((((pairsOf t).filter fun q' => decide (kd t q' = kd t q)).map (ent t))).length ≤ 100000 := by
        rw [List.length_map]
        have := List.length_filter_le (fun q' => decide (kd t q' = kd t q)) (pairsOf t)
        omega
      refine w_seq (w_set (w := eL (eP W.int W.int) ((((((pairsOf t).filter fun q' => decide (kd t q' = kd t q)).map (ent t))).filter fun p => !decide (p.2 = shares_in t q.1 q.2)).map Prod.fst)) (S1 := S3) ?_ ?_)
      · exact q_lcfR (e := eE) (d := eP W.int W.int) (f := Prod.fst) (p := fun p => !decide (p.2 = shares_in t q.1 q.2)) (i_R (q_bin rfl (q_bin (q_bin rfl rfl (f_idxT (e := eT W.int) hq1)) rfl (f_idxT (e := W.int) hq2)) (f_dix (e := W.ref) gd em)) g) g fl fun p hp => ⟨_, rfl, q_isT (q_bin rfl rfl (ne_dat (e := eT (eT W.int)) _ _ _)), fun _ => rfl⟩
      have hb : (((((pairsOf t).filter fun q' => decide (kd t q' = kd t q)).map (ent t))).filter fun p => !decide (p.2 = shares_in t q.1 q.2)).map Prod.fst = brkL t q := by
        unfold brkL
        rw [List.filter_map, List.map_map, List.filter_filter]
        have : (Prod.fst ∘ ent t) = id := rfl
        rw [this, List.map_id]
        refine List.filter_congr fun p _ => ?_
        show (!decide (shares_in t p.1 p.2 = shares_in t q.1 q.2) && decide (kd t p = kd t q)) = _
        rw [Bool.and_comm]
      rw [hb]
      refine w_if (k := !decide (brkL t q = [])) (S1 := S3) (q_isT (q_bin rfl (q_lst q_nil (by decide)) (ne_dat (e := eL (eP W.int W.int)) _ [] _))) (fun z => ?_) (fun z => w_skip ?_)
      · have ne : brkL t q ≠ [] := by simpa using z
        have e1 : brk1 t q = some ([q.1, q.2] ++ [(gI (brkL t q) 0).1, (gI (brkL t q) 0).2]) := by
          unfold brk1
          cases h : brkL t q with
          | nil => exact absurd h ne
          | cons p r => rfl
        refine w_ret (w := eT W.int ([q.1, q.2] ++ [(gI (brkL t q) 0).1, (gI (brkL t q) 0).2])) (S1 := S3) (q_bin (q_tup (q_cons rfl (q_cons rfl q_nil)) (Nat.le_of_ble_eq_true rfl)) (q_bin rfl rfl (f_idxL (e := eP W.int W.int) ?_)) (f_addT (e := W.int) (xs := [q.1, q.2]) (ys := [(gI (brkL t q) 0).1, (gI (brkL t q) 0).2]) (Nat.le_of_ble_eq_true rfl))) ?_
        · have : 0 < (brkL t q).length := List.length_pos_iff.mpr ne
          omega
        · have : brk t = some ([q.1, q.2] ++ [(gI (brkL t q) 0).1, (gI (brkL t q) 0).2]) := find_mid eq hn e1
          rw [this]
          exact fz_fro (e := eT W.int) _ rfl
      · have e0 : brkL t q = [] := by simpa using z
        exact ⟨_, _, _, _, _, _, rfl, rfl, find_snoc hn (by unfold brk1; rw [e0])⟩
    · rintro _ S3 ⟨g2, g3, g4, g5, g6, g7, rfl, rfl, hn⟩
      refine w_ret (w := .non) (S1 := S3) rfl ?_
      have : brk t = none := hn
      rw [this]
      rfl

theorem g_is_rising (thing : (List Int)) (low : Int) (high : Int) (hs : Safe_is_rising thing low high) {S : Sto} : gPure 3 M_is_rising [(eT W.int) thing, W.int low, W.int high] S = .ok (W.bl (is_rising thing low high)) S := by
  obtain ⟨v, hv⟩ : ∃ v, is_rising thing low high = v := ⟨_, rfl⟩
  rw [hv]
  unfold is_rising at hv
  refine gp rfl (nrs_cons (Fro.nr (e := (eT W.int)) _) (nrs_cons (Fro.nr (e := W.int) _) (nrs_cons (Fro.nr (e := W.int) _) nrs_nil))) ?_
  have hO := own_nil (S := [])
  show Ws (m_is_rising [some ((eT W.int) thing), some (W.int low), some (W.int high), none, none] []) _ _ _
  unfold m_is_rising
  refine w_seq ?_
  refine w_if (k := ((!true) || (!((thing.map fun x9 => (is_upto x9 low high)).all id)))) (S1 := []) ?_ (fun hb11 => ?_) (fun hb12 => ?_)
  · exact (q_orT (q_notT (q_isT (q_ap (q_cons rfl (q_cons rfl q_nil)) (f_isi true (by rfl))))) fun hb8 => (q_notT (q_isT (q_ap (q_cons (q_lc (e := W.int) (d := W.bl) (f := fun x9 => (is_upto x9 low high)) (i_T (e := W.int) rfl) (hs.1 hb8) fun x9 hx10 => ⟨_, rfl, (q_ap (q_cons rfl (q_cons rfl (q_cons rfl q_nil))) (g_is_upto x9 low high))⟩) q_nil) f_all))))
  · first | rw [if_pos hb11] at hv | skip
    refine w_ret (w := W.bl false) (S1 := []) ?_ ?_
    · exact rfl
    exact fz_fro (e := W.bl) _ hv
  · first | rw [if_neg (nt hb12)] at hv | skip
    refine w_skip ?_
    refine w_ret (w := W.bl (((thing.zip (cutL thing (some (1 : Int)) none)).map fun x13 => (decide (x13.1 < x13.2))).all id)) (S1 := []) ?_ ?_
    · exact (q_ap (q_cons (q_lc (e := (eI W.int W.int)) (d := W.bl) (f := fun x13 => (decide (x13.1 < x13.2))) (i_zip (e := W.int) (f := W.int) (q_cons rfl (q_cons (q_slc rfl (q_ps rfl) q_pn (f_slcT (e := W.int))) q_nil)) frz_T frz_T) (hs.2 hb12) fun x13 hx14 => ⟨_, rfl, (q_bin rfl rfl rfl)⟩) q_nil) f_all)
    exact fz_fro (e := W.bl) _ hv
theorem g_free_good (table : (List (List Int))) (kinds : (List Int)) (lot : (List Int)) (hs : Safe_free_good table kinds lot) {S : Sto} : gPure 3 M_free_good [(eT (eT W.int)) table, (eT W.int) kinds, (eT W.int) lot] S = .ok (W.bl (free_good table kinds lot)) S := by
  obtain ⟨v, hv⟩ : ∃ v, free_good table kinds lot = v := ⟨_, rfl⟩
  rw [hv]
  unfold free_good at hv
  refine gp rfl (nrs_cons (Fro.nr (e := (eT (eT W.int))) _) (nrs_cons (Fro.nr (e := (eT W.int)) _) (nrs_cons (Fro.nr (e := (eT W.int)) _) nrs_nil))) ?_
  have hO := own_nil (S := [])
  show Ws (m_free_good [some ((eT (eT W.int)) table), some ((eT W.int) kinds), some ((eT W.int) lot), none, none, none] []) _ _ _
  unfold m_free_good
  refine w_seq ?_
  refine w_for (xs := (enm lot)) (e := (eI W.int W.int)) (S1 := []) (fun (preq5 : List (Int × Int)) ρ S => ∃ (gv6 : Option W) (gv7 : Option W) (gv8 : Option W), ρ = [some ((eT (eT W.int)) table), some ((eT W.int) kinds), some ((eT W.int) lot), gv6, gv7, gv8] ∧ preq5.findSome? (free_good_ex1 table kinds lot) = none ∧ Own S []) ?_ ⟨_, _, _, rfl, rfl, hO⟩ ?_ ?_
  · exact (i_enumT (e := W.int) (q_cons rfl q_nil))
  · intro preq5 xq5 postq5 _ S9 hxq5
    rintro ⟨gv13, gv14, gv15, rfl, hp11, hO10⟩
    have hex12 : (free_good_ex1 table kinds lot) xq5 = (if (!(((cutL lot none (some xq5.1)).map fun x16 => (decide ((gI (gI table xq5.2) x16) ∈ kinds))).all id)) then some false else none) := rfl
    refine ⟨_, rfl, ?_⟩
    refine w_if (k := (!(((cutL lot none (some xq5.1)).map fun x16 => (decide ((gI (gI table xq5.2) x16) ∈ kinds))).all id))) (S1 := S9) ?_ (fun hb18 => ?_) (fun hb19 => ?_)
    · exact (q_notT (q_isT (q_ap (q_cons (q_lc (e := W.int) (d := W.bl) (f := fun x16 => (decide ((gI (gI table xq5.2) x16) ∈ kinds))) (i_T (e := W.int) (q_slc rfl q_pn (q_ps rfl) (f_slcT (e := W.int)))) (hs xq5 (mem_mid hxq5)).1 fun x16 hx17 => ⟨_, rfl, (q_bin (q_bin (q_bin rfl rfl (f_idxT ((hs xq5 (mem_mid hxq5)).2 x16 hx17).1)) rfl (f_idxT ((hs xq5 (mem_mid hxq5)).2 x16 hx17).2)) rfl f_inTI)⟩) q_nil) f_all)))
    · first | rw [if_pos hb18] at hex12 | skip
      refine w_ret (w := W.bl false) (S1 := S9) ?_ ?_
      · exact rfl
      rw [find_mid hxq5 hp11 hex12] at hv
      exact fz_fro (e := W.bl) _ hv
    · first | rw [if_neg (nt hb19)] at hex12 | skip
      refine w_skip ?_
      exact ⟨_, _, _, rfl, find_snoc hp11 hex12, hO10⟩
  · intro _ S23
    rintro ⟨gv20, gv21, gv22, rfl, hp25, hO24⟩
    rw [hp25] at hv
    refine w_ret (w := W.bl true) (S1 := S23) ?_ ?_
    · exact rfl
    exact fz_fro (e := W.bl) _ hv
theorem g_free_lots (table : (List (List Int))) (kinds : (List Int)) (hs : Safe_free_lots table kinds) {S : Sto} : gPure 2 M_free_lots [(eT (eT W.int)) table, (eT W.int) kinds] S = .ok ((eL (eT W.int)) (free_lots table kinds)) S := by
  obtain ⟨v, hv⟩ : ∃ v, free_lots table kinds = v := ⟨_, rfl⟩
  rw [hv]
  unfold free_lots at hv
  refine gp rfl (nrs_cons (Fro.nr (e := (eT (eT W.int))) _) (nrs_cons (Fro.nr (e := (eT W.int)) _) nrs_nil)) ?_
  have hO := own_nil (S := [])
  show Ws (m_free_lots [some ((eT (eT W.int)) table), some ((eT W.int) kinds), none, none, none] []) _ _ _
  unfold m_free_lots
  refine w_seq ?_
  refine w_set (w := (eL (eT W.int)) ([[]])) (S1 := []) ?_ ?_
  · exact (q_lst (q_cons rfl q_nil) (Nat.le_of_ble_eq_true rfl))
  refine w_seq ?_
  refine w_for (xs := (rg (table.length : Int))) (e := W.int) (S1 := []) (fun (preq4 : List Int) ρ S => ∃ (gv5 : Option W) (gv6 : Option W), ρ = [some ((eT (eT W.int)) table), some ((eT W.int) kinds), some ((eL (eT W.int)) (free_lots_lp1 table kinds preq4 ([[]]))), gv5, gv6] ∧ Own S []) ?_ ⟨_, _, rfl, hO⟩ ?_ ?_
  · exact (i_rng1 (q_cons (q_ap (q_cons rfl q_nil) (f_lenT (e := (eT W.int)))) q_nil) hs.1)
  · intro preq4 xq4 postq4 _ S7 hxq4
    rintro ⟨gv11, gv12, rfl, hO8⟩
    have hst10 : (free_lots_lp1 table kinds (preq4 ++ [xq4]) ([[]])) = ((free_lots_lp1 table kinds preq4 ([[]])) ++ (((free_lots_lp1 table kinds preq4 ([[]])).filter fun x13 => (free_good table kinds (x13 ++ [xq4]))).map fun x13 => (x13 ++ [xq4]))) := foldl_snoc _ _ _ _
    refine ⟨_, rfl, ?_⟩
    refine w_set (w := (eL (eT W.int)) ((free_lots_lp1 table kinds preq4 ([[]])) ++ (((free_lots_lp1 table kinds preq4 ([[]])).filter fun x13 => (free_good table kinds (x13 ++ [xq4]))).map fun x13 => (x13 ++ [xq4])))) (S1 := S7) ?_ ?_
    · exact (q_bin rfl (q_lcf (e := (eT W.int)) (d := (eT W.int)) (f := fun x13 => (x13 ++ [xq4])) (p := fun x13 => (free_good table kinds (x13 ++ [xq4]))) (i_L (e := (eT W.int)) rfl) (hs.2 preq4 xq4 postq4 hxq4).1 fun x13 hx14 => ⟨_, rfl, (q_isT (q_ap (q_cons rfl (q_cons rfl (q_cons (q_bin rfl (q_tup (q_cons rfl q_nil) (Nat.le_of_ble_eq_true rfl)) (f_addT (e := W.int) ((hs.2 preq4 xq4 postq4 hxq4).2.1 x13 hx14).1)) q_nil))) (g_free_good table kinds (x13 ++ [xq4]) ((hs.2 preq4 xq4 postq4 hxq4).2.1 x13 hx14).2.1))), fun hb15 => (q_bin rfl (q_tup (q_cons rfl q_nil) (Nat.le_of_ble_eq_true rfl)) (f_addT (e := W.int) (((hs.2 preq4 xq4 postq4 hxq4).2.1 x13 hx14).2.2 hb15)))⟩) (f_addL (e := (eT W.int)) (hs.2 preq4 xq4 postq4 hxq4).2.2))
    rw [hst10]
    exact ⟨_, _, rfl, hO8⟩
  · intro _ S18
    rintro ⟨gv16, gv17, rfl, hO19⟩
    refine w_ret (w := (eL (eT W.int)) (sortT (free_lots_lp1 table kinds (rg (table.length : Int)) ([[]])))) (S1 := S18) ?_ ?_
    · exact (q_ap (q_cons rfl q_nil) f_sortT)
    exact fz_fro (e := (eL (eT W.int))) _ hv
theorem g_most_in (table : (List (List Int))) (kinds : (List Int)) (hs : Safe_most_in table kinds) {S : Sto} : gPure 2 M_most_in [(eT (eT W.int)) table, (eT W.int) kinds] S = .ok (W.int (most_in table kinds)) S := by
  obtain ⟨v, hv⟩ : ∃ v, most_in table kinds = v := ⟨_, rfl⟩
  rw [hv]
  unfold most_in at hv
  refine gp rfl (nrs_cons (Fro.nr (e := (eT (eT W.int))) _) (nrs_cons (Fro.nr (e := (eT W.int)) _) nrs_nil)) ?_
  have hO := own_nil (S := [])
  show Ws (m_most_in [some ((eT (eT W.int)) table), some ((eT W.int) kinds), none] []) _ _ _
  unfold m_most_in
  refine w_ret (w := W.int (maxI ((free_lots table kinds).map fun x3 => (x3.length : Int)))) (S1 := []) ?_ ?_
  · exact (q_ap (q_cons (q_lc (e := (eT W.int)) (d := W.int) (f := fun x3 => (x3.length : Int)) (i_L (e := (eT W.int)) (q_ap (q_cons rfl (q_cons rfl q_nil)) (g_free_lots table kinds hs.1))) hs.2.1 fun x3 hx4 => ⟨_, rfl, (q_ap (q_cons rfl q_nil) (f_lenT (e := W.int)))⟩) q_nil) (f_maxA hs.2.2))
  exact fz_fro (e := W.int) _ hv

section
open Fn
theorem w_eq {r : R Fl} {ρ : Env'} {S : Sto} {Qn : Env' → Sto → Prop} {Qr : W → Sto → Prop} {Qe : Str → Prop} (h : r = .ok (.nx ρ) S) (k : Qn ρ S) : Ws r Qn Qr Qe := by rw [h]; unfold Ws; exact k
theorem f_slcS {ns : List Int} {lo hi : Option Int} {S : Sto} : slcW (.scr ns) lo hi S = .ok (eL W.int (cutL ns lo hi)) S := by
  unfold slcW itemsL; dsimp only; rw [cutL_map]; rfl
theorem cut_len {ns : List Int} {lo hi : Option Int} : (cutL ns lo hi).length ≤ ns.length := by
  unfold cutL
  rw [List.length_take, List.length_drop]
  omega
/-! the lines that are none -/
def lines : List W := [W.str "", W.str " ", W.str "tables", W.str "Table 0", W.str " table 0", W.str "table2 0", W.str "one", W.str "one ", W.str "one 1", W.str "one 1 "] ++
  [W.str "one 1 2 3", W.str "one  1 2", W.str "one x 1", W.str "one 1 x", W.str "one 01 2", W.str "one 1 -2", W.str "one 1-2", W.str "ones 1 2", W.str "kinds", W.str "kinds 1"] ++
  [W.str "kinds 1 2 3", W.str "kinds 1 x", W.str "kind 1 2", W.str "places", W.str "places 0", W.str "places 0 1 2", W.str "places 0 10", W.str "place 0 1", W.str "back ", W.str "back 1"] ++
  [W.str "steady ", W.str "steady 1", W.str "break ", W.str "break 0", W.str "breaks", W.str "shares", W.str "shares 0", W.str "shares 0 0 0", W.str "share 0 0", W.str "shares 0 x"] ++
  [W.str "most", W.str "most ", W.str "most x", W.str "most 1 ", W.str "most 1  2", W.str "most 12", W.str "mosts 1", W.str "none", W.str "0", W.str "undo"] ++
  [.non, .int 7, .bl true, .tup [.str "table"], .lst [.str "steady"], .ed, .str "steady\n", .tup [.tup [.int 0]]]
def tkL (n : Nat) : O := .lst (lines.take n)
theorem bad_at {k : Int} (S : Sto) : gPure 1 M__law_bad [.int k] S = .ok (gI lines (k.fmod 58)) S := by
  have hlen : lines.length = 58 := by decide
  have hr : 0 ≤ k.fmod 58 ∧ k.fmod 58 < lines.length := by
    rw [hlen]
    exact ⟨Int.fmod_nonneg_of_pos k (by decide), Int.fmod_lt_of_pos k (by decide)⟩
  have hall : ∀ w ∈ lines, w.nr = true := by decide +kernel
  refine gp rfl (nrs_cons rfl nrs_nil) ?_
  show Ws (m__law_bad [some (.int k), none] []) _ _ _
  unfold m__law_bad
  refine w_seq (w_eq (ρ := [some (.int k), some (.ref 0)]) (S := [tkL 10]) (by kernel_rfl) ?_)
  refine w_seq (w_eq (ρ := [some (.int k), some (.ref 1)]) (S := [tkL 10, tkL 12]) (by kernel_rfl) ?_)
  refine w_seq (w_eq (ρ := [some (.int k), some (.ref 2)]) (S := [tkL 10, tkL 12, tkL 20]) (by kernel_rfl) ?_)
  refine w_seq (w_eq (ρ := [some (.int k), some (.ref 2)]) (S := [tkL 10, tkL 12, tkL 21]) (by kernel_rfl) ?_)
  refine w_seq (w_eq (ρ := [some (.int k), some (.ref 3)]) (S := [tkL 10, tkL 12, tkL 21, tkL 29]) (by kernel_rfl) ?_)
  refine w_seq (w_eq (ρ := [some (.int k), some (.ref 4)]) (S := [tkL 10, tkL 12, tkL 21, tkL 29, tkL 38]) (by kernel_rfl) ?_)
  refine w_seq (w_eq (ρ := [some (.int k), some (.ref 5)]) (S := [tkL 10, tkL 12, tkL 21, tkL 29, tkL 38, tkL 47]) (by kernel_rfl) ?_)
  refine w_seq (w_eq (ρ := [some (.int k), some (.ref 6)]) (S := [tkL 10, tkL 12, tkL 21, tkL 29, tkL 38, tkL 47, tkL 50]) (by kernel_rfl) ?_)
  refine w_seq (w_eq (ρ := [some (.int k), some (.ref 7)]) (S := [tkL 10, tkL 12, tkL 21, tkL 29, tkL 38, tkL 47, tkL 50, .lst (lines.map id)]) (by kernel_rfl) ?_)
  have hn : ([tkL 10, tkL 12, tkL 21, tkL 29, tkL 38, tkL 47, tkL 50, .lst (lines.map id)] : Sto)[7]? = some (.lst (lines.map id)) := rfl
  refine w_ret (w := gI lines (k.fmod 58)) (S1 := [tkL 10, tkL 12, tkL 21, tkL 29, tkL 38, tkL 47, tkL 50, .lst (lines.map id)]) ?_ (fz_of (hall _ (gI_mem hr)))
  refine q_bin rfl (q_bin (y := .int 58) rfl (q_ap (q_cons rfl q_nil) ?_) (f_mod (by decide))) (f_idxR (e := id) hn hr)
  rw [f_lenR (e := id) hn, hlen]; rfl
/-! the desk's two stores -/
def SA : Sto := [.ins "Desk" [("table", .tup [.tup [.int 0]]), ("past", .ref 1)], .lst []]
def SB : Sto := [.ins "Desk" [("table", .tup [.tup [.int 0, .int 1, .int 1, .int 2], .tup [.int 1, .int 0, .int 2, .int 1], .tup [.int 1, .int 2, .int 0, .int 1], .tup [.int 2, .int 1, .int 1, .int 0]]), ("past", .ref 1)], .lst [.tup [.tup [.int 0]], .tup [.tup [.int 0, .int 1, .int 2, .int 1], .tup [.int 1, .int 0, .int 1, .int 2], .tup [.int 2, .int 1, .int 0, .int 1], .tup [.int 1, .int 2, .int 1, .int 0]]]]
def toldA : O := .lst [.str "0", .str "yes", .str "none", .str "1"]
def toldB : O := match M_Desk_say [.ref 0, .str "table"] SB, M_Desk_say [.ref 0, .str "steady"] SB, M_Desk_say [.ref 0, .str "break"] SB, M_Desk_say [.ref 0, .str "shares 0 0"] SB with
  | .ok a _, .ok b _, .ok c _, .ok d _ => .lst [a, b, c, d]
  | _, _, _, _ => .lst []
abbrev apR : Ap := apM ms_law []
abbrev wordsV : W := .lst [.str "table", .str "steady", .str "break", .str "shares 0 0"]
def refA (w : W) : R W := M__law_refused apR [.clo 0 [w, .ref 0]] (SA ++ [toldA])
def refB (w : W) : R W := M__law_refused apR [.clo 0 [w, .ref 0]] (SB ++ [toldB])
theorem refA_ok : lines.map refA = lines.map fun _ => .ok (.lst [.int 13]) (SA ++ [toldA]) := by kernel_rfl
theorem refB_ok : lines.map refB = lines.map fun _ => .ok (.lst [.int 13]) (SB ++ [toldB]) := by kernel_rfl
theorem lines_nc : ∀ w ∈ lines, w.nc = true := by decide +kernel
theorem refused_line {ρ : Env'} {w : W} {S : Sto} (hw : w ∈ lines) (hS : S = SA ++ [toldA] ∨ S = SB ++ [toldB]) (h6 : ρ[6]? = some (some w)) (h1 : ρ[1]? = some (some (.ref 0))) : gCallH 1 (M__law_refused apR) ms_law ρ [.clo 0 []] S = .ok (.lst [.int 13]) S := by
  have hc : mapO (cvtS ms_law ρ) [.clo 0 []] = some [.clo 0 [w, .ref 0]] := by
    have e : capS ρ [6, 1] = some [w, .ref 0] := by
      unfold capS
      rw [h6]
      dsimp only
      rw [if_pos (lines_nc w hw)]
      unfold capS
      rw [h1]
      rfl
    have e2 : cvtS ms_law ρ (.clo 0 []) = some (.clo 0 [w, .ref 0]) := by
      unfold cvtS
      show (match capS ρ [6, 1] with
        | some us => some (W.clo 0 us)
        | none => none) = _
      rw [e]
    exact map_cons e2 map_nil
  have hn : clean S = S := by rcases hS with rfl | rfl <;> kernel_rfl
  have hr : M__law_refused apR [.clo 0 [w, .ref 0]] S = .ok (.lst [.int 13]) S := by
    rcases hS with rfl | rfl
    · exact List.map_inj_left.mp refA_ok w hw
    · exact List.map_inj_left.mp refB_ok w hw
  unfold gCallH
  rw [if_pos (show [W.clo 0 []].length = 1 from rfl), hc]
  dsimp only
  rw [hn, hr]
  dsimp only
  rw [hn]
  rfl
theorem plain (ns : List Int) (h : ns.length ≤ 63) : M_law [.scr ns] [] = .ok (.bl true) [] := by
  refine law_mk rfl ?_
  show Ws (m_law [some (.scr ns), none, none, none, none, none, none] []) _ _ _
  unfold m_law
  refine w_seq (w_eq (ρ := [some (.scr ns), some (.ref 0), none, none, none, none, none]) (S := SA) (by kernel_rfl) ?_)
  refine w_seq (w_cut (Q := fun ρ S => ρ = [some (.scr ns), some (.ref 0), none, none, none, none, none] ∧ (S = SA ∨ S = SB)) ?_ ?_)
  · have hc := cut_len (ns := ns) (lo := none) (hi := some 1)
    refine w_if (k := decide ((gI (cutL ns none (some 1) ++ [0]) 0).fmod 2 = 1)) (S1 := SA) (q_isT (q_bin (q_bin (q_bin (q_bin (q_slc rfl q_pn (q_ps rfl) f_slcS) (q_lst (q_cons rfl q_nil) (Nat.le_of_ble_eq_true rfl)) (f_addL (e := W.int) (ys := [0]) (by simp; omega))) rfl (f_idxL (e := W.int) ⟨by decide, by first | (simp; done) | (simp; omega)⟩)) rfl (f_mod (by decide))) rfl (eq_dat (e := W.int) _ _ _))) (fun _ => ?_) (fun _ => w_skip ⟨rfl, .inl rfl⟩)
    exact w_eq (ρ := [some (.scr ns), some (.ref 0), none, none, none, none, none]) (S := SB) (by kernel_rfl) ⟨rfl, .inr rfl⟩
  rintro ρ S ⟨rfl, hS⟩
  refine w_seq (w_eq (ρ := [some (.scr ns), some (.ref 0), some wordsV, none, none, none, none]) (S := S) (by kernel_rfl) ?_)
  refine w_seq (w_cut (Q := fun ρ S' => ρ = [some (.scr ns), some (.ref 0), some wordsV, some (.ref 2), none, none, none] ∧ S' = S ++ [.lst []]) ?_ ?_)
  · rcases hS with rfl | rfl <;> exact w_eq (by kernel_rfl) ⟨rfl, rfl⟩
  rintro ρ S' ⟨rfl, rfl⟩
  refine w_seq (w_cut (Q := fun ρ S' => ρ = [some (.scr ns), some (.ref 0), some wordsV, some (.ref 2), some (.str "shares 0 0"), none, none] ∧ (S' = SA ++ [toldA] ∨ S' = SB ++ [toldB])) ?_ ?_)
  · rcases hS with rfl | rfl
    · exact w_eq (ρ := [some (.scr ns), some (.ref 0), some wordsV, some (.ref 2), some (.str "shares 0 0"), none, none]) (S := SA ++ [toldA]) (by kernel_rfl) ⟨rfl, .inl rfl⟩
    · exact w_eq (ρ := [some (.scr ns), some (.ref 0), some wordsV, some (.ref 2), some (.str "shares 0 0"), none, none]) (S := SB ++ [toldB]) (by kernel_rfl) ⟨rfl, .inr rfl⟩
  rintro ρ S' ⟨rfl, hS'⟩
  have hc := cut_len (ns := ns) (lo := some 1) (hi := some 31)
  refine w_seq ?_
  refine w_for (xs := cutL ns (some 1) (some 31) ++ [5]) (e := W.int) (S1 := S') (fun _ ρ S => ∃ g4 g5 g6 : Option W, ρ = [some (.scr ns), some (.ref 0), some wordsV, some (.ref 2), g4, g5, g6] ∧ S = S') ?_ ⟨_, _, _, rfl, rfl⟩ ?_ ?_
  · exact i_L (e := W.int) (q_bin (q_slc rfl (q_ps rfl) (q_ps rfl) f_slcS) (q_lst (q_cons rfl q_nil) (Nat.le_of_ble_eq_true rfl)) (f_addL (e := W.int) (ys := [5]) (by simp; omega)))
  · rintro pre c post ρ S2 _ ⟨g4, g5, g6, rfl, rfl⟩
    refine ⟨_, rfl, ?_⟩
    have hlen : lines.length = 58 := by decide
    have hw : gI lines ((c.fmod 2147483647).fmod 58) ∈ lines := gI_mem (by rw [hlen]; exact ⟨Int.fmod_nonneg_of_pos _ (by decide), Int.fmod_lt_of_pos _ (by decide)⟩)
    refine w_seq (w_set (w := gI lines ((c.fmod 2147483647).fmod 58)) (S1 := S2) (q_ap (q_cons (q_bin rfl rfl (f_mod (by decide))) q_nil) (bad_at S2)) ?_)
    refine w_seq (w_if (k := false) (S1 := S2) (q_isT (q_bin (x := .lst [.int 13]) (S1 := S2) ?_ (y := .lst [.int 13]) (S2 := S2) (by rfl) (by rfl))) (fun z => nomatch z) (fun _ => w_skip ?_))
    · unfold mCallH
      rw [q_cons (x := .clo 0 []) (ws := []) rfl q_nil, R.bind_ok]
      exact refused_line hw hS' rfl rfl
    · rcases hS' with rfl | rfl
      · exact w_if (k := false) (S1 := SA ++ [toldA]) (by kernel_rfl) (fun z => nomatch z) (fun _ => w_skip ⟨_, _, _, rfl, rfl⟩)
      · exact w_if (k := false) (S1 := SB ++ [toldB]) (by kernel_rfl) (fun z => nomatch z) (fun _ => w_skip ⟨_, _, _, rfl, rfl⟩)
  · rintro ρ S ⟨g4, g5, g6, rfl, rfl⟩
    exact w_ret (w := .bl true) (S1 := S) rfl rfl

end
end Law93
namespace Law93
open Mo PySem PySem.Spec L2
open PyProof.Rows hiding St
open LamX (CodeO TabS Tabs ExtN TabB)

theorem plainE (ns : List Int) (h : ns.length ≤ 63) : ∃ S', M_law [.scr ns] [] = .ok (.bl true) S' := by first | exact plain ns h | exact ⟨_, plain ns h⟩
theorem law_at {P : Program} {w : World} {K : PySem.W.Frag} {mg : Str → Option Value} {f : Addr} {h : Heap} (KX : K.In h) (G : h.Ns mainGlobals mg) (c : He.SaysX fa fnA [] tf ex w h K) (hmg : mg "law" = some (.ref f)) (plain : ∀ ns : List Int, ns.length ≤ 63 → ∃ S', M_law [.scr ns] [] = .ok (.bl true) S') :
    ∃ (fd : FuncData) (cs : List (Addr × Addr)) (sp : Sp), (∀ p ∈ cs, h.get? p.2 = some { cls := .none, data := .fields #[] }) ∧ (∀ p ∈ cs, K.lookup p.2 = none) ∧ (∀ p ∈ cs, PySem.W.CodeHd h p.1 p.2) ∧ (∀ (s : Shared) (u : Value), BindsTo s fd ⟨[u], []⟩ [("_law_script", u)]) ∧
      (∀ (H : Hp) (a : Addr) (ns : List Int), ns.length ≤ 63 → (∀ z ∈ ns, Builtin.Int.intBits z ≤ 1048576) → (∀ p ∈ cs, H p.2 = some (.tbl #[])) → SqL K H a (ns.map V.int) → sp [.ref a] H (fun v _ => v = .bl true) fun _ _ _ => False) ∧
      ∀ base : Heap, K.In base → base.Ns mainGlobals mg → (∀ p ∈ cs, TabB base mg p.1 p.2) → FnOk P w K mg base (L2.CX P w) 20 f fd ["_law_script"] sp := by
  have fx := fx_of KX G c
  obtain ⟨fd, F⟩ := (fx.df 20 d_law rfl).ex
  have ef := (fx.df 20 d_law rfl).at_.symm.trans hmg
  cases ef
  refine ⟨fd, tf.map (He.cT K), spM (glo K mg (tabs K) "" [] [] fun _ _ => False) 1 M_law, fun p hp => ?_, fun p hp => ?_, fun p hp => ?_, fun s u => ?_, fun H a ns hl _ hH hS => law_spE (fun p hp => ?_) hS (plain ns hl), fun base hb1 hb2 TB => ?_⟩
  · obtain ⟨p', h1, rfl⟩ := List.mem_map.mp hp
    exact c.empty p' h1
  · obtain ⟨p', h1, rfl⟩ := List.mem_map.mp hp
    exact c.out p' h1
  · obtain ⟨p', h1, rfl⟩ := List.mem_map.mp hp
    exact PySem.W.codeHd_of_K KX (c.hd p' h1)
  · exact FunD.bindsA (ps := ["_law_script"]) F (fun _ _ _ _ _ _ us hl => match us, hl with | [_], _ => rfl) s [u] rfl
  · unfold tabs at hp
    refine LamX.TabS.nil ?_
    simp only [List.mem_cons, List.not_mem_nil, or_false] at hp
    rcases hp with rfl
    · exact hH _ (List.mem_map.mpr ⟨("law", none), by decide, rfl⟩)
  · have O := okl_law (P := P) (w := w) (base := base) (q := "") (lams := []) (cells := []) (cv := fun _ _ => False) fx (TB _ (List.mem_map.mpr ⟨("law", none), by decide, rfl⟩)) F
    exact ⟨O.len, fun A outer s H args us vs Q E hr => O.run A outer s H args us vs Q E (hr.mono (by decide))⟩
end Law93
open PySem PySem.W PySem.Calls PyProof.Rows
theorem PySem.Challenge.cw_nearkinds_k93_lines_that_are_none_holds : PySem.Challenge.rw_nearkinds_k93_lines_that_are_none.Holds := by
  w_on; o_law
  refine HandSHeadRun.head_any (r := OpenLaw.row PySem.Challenge.rw_nearkinds_k93_lines_that_are_none) (q := view (OpenLaw.row PySem.Challenge.rw_nearkinds_k93_lines_that_are_none).prog [47]) (H := Law93.hk) (ob := Law93.ob) (M := 15000) (loose := Law93.nms) (d := HandSHeadRun.topDef (OpenLaw.row PySem.Challenge.rw_nearkinds_k93_lines_that_are_none).prog 47) (kwd := []) Law93.ob_eq
    (by kernel_rfl) (fun s => by kernel_rfl) Law93.run (by kernel_rfl) (by kernel_rfl) (by kernel_rfl) (by rfl) (by first | assumption | decide +kernel) (by decide +kernel) ⟨rfl, rfl, rfl, rfl, rfl, by decide +kernel⟩ ?hw ?hc
  case hw => w_witness2
  case hc =>
    refine LamX.walk_ofTsE (l := PySem.Challenge.rw_nearkinds_k93_lines_that_are_none) (n := 63) (k := 20) (x := "_law_script") (CX := L2.CX (PySem.Challenge.rw_nearkinds_k93_lines_that_are_none).prog) rfl (by decide) (by kernel_rfl) ⟨rfl, by decide, by decide⟩ ?F (fun _ _ _ _ _ z => Mo.hCX0 z)
    intro w mg fa h Y G hmg0
    obtain ⟨K, KX, c⟩ := Y
    have hmg : mg ("law" : PySem.Str) = some (.ref fa) := by
      have e : (HandSHeadRun.topDef (OpenLaw.row PySem.Challenge.rw_nearkinds_k93_lines_that_are_none).prog 47).name = ("law" : PySem.Str) := by kernel_rfl
      rw [← e]
      exact hmg0
    exact ⟨K, KX, Law93.law_at KX G c hmg Law93.plainE⟩
