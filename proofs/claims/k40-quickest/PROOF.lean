import PyProof.Rows.All
import Wide.All
import OpenK.AllK
import Wide.FinOn
import KE.KStateDown
import HandS.ForMost
import HandS.Exc
import HandS.WordsExc
import HandS.HeadHook2
import HandS.Style
import HandS.IsInst
import HandS.Flow
import HandS.Walk
import HandS.SortOrd
import HandS.SortInts
import HandS.SetFor
import HandS.Conv
import HandS.More
import HandS.OwnEq
import HandS.Text
import HandS.FStr
import HandS.StrSplit
import HandS.ExcInit
import HandS.ExcCtx
import HandS.TryElse
import HandS.Small
import HandS.NoneIn
import HandS.Strs
import HandS.Star
import HandS.SetBool
import HandS.TryMany
import HandS.ExcOwn
import HandS.HotCalls
import HandS.Head0
import HandS.Head1
import HandS.Head2
import HandS.HeadEnd
import PySem.Challenge.RW_crownwork_k40_whole_quickest_short_order
set_option Elab.async false
set_option linter.all false
set_option maxRecDepth 100000
set_option maxHeartbeats 4000000
namespace DL
open PySem PySem.Spec PyProof.Rows L2
/-! ### data: what a value is worth, without the heap -/
inductive D where
  | non
  | bl (b : Bool)
  | int (i : Int)
  | str (s : Str)
  | lst (l : List D)
  | tup (l : List D)
  | dic (ks : List Key) (l : List D)
  | obj (c : Str) (fs : List Str) (l : List D)
  | scr (l : List Int)
  | ext (φ : Addr → Heap → Prop)

mutual
def Rep (K : PySem.W.Frag) (H : Hp) : D → V → Prop
  | .non, v => v = .non
  | .bl b, v => v = .bl b
  | .int i, v => v = .int i
  | .str s, v => v = .str s
  | .lst l, v => ∃ p vs, v = .ref p ∧ H p = some (.lst vs) ∧ Reps K H l vs
  | .tup l, v => ∃ p vs, v = .ref p ∧ H p = some (.tup vs) ∧ Reps K H l vs
  | .dic ks l, v => ∃ p es, v = .ref p ∧ H p = some (.dK es) ∧ es.map (·.1) = ks ∧ Reps K H l (es.map (·.2))
  | .obj c fs l, v => ∃ p dx fv, v = .ref p ∧ H p = some (.ins (He.ga K c) dx fv) ∧ fv.map (·.1) = fs ∧ Reps K H l (fv.map (·.2))
  | .scr ns, v => ∃ p, v = .ref p ∧ SqL K H p (ns.map V.int)
  | .ext φ, v => ∃ p, v = .ref p ∧ H p = some (.ext (φ p))
def Reps (K : PySem.W.Frag) (H : Hp) : List D → List V → Prop
  | [], vs => vs = []
  | d :: ds, vs => ∃ v ws, vs = v :: ws ∧ Rep K H d v ∧ Reps K H ds ws
end
/-! ### trees: what is owned (N) over data -/
inductive N where
  | d (x : D)
  | lst (l : List N)
  | tup (l : List N)
  | dic (ks : List Key) (l : List N)
  | obj (c : Str) (fs : List Str) (l : List N)
  | ext (φ : Addr → Heap → Prop)

mutual
def N.view : N → D
  | .d x => x
  | .lst l => .lst (N.views l)
  | .tup l => .tup (N.views l)
  | .dic ks l => .dic ks (N.views l)
  | .obj c fs l => .obj c fs (N.views l)
  | .ext φ => .ext φ
def N.views : List N → List D
  | [] => []
  | n :: l => n.view :: N.views l
end
@[simp] theorem view_d (x : D) : N.view (.d x) = x := by unfold N.view; rfl
@[simp] theorem view_lst (l : List N) : N.view (.lst l) = .lst (N.views l) := by rw [N.view]
@[simp] theorem view_tup (l : List N) : N.view (.tup l) = .tup (N.views l) := by rw [N.view]
@[simp] theorem view_dic (ks : List Key) (l : List N) : N.view (.dic ks l) = .dic ks (N.views l) := by rw [N.view]
@[simp] theorem view_ext (φ : Addr → Heap → Prop) : N.view (.ext φ) = .ext φ := by rw [N.view]
@[simp] theorem view_obj (c : Str) (fs : List Str) (l : List N) : N.view (.obj c fs l) = .obj c fs (N.views l) := by rw [N.view]
@[simp] theorem views_nil : N.views [] = [] := by rw [N.views]
@[simp] theorem views_cons (n : N) (l : List N) : N.views (n :: l) = n.view :: N.views l := by rw [N.views]
theorem views_eq : ∀ l : List N, N.views l = l.map N.view
  | [] => by simp
  | n :: l => by rw [views_cons, views_eq l, List.map_cons]
@[simp] theorem views_map_d (l : List D) : N.views (l.map N.d) = l := by
  induction l with
  | nil => simp
  | cons x l ih => simp [ih]
@[simp] theorem views_append (a b : List N) : N.views (a ++ b) = N.views a ++ N.views b := by simp [views_eq]

section
variable (K : PySem.W.Frag) (Hf H : Hp)
mutual
def RepN : N → V → List Addr → Prop
  | .d x, v, A => A = [] ∧ Rep K Hf x v
  | .lst l, v, A => ∃ p vs B, v = .ref p ∧ A = p :: B ∧ H p = some (.lst vs) ∧ RepNs l vs B
  | .tup l, v, A => ∃ p vs B, v = .ref p ∧ A = p :: B ∧ H p = some (.tup vs) ∧ RepNs l vs B
  | .dic ks l, v, A => ∃ p es B, v = .ref p ∧ A = p :: B ∧ H p = some (.dK es) ∧ es.map (·.1) = ks ∧ RepNs l (es.map (·.2)) B
  | .obj c fs l, v, A => ∃ p dx fv B, v = .ref p ∧ A = p :: B ∧ H p = some (.ins (He.ga K c) dx fv) ∧ fv.map (·.1) = fs ∧ RepNs l (fv.map (·.2)) B
  | .ext φ, v, A => ∃ p, v = .ref p ∧ A = [p] ∧ H p = some (.ext (φ p))
def RepNs : List N → List V → List Addr → Prop
  | [], vs, A => vs = [] ∧ A = []
  | n :: l, vs, A => ∃ v ws A1 A2, vs = v :: ws ∧ A = A1 ++ A2 ∧ RepN n v A1 ∧ RepNs l ws A2
end
end

section
variable {K : PySem.W.Frag} {Hf Hf' H H' : Hp}
theorem same_seq (e : Same Hf Hf') {p : Addr} {xs : List V} (h : SqL K Hf p xs) : SqL K Hf' p xs := Same.seq e h
mutual
theorem Rep.mono (e : Same Hf Hf') : ∀ (d : D) (v : V), Rep K Hf d v → Rep K Hf' d v
  | .non, v, h => by unfold Rep at h ⊢; exact h
  | .bl b, v, h => by unfold Rep at h ⊢; exact h
  | .int b, v, h => by unfold Rep at h ⊢; exact h
  | .str b, v, h => by unfold Rep at h ⊢; exact h
  | .lst l, v, h => by
    unfold Rep at h ⊢
    obtain ⟨p, vs, e1, e2, e3⟩ := h
    exact ⟨p, vs, e1, e _ _ e2, Reps.mono e l vs e3⟩
  | .tup l, v, h => by
    unfold Rep at h ⊢
    obtain ⟨p, vs, e1, e2, e3⟩ := h
    exact ⟨p, vs, e1, e _ _ e2, Reps.mono e l vs e3⟩
  | .dic ks l, v, h => by
    unfold Rep at h ⊢
    obtain ⟨p, vs, e1, e2, e3, e4⟩ := h
    exact ⟨p, vs, e1, e _ _ e2, e3, Reps.mono e l _ e4⟩
  | .obj c fs l, v, h => by
    unfold Rep at h ⊢
    obtain ⟨p, dx, vs, e1, e2, e3, e4⟩ := h
    exact ⟨p, dx, vs, e1, e _ _ e2, e3, Reps.mono e l _ e4⟩
  | .scr l, v, h => by
    unfold Rep at h ⊢
    obtain ⟨p, e1, e2⟩ := h
    exact ⟨p, e1, same_seq e e2⟩
  | .ext φ, v, h => by
    unfold Rep at h ⊢
    obtain ⟨p, e1, e2⟩ := h
    exact ⟨p, e1, e _ _ e2⟩
theorem Reps.mono (e : Same Hf Hf') : ∀ (l : List D) (vs : List V), Reps K Hf l vs → Reps K Hf' l vs
  | [], vs, h => by unfold Reps at h ⊢; exact h
  | d :: l, vs, h => by
    unfold Reps at h ⊢
    obtain ⟨v, ws, e1, e2, e3⟩ := h
    exact ⟨v, ws, e1, Rep.mono e d v e2, Reps.mono e l ws e3⟩
end
mutual
/-- a tree stands as long as its own addresses do -/
theorem RepN.stay (e : Same Hf Hf') : ∀ (n : N) (v : V) (A : List Addr), RepN K Hf H n v A → (∀ a ∈ A, H' a = H a) → RepN K Hf' H' n v A
  | .d x, v, A, h, _ => by
    unfold RepN at h ⊢
    exact ⟨h.1, Rep.mono e x v h.2⟩
  | .lst l, v, A, h, k => by
    unfold RepN at h ⊢
    obtain ⟨p, vs, B, e1, e2, e3, e4⟩ := h
    exact ⟨p, vs, B, e1, e2, (k p (by rw [e2]; exact List.mem_cons_self)).trans e3, RepNs.stay e l vs B e4 fun a ha => k a (by rw [e2]; exact List.mem_cons_of_mem _ ha)⟩
  | .tup l, v, A, h, k => by
    unfold RepN at h ⊢
    obtain ⟨p, vs, B, e1, e2, e3, e4⟩ := h
    exact ⟨p, vs, B, e1, e2, (k p (by rw [e2]; exact List.mem_cons_self)).trans e3, RepNs.stay e l vs B e4 fun a ha => k a (by rw [e2]; exact List.mem_cons_of_mem _ ha)⟩
  | .dic ks l, v, A, h, k => by
    unfold RepN at h ⊢
    obtain ⟨p, vs, B, e1, e2, e3, e4, e5⟩ := h
    exact ⟨p, vs, B, e1, e2, (k p (by rw [e2]; exact List.mem_cons_self)).trans e3, e4, RepNs.stay e l _ B e5 fun a ha => k a (by rw [e2]; exact List.mem_cons_of_mem _ ha)⟩
  | .obj c fs l, v, A, h, k => by
    unfold RepN at h ⊢
    obtain ⟨p, dx, vs, B, e1, e2, e3, e4, e5⟩ := h
    exact ⟨p, dx, vs, B, e1, e2, (k p (by rw [e2]; exact List.mem_cons_self)).trans e3, e4, RepNs.stay e l _ B e5 fun a ha => k a (by rw [e2]; exact List.mem_cons_of_mem _ ha)⟩
  | .ext φ, v, A, h, k => by
    unfold RepN at h ⊢
    obtain ⟨p, e1, e2, e3⟩ := h
    exact ⟨p, e1, e2, (k p (by rw [e2]; exact List.mem_cons_self)).trans e3⟩
theorem RepNs.stay (e : Same Hf Hf') : ∀ (l : List N) (vs : List V) (A : List Addr), RepNs K Hf H l vs A → (∀ a ∈ A, H' a = H a) → RepNs K Hf' H' l vs A
  | [], vs, A, h, _ => by unfold RepNs at h ⊢; exact h
  | n :: l, vs, A, h, k => by
    unfold RepNs at h ⊢
    obtain ⟨v, ws, A1, A2, e1, e2, e3, e4⟩ := h
    exact ⟨v, ws, A1, A2, e1, e2, RepN.stay e n v A1 e3 fun a ha => k a (by rw [e2]; exact List.mem_append_left _ ha), RepNs.stay e l ws A2 e4 fun a ha => k a (by rw [e2]; exact List.mem_append_right _ ha)⟩
end
mutual
/-- an owned tree, once its addresses are frozen, is data -/
theorem RepN.frz (e : Same Hf Hf') : ∀ (n : N) (v : V) (A : List Addr), RepN K Hf H n v A → (∀ a ∈ A, Hf' a = H a) → Rep K Hf' n.view v
  | .d x, v, A, h, _ => by
    unfold RepN at h
    rw [view_d]
    exact Rep.mono e x v h.2
  | .lst l, v, A, h, k => by
    unfold RepN at h
    rw [view_lst]
    unfold Rep
    obtain ⟨p, vs, B, e1, e2, e3, e4⟩ := h
    exact ⟨p, vs, e1, (k p (by rw [e2]; exact List.mem_cons_self)).trans e3, RepNs.frz e l vs B e4 fun a ha => k a (by rw [e2]; exact List.mem_cons_of_mem _ ha)⟩
  | .tup l, v, A, h, k => by
    unfold RepN at h
    rw [view_tup]
    unfold Rep
    obtain ⟨p, vs, B, e1, e2, e3, e4⟩ := h
    exact ⟨p, vs, e1, (k p (by rw [e2]; exact List.mem_cons_self)).trans e3, RepNs.frz e l vs B e4 fun a ha => k a (by rw [e2]; exact List.mem_cons_of_mem _ ha)⟩
  | .dic ks l, v, A, h, k => by
    unfold RepN at h
    rw [view_dic]
    unfold Rep
    obtain ⟨p, vs, B, e1, e2, e3, e4, e5⟩ := h
    exact ⟨p, vs, e1, (k p (by rw [e2]; exact List.mem_cons_self)).trans e3, e4, RepNs.frz e l _ B e5 fun a ha => k a (by rw [e2]; exact List.mem_cons_of_mem _ ha)⟩
  | .obj c fs l, v, A, h, k => by
    unfold RepN at h
    rw [view_obj]
    unfold Rep
    obtain ⟨p, dx, vs, B, e1, e2, e3, e4, e5⟩ := h
    exact ⟨p, dx, vs, e1, (k p (by rw [e2]; exact List.mem_cons_self)).trans e3, e4, RepNs.frz e l _ B e5 fun a ha => k a (by rw [e2]; exact List.mem_cons_of_mem _ ha)⟩
  | .ext φ, v, A, h, k => by
    unfold RepN at h
    rw [view_ext]
    unfold Rep
    obtain ⟨p, e1, e2, e3⟩ := h
    exact ⟨p, e1, (k p (by rw [e2]; exact List.mem_cons_self)).trans e3⟩
theorem RepNs.frz (e : Same Hf Hf') : ∀ (l : List N) (vs : List V) (A : List Addr), RepNs K Hf H l vs A → (∀ a ∈ A, Hf' a = H a) → Reps K Hf' (N.views l) vs
  | [], vs, A, h, _ => by
    unfold RepNs at h
    rw [views_nil]
    unfold Reps
    exact h.1
  | n :: l, vs, A, h, k => by
    unfold RepNs at h
    rw [views_cons]
    unfold Reps
    obtain ⟨v, ws, A1, A2, e1, e2, e3, e4⟩ := h
    exact ⟨v, ws, e1, RepN.frz e n v A1 e3 fun a ha => k a (by rw [e2]; exact List.mem_append_left _ ha), RepNs.frz e l ws A2 e4 fun a ha => k a (by rw [e2]; exact List.mem_append_right _ ha)⟩
end
mutual
/-- the own addresses are tracked -/
theorem RepN.there : ∀ (n : N) (v : V) (A : List Addr), RepN K Hf H n v A → ∀ a ∈ A, ∃ o, H a = some o
  | .d x, v, A, h, a, ha => by
    unfold RepN at h
    rw [h.1] at ha
    exact absurd ha (List.not_mem_nil)
  | .lst l, v, A, h, a, ha => by
    unfold RepN at h
    obtain ⟨p, vs, B, e1, e2, e3, e4⟩ := h
    rw [e2] at ha
    rcases List.mem_cons.mp ha with z | z
    · rw [z]; exact ⟨_, e3⟩
    · exact RepNs.there l _ B e4 a z
  | .tup l, v, A, h, a, ha => by
    unfold RepN at h
    obtain ⟨p, vs, B, e1, e2, e3, e4⟩ := h
    rw [e2] at ha
    rcases List.mem_cons.mp ha with z | z
    · rw [z]; exact ⟨_, e3⟩
    · exact RepNs.there l _ B e4 a z
  | .dic ks l, v, A, h, a, ha => by
    unfold RepN at h
    obtain ⟨p, vs, B, e1, e2, e3, e4, e5⟩ := h
    rw [e2] at ha
    rcases List.mem_cons.mp ha with z | z
    · rw [z]; exact ⟨_, e3⟩
    · exact RepNs.there l _ B e5 a z
  | .obj c fs l, v, A, h, a, ha => by
    unfold RepN at h
    obtain ⟨p, dx, vs, B, e1, e2, e3, e4, e5⟩ := h
    rw [e2] at ha
    rcases List.mem_cons.mp ha with z | z
    · rw [z]; exact ⟨_, e3⟩
    · exact RepNs.there l _ B e5 a z
  | .ext φ, v, A, h, a, ha => by
    unfold RepN at h
    obtain ⟨p, e1, e2, e3⟩ := h
    rw [e2] at ha
    rw [List.mem_singleton.mp ha]
    exact ⟨_, e3⟩
theorem RepNs.there : ∀ (l : List N) (vs : List V) (A : List Addr), RepNs K Hf H l vs A → ∀ a ∈ A, ∃ o, H a = some o
  | [], vs, A, h, a, ha => by
    unfold RepNs at h
    rw [h.2] at ha
    exact absurd ha (List.not_mem_nil)
  | n :: l, vs, A, h, a, ha => by
    unfold RepNs at h
    obtain ⟨v, ws, A1, A2, e1, e2, e3, e4⟩ := h
    rw [e2] at ha
    rcases List.mem_append.mp ha with z | z
    · exact RepN.there n v A1 e3 a z
    · exact RepNs.there l ws A2 e4 a z
end
theorem repNs_d : ∀ (l : List D) (vs : List V), Reps K Hf l vs → RepNs K Hf H (l.map N.d) vs []
  | [], vs, h => by
    unfold Reps at h
    rw [List.map_nil]
    unfold RepNs
    exact ⟨h, rfl⟩
  | d :: l, vs, h => by
    unfold Reps at h
    obtain ⟨v, ws, e1, e2, e3⟩ := h
    rw [List.map_cons]
    unfold RepNs
    refine ⟨v, ws, [], [], e1, rfl, ?_, repNs_d l ws e3⟩
    unfold RepN
    exact ⟨rfl, e2⟩
theorem reps_of_d : ∀ (l : List D) (vs : List V) (A : List Addr), RepNs K Hf H (l.map N.d) vs A → A = [] ∧ Reps K Hf l vs
  | [], vs, A, h => by
    rw [List.map_nil] at h
    unfold RepNs at h
    unfold Reps
    exact ⟨h.2, h.1⟩
  | d :: l, vs, A, h => by
    rw [List.map_cons] at h
    unfold RepNs at h
    obtain ⟨v, ws, A1, A2, e1, e2, e3, e4⟩ := h
    obtain ⟨r1, r2⟩ := reps_of_d l ws A2 e4
    unfold RepN at e3
    unfold Reps
    exact ⟨by rw [e2, e3.1, r1]; rfl, v, ws, e1, e3.2, r2⟩
theorem Reps.length : ∀ {l : List D} {vs : List V}, Reps K Hf l vs → vs.length = l.length
  | [], vs, h => by
    unfold Reps at h
    rw [h]; rfl
  | d :: l, vs, h => by
    unfold Reps at h
    obtain ⟨v, ws, e1, _, e3⟩ := h
    rw [e1, List.length_cons, List.length_cons, Reps.length e3]
theorem RepNs.length : ∀ {l : List N} {vs : List V} {A : List Addr}, RepNs K Hf H l vs A → vs.length = l.length
  | [], vs, A, h => by
    unfold RepNs at h
    rw [h.1]; rfl
  | d :: l, vs, A, h => by
    unfold RepNs at h
    obtain ⟨v, ws, A1, A2, e1, _, _, e4⟩ := h
    rw [e1, List.length_cons, List.length_cons, RepNs.length e4]
theorem Reps.get : ∀ {l : List D} {vs : List V} {i : Nat} {d : D}, Reps K Hf l vs → l[i]? = some d → ∃ v, vs[i]? = some v ∧ Rep K Hf d v
  | [], _, _, _, _, e => by simp at e
  | x :: l, vs, 0, d, h, e => by
    unfold Reps at h
    obtain ⟨v, ws, e1, e2, e3⟩ := h
    simp at e
    subst e
    exact ⟨v, by rw [e1]; rfl, e2⟩
  | x :: l, vs, i + 1, d, h, e => by
    unfold Reps at h
    obtain ⟨v, ws, e1, e2, e3⟩ := h
    obtain ⟨u, h1, h2⟩ := Reps.get (i := i) e3 (by simpa using e)
    exact ⟨u, by rw [e1]; simpa using h1, h2⟩
theorem Reps.get' : ∀ {l : List D} {vs : List V} {i : Nat} {v : V}, Reps K Hf l vs → vs[i]? = some v → ∃ d, l[i]? = some d ∧ Rep K Hf d v
  | [], vs, i, v, h, e => by
    unfold Reps at h
    rw [h] at e
    simp at e
  | x :: l, vs, 0, d, h, e => by
    unfold Reps at h
    obtain ⟨v, ws, e1, e2, e3⟩ := h
    rw [e1] at e
    simp at e
    subst e
    exact ⟨x, rfl, e2⟩
  | x :: l, vs, i + 1, d, h, e => by
    unfold Reps at h
    obtain ⟨v, ws, e1, e2, e3⟩ := h
    rw [e1] at e
    obtain ⟨u, h1, h2⟩ := Reps.get' (i := i) e3 (by simpa using e)
    exact ⟨u, by simpa using h1, h2⟩
theorem Reps.append : ∀ {l m : List D} {vs ws : List V}, Reps K Hf l vs → Reps K Hf m ws → Reps K Hf (l ++ m) (vs ++ ws)
  | [], m, vs, ws, h, h2 => by
    unfold Reps at h
    rw [h]
    exact h2
  | d :: l, m, vs, ws, h, h2 => by
    unfold Reps at h
    obtain ⟨v, us, e1, e2, e3⟩ := h
    rw [e1, List.cons_append, List.cons_append]
    unfold Reps
    exact ⟨v, us ++ ws, rfl, e2, Reps.append e3 h2⟩
theorem Reps.take : ∀ {l : List D} {vs : List V} (n : Nat), Reps K Hf l vs → Reps K Hf (l.take n) (vs.take n)
  | _, _, 0, _ => by rw [List.take_zero, List.take_zero]; unfold Reps; rfl
  | [], vs, n + 1, h => by
    unfold Reps at h
    rw [h]
    simp
    unfold Reps
    rfl
  | d :: l, vs, n + 1, h => by
    unfold Reps at h
    obtain ⟨v, ws, e1, e2, e3⟩ := h
    rw [e1, List.take_succ_cons, List.take_succ_cons]
    unfold Reps
    exact ⟨v, _, rfl, e2, Reps.take n e3⟩
theorem Reps.drop : ∀ {l : List D} {vs : List V} (n : Nat), Reps K Hf l vs → Reps K Hf (l.drop n) (vs.drop n)
  | _, _, 0, h => by rw [List.drop_zero, List.drop_zero]; exact h
  | [], vs, n + 1, h => by
    unfold Reps at h
    rw [h]
    simp
    unfold Reps
    rfl
  | d :: l, vs, n + 1, h => by
    unfold Reps at h
    obtain ⟨v, ws, e1, e2, e3⟩ := h
    rw [e1, List.drop_succ_cons, List.drop_succ_cons]
    exact Reps.drop n e3
theorem reps_of : ∀ {l : List D} {vs : List V}, vs.length = l.length → (∀ (i : Nat) (d : D) (v : V), l[i]? = some d → vs[i]? = some v → Rep K Hf d v) → Reps K Hf l vs
  | [], vs, hl, _ => by
    unfold Reps
    exact List.length_eq_zero_iff.mp hl
  | d :: l, [], hl, _ => by simp at hl
  | d :: l, v :: vs, hl, h => by
    unfold Reps
    exact ⟨v, vs, rfl, h 0 d v rfl rfl, reps_of (by simpa using hl) fun i x u h1 h2 => h (i + 1) x u (by simpa using h1) (by simpa using h2)⟩
end

/-! ### the state: frame Fr, frozen Hf, heap H, what is held (values with their trees) -/
def RepPs (K : PySem.W.Frag) (Hf H : Hp) : List (V × N) → List Addr → Prop
  | [], A => A = []
  | p :: ps, A => ∃ A1 A2, A = A1 ++ A2 ∧ RepN K Hf H p.2 p.1 A1 ∧ RepPs K Hf H ps A2
structure St (K : PySem.W.Frag) (Fr Hf H : Hp) (ps : List (V × N)) : Prop where
  ex : Same Hf H
  fr : Same Fr H
  dj : ∀ a o, Fr a = some o → Hf a = none
  own : ∃ A, RepPs K Hf H ps A ∧ A.Nodup ∧ ∀ a ∈ A, Hf a = none ∧ Fr a = none

section
variable {K : PySem.W.Frag} {Fr Hf Hf' H H' : Hp} {ps qs : List (V × N)}
theorem RepPs.append : ∀ {ps qs : List (V × N)} {A B : List Addr}, RepPs K Hf H ps A → RepPs K Hf H qs B → RepPs K Hf H (ps ++ qs) (A ++ B)
  | [], qs, A, B, h, h2 => by
    unfold RepPs at h
    rw [h]
    exact h2
  | p :: ps, qs, A, B, h, h2 => by
    unfold RepPs at h
    obtain ⟨A1, A2, e, r, t⟩ := h
    rw [List.cons_append]
    unfold RepPs
    exact ⟨A1, A2 ++ B, by rw [e, List.append_assoc], r, t.append h2⟩
theorem RepPs.split : ∀ {ps qs : List (V × N)} {A : List Addr}, RepPs K Hf H (ps ++ qs) A → ∃ A1 A2, A = A1 ++ A2 ∧ RepPs K Hf H ps A1 ∧ RepPs K Hf H qs A2
  | [], qs, A, h => ⟨[], A, rfl, by unfold RepPs; rfl, h⟩
  | p :: ps, qs, A, h => by
    rw [List.cons_append] at h
    unfold RepPs at h
    obtain ⟨A1, A2, e, r, t⟩ := h
    obtain ⟨B1, B2, e2, r1, r2⟩ := RepPs.split (ps := ps) t
    refine ⟨A1 ++ B1, B2, by rw [e, e2, List.append_assoc], ?_, r2⟩
    unfold RepPs
    exact ⟨A1, B1, rfl, r, r1⟩
theorem RepPs.perm {ps qs : List (V × N)} (h : ps.Perm qs) : ∀ {A : List Addr}, RepPs K Hf H ps A → ∃ B, A.Perm B ∧ RepPs K Hf H qs B := by
  induction h with
  | nil => intro A h; exact ⟨A, .refl _, h⟩
  | cons x _ ih =>
    intro A h
    unfold RepPs at h
    obtain ⟨A1, A2, e, r, t⟩ := h
    obtain ⟨B, p, q⟩ := ih t
    refine ⟨A1 ++ B, by rw [e]; exact List.Perm.append_left A1 p, ?_⟩
    unfold RepPs
    exact ⟨A1, B, rfl, r, q⟩
  | swap x y l =>
    intro A h
    unfold RepPs at h
    obtain ⟨A1, A2, e, r, t⟩ := h
    unfold RepPs at t
    obtain ⟨A3, A4, e2, r2, t2⟩ := t
    refine ⟨A3 ++ (A1 ++ A4), ?_, ?_⟩
    · rw [e, e2, ← List.append_assoc, ← List.append_assoc]
      exact List.Perm.append_right A4 List.perm_append_comm
    · unfold RepPs
      refine ⟨A3, A1 ++ A4, rfl, r2, ?_⟩
      unfold RepPs
      exact ⟨A1, A4, rfl, r, t2⟩
  | trans _ _ ih1 ih2 =>
    intro A h
    obtain ⟨B, p, q⟩ := ih1 h
    obtain ⟨C, p2, q2⟩ := ih2 q
    exact ⟨C, p.trans p2, q2⟩
theorem RepPs.stay (e : Same Hf Hf') : ∀ {ps : List (V × N)} {A : List Addr}, RepPs K Hf H ps A → (∀ a ∈ A, H' a = H a) → RepPs K Hf' H' ps A
  | [], A, h, _ => by unfold RepPs at h ⊢; exact h
  | p :: ps, A, h, k => by
    unfold RepPs at h ⊢
    obtain ⟨A1, A2, e1, r, t⟩ := h
    exact ⟨A1, A2, e1, RepN.stay e _ _ _ r fun a ha => k a (by rw [e1]; exact List.mem_append_left _ ha), RepPs.stay e t fun a ha => k a (by rw [e1]; exact List.mem_append_right _ ha)⟩
theorem RepPs.there : ∀ {ps : List (V × N)} {A : List Addr}, RepPs K Hf H ps A → ∀ a ∈ A, ∃ o, H a = some o
  | [], A, h, a, ha => by
    unfold RepPs at h
    rw [h] at ha
    exact absurd ha List.not_mem_nil
  | p :: ps, A, h, a, ha => by
    unfold RepPs at h
    obtain ⟨A1, A2, e1, r, t⟩ := h
    rw [e1] at ha
    rcases List.mem_append.mp ha with z | z
    · exact RepN.there _ _ _ r a z
    · exact RepPs.there t a z
theorem St.perm (s : St K Fr Hf H ps) (p : ps.Perm qs) : St K Fr Hf H qs := by
  obtain ⟨A, r, n, d⟩ := s.own
  obtain ⟨B, p2, r2⟩ := r.perm p
  exact ⟨s.ex, s.fr, s.dj, B, r2, (p2.nodup_iff).mp n, fun a ha => d a ((p2.mem_iff).mpr ha)⟩
theorem St.left (s : St K Fr Hf H (ps ++ qs)) : St K Fr Hf H ps := by
  obtain ⟨A, r, n, d⟩ := s.own
  obtain ⟨A1, A2, e, r1, r2⟩ := r.split
  exact ⟨s.ex, s.fr, s.dj, A1, r1, by rw [e] at n; exact (List.nodup_append.mp n).1, fun a ha => d a (by rw [e]; exact List.mem_append_left _ ha)⟩
theorem St.right (s : St K Fr Hf H (ps ++ qs)) : St K Fr Hf H qs := by
  obtain ⟨A, r, n, d⟩ := s.own
  obtain ⟨A1, A2, e, r1, r2⟩ := r.split
  exact ⟨s.ex, s.fr, s.dj, A2, r2, by rw [e] at n; exact (List.nodup_append.mp n).2.1, fun a ha => d a (by rw [e]; exact List.mem_append_right _ ha)⟩
theorem St.tail {p : V × N} (s : St K Fr Hf H (p :: ps)) : St K Fr Hf H ps := St.right (ps := [p]) s
/-- the focus on a part: the rest goes into the frame -/
theorem St.focus (s : St K Fr Hf H (ps ++ qs)) : ∃ Fr', St K Fr' Hf H ps ∧ ∀ Hf' H' ps', Same Hf Hf' → St K Fr' Hf' H' ps' → St K Fr Hf' H' (ps' ++ qs) := by
  obtain ⟨A, r, n, d⟩ := s.own
  obtain ⟨A1, A2, e, r1, r2⟩ := r.split
  rw [e] at n d
  obtain ⟨n1, n2, n3⟩ := List.nodup_append.mp n
  have keyF : ∀ a o, Fr a = some o → (if a ∈ A2 then H a else Fr a) = some o := fun a o h => by
    by_cases ha : a ∈ A2
    · rw [if_pos ha]
      exact s.fr a o h
    · rw [if_neg ha]
      exact h
  refine ⟨fun a => if a ∈ A2 then H a else Fr a, ⟨s.ex, fun a o h => ?_, fun a o h => ?_, A1, r1, n1, fun a ha => ⟨(d a (List.mem_append_left _ ha)).1, ?_⟩⟩, fun Hf' H' ps' e' s' => ?_⟩
  · by_cases ha : a ∈ A2
    · have h' : (if a ∈ A2 then H a else Fr a) = some o := h
      rw [if_pos ha] at h'
      exact h'
    · have h' : (if a ∈ A2 then H a else Fr a) = some o := h
      rw [if_neg ha] at h'
      exact s.fr a o h'
  · by_cases ha : a ∈ A2
    · exact (d a (List.mem_append_right _ ha)).1
    · have h' : (if a ∈ A2 then H a else Fr a) = some o := h
      rw [if_neg ha] at h'
      exact s.dj a o h'
  · show (if a ∈ A2 then H a else Fr a) = none
    rw [if_neg fun h2 => n3 a ha a h2 rfl]
    exact (d a (List.mem_append_left _ ha)).2
  · obtain ⟨A', r', n', d'⟩ := s'.own
    have k : ∀ a ∈ A2, H' a = H a := fun a ha => by
      obtain ⟨o, ho⟩ := r2.there a ha
      rw [ho]
      exact s'.fr a o (by show (if a ∈ A2 then H a else Fr a) = some o; rw [if_pos ha]; exact ho)
    refine ⟨s'.ex, fun a o h => s'.fr a o (keyF a o h), fun a o h => s'.dj a o (keyF a o h), A' ++ A2, RepPs.append r' (r2.stay e' k), List.nodup_append.mpr ⟨n', n2, fun a ha b hb z => ?_⟩, fun a ha => ?_⟩
    · subst z
      have q := (d' a ha).2
      obtain ⟨o, ho⟩ := r2.there a hb
      have q' : (if a ∈ A2 then H a else Fr a) = none := q
      rw [if_pos hb, ho] at q'
      cases q'
    · rcases List.mem_append.mp ha with z | z
      · refine ⟨(d' a z).1, ?_⟩
        cases q : Fr a with
        | none => rfl
        | some o =>
          have q2 := (d' a z).2
          have q3 : (if a ∈ A2 then H a else Fr a) = none := q2
          have q4 := keyF a o q
          rw [q3] at q4
          cases q4
      · refine ⟨?_, (d a (List.mem_append_right _ z)).2⟩
        obtain ⟨o, ho⟩ := r2.there a z
        exact s'.dj a o (by show (if a ∈ A2 then H a else Fr a) = some o; rw [if_pos z]; exact ho)
theorem St.frame0 {Hf H : Hp} (e : Same Hf H) : St K (fun _ => none) Hf H [] :=
  ⟨e, fun a o h => (by cases h), fun a o h => (by cases h), [], (by unfold RepPs; rfl), List.nodup_nil, fun a ha => absurd ha List.not_mem_nil⟩
theorem St.mem {v : V} {n : N} (s : St K Fr Hf H ps) (h : (v, n) ∈ ps) : ∃ A, RepN K Hf H n v A ∧ A.Nodup ∧ ∀ a ∈ A, Hf a = none ∧ Fr a = none := by
  obtain ⟨l1, l2, rfl⟩ := List.append_of_mem h
  have s2 := s.right
  obtain ⟨A, r, n, d⟩ := s2.own
  unfold RepPs at r
  obtain ⟨A1, A2, e, r1, r2⟩ := r
  rw [e] at n d
  exact ⟨A1, r1, (List.nodup_append.mp n).1, fun a ha => d a (List.mem_append_left _ ha)⟩
/-- data that is held -/
theorem St.memD {v : V} {x : D} (s : St K Fr Hf H ps) (h : (v, N.d x) ∈ ps) : Rep K Hf x v := by
  obtain ⟨A, r, _⟩ := s.mem h
  unfold RepN at r
  exact r.2
/-- something more that is only data -/
theorem St.addD {v : V} {x : D} (s : St K Fr Hf H ps) (h : Rep K Hf x v) : St K Fr Hf H ((v, N.d x) :: ps) := by
  obtain ⟨A, r, n, d⟩ := s.own
  refine ⟨s.ex, s.fr, s.dj, A, ?_, n, d⟩
  unfold RepPs
  refine ⟨[], A, rfl, ?_, r⟩
  unfold RepN
  exact ⟨rfl, h⟩
theorem St.free (s : St K Fr Hf H ps) {p : Addr} (h : H p = none) : Hf p = none ∧ Fr p = none := ⟨s.ex.free h, s.fr.free h⟩
/-- the heap grows by what nobody holds -/
theorem St.grow {p : Addr} {o : HO} (s : St K Fr Hf H ps) (h : H p = none) : St K Fr Hf (upd H p o) ps := by
  obtain ⟨A, r, n, d⟩ := s.own
  have k : ∀ b u, H b = some u → upd H p o b = some u := fun b u e => by rw [upd_ne (ne_of_none e h)]; exact e
  refine ⟨fun b u e => k b u (s.ex b u e), fun b u e => k b u (s.fr b u e), s.dj, A, r.stay (Same.refl _) fun a ha => ?_, n, d⟩
  obtain ⟨u, hu⟩ := r.there a ha
  rw [k a u hu, hu]
/-- the heap has grown -/
theorem St.more (s : St K Fr Hf H ps) (e : Same H H') : St K Fr Hf H' ps := by
  obtain ⟨A, r, n, d⟩ := s.own
  refine ⟨fun b u q => e b u (s.ex b u q), fun b u q => e b u (s.fr b u q), s.dj, A, r.stay (Same.refl _) fun a ha => ?_, n, d⟩
  obtain ⟨u, hu⟩ := r.there a ha
  rw [e a u hu, hu]
/-- a new object of which the children are given (they are data, or held and used up) -/
theorem St.alloc {p : Addr} {o : HO} {n : N} {B : List Addr} (s : St K Fr Hf H ps) (hp : H p = none)
    (hr : ∃ A, RepPs K Hf H ps A ∧ (B ++ A).Nodup ∧ ∀ a ∈ B ++ A, Hf a = none ∧ Fr a = none) (hB : ∀ a ∈ B, ∃ u, H a = some u)
    (hn : RepN K Hf (upd H p o) n (.ref p) (p :: B)) : St K Fr Hf (upd H p o) ((.ref p, n) :: ps) := by
  obtain ⟨A, r, nd, d⟩ := hr
  have g := s.grow (o := o) hp
  have k : ∀ b u, H b = some u → upd H p o b = some u := fun b u e => by rw [upd_ne (ne_of_none e hp)]; exact e
  refine ⟨g.ex, g.fr, g.dj, (p :: B) ++ A, ?_, ?_, fun a ha => ?_⟩
  · unfold RepPs
    refine ⟨p :: B, A, rfl, hn, r.stay (Same.refl _) fun a ha => ?_⟩
    obtain ⟨u, hu⟩ := r.there a ha
    rw [k a u hu, hu]
  · rw [List.cons_append, List.nodup_cons]
    refine ⟨fun h => ?_, nd⟩
    rcases List.mem_append.mp h with z | z
    · obtain ⟨u, hu⟩ := hB p z
      rw [hp] at hu; cases hu
    · obtain ⟨u, hu⟩ := r.there p z
      rw [hp] at hu; cases hu
  · rw [List.cons_append] at ha
    rcases List.mem_cons.mp ha with z | z
    · rw [z]; exact s.free hp
    · exact d a z
/-- a new list of data, a new tuple of data -/
theorem St.newL {p : Addr} {l : List D} {vs : List V} (s : St K Fr Hf H ps) (hp : H p = none) (hr : Reps K Hf l vs) : St K Fr Hf (upd H p (.lst vs)) ((.ref p, .lst (l.map N.d)) :: ps) := by
  obtain ⟨A, r, n, d⟩ := s.own
  refine s.alloc (B := []) hp ⟨A, r, n, d⟩ (fun a ha => absurd ha List.not_mem_nil) ?_
  unfold RepN
  exact ⟨p, vs, [], rfl, rfl, upd_same, repNs_d l vs hr⟩
theorem St.newT {p : Addr} {l : List D} {vs : List V} (s : St K Fr Hf H ps) (hp : H p = none) (hr : Reps K Hf l vs) : St K Fr Hf (upd H p (.tup vs)) ((.ref p, .tup (l.map N.d)) :: ps) := by
  obtain ⟨A, r, n, d⟩ := s.own
  refine s.alloc (B := []) hp ⟨A, r, n, d⟩ (fun a ha => absurd ha List.not_mem_nil) ?_
  unfold RepN
  exact ⟨p, vs, [], rfl, rfl, upd_same, repNs_d l vs hr⟩
/-- freezing the first that is held -/
theorem St.frz {v : V} {n : N} (s : St K Fr Hf H ((v, n) :: ps)) : ∃ Hf', Same Hf Hf' ∧ St K Fr Hf' H ((v, .d n.view) :: ps) := by
  obtain ⟨A, r, nd, d⟩ := s.own
  unfold RepPs at r
  obtain ⟨A1, A2, e, r1, r2⟩ := r
  rw [e] at nd d
  obtain ⟨n1, n2, n3⟩ := List.nodup_append.mp nd
  have nA : ∀ a ∈ A1, Hf a = none := fun a ha => (d a (List.mem_append_left _ ha)).1
  have sm : Same Hf (fun a => if a ∈ A1 then H a else Hf a) := fun a o h => by
    show (if a ∈ A1 then H a else Hf a) = some o
    rw [if_neg fun ha => (by rw [nA a ha] at h; cases h)]
    exact h
  refine ⟨fun a => if a ∈ A1 then H a else Hf a, sm, ⟨fun a o h => ?_, s.fr, fun a o h => ?_, A2, ?_, n2, fun a ha => ⟨?_, (d a (List.mem_append_right _ ha)).2⟩⟩⟩
  · by_cases ha : a ∈ A1
    · have h' : (if a ∈ A1 then H a else Hf a) = some o := h
      rw [if_pos ha] at h'
      exact h'
    · have h' : (if a ∈ A1 then H a else Hf a) = some o := h
      rw [if_neg ha] at h'
      exact s.ex a o h'
  · show (if a ∈ A1 then H a else Hf a) = none
    rw [if_neg fun ha => (by rw [(d a (List.mem_append_left _ ha)).2] at h; cases h)]
    exact s.dj a o h
  · unfold RepPs
    refine ⟨[], A2, rfl, ?_, r2.stay sm fun a _ => rfl⟩
    unfold RepN
    exact ⟨rfl, RepN.frz sm n v A1 r1 fun a ha => if_pos ha⟩
  · show (if a ∈ A1 then H a else Hf a) = none
    rw [if_neg fun h2 => n3 a h2 a ha rfl]
    exact (d a (List.mem_append_right _ ha)).1
/-- the first one's object is written: its root at p, its children dealt anew -/
theorem St.write {v : V} {n n' : N} {p : Addr} {o : HO} (s : St K Fr Hf H ((v, n) :: ps)) (A1 A1' : List Addr) (r1 : RepN K Hf H n v A1) (hp : p ∈ A1)
    (hn : ∀ (q : ∀ a ∈ A1', a ∈ A1), RepN K Hf (upd H p o) n' v A1') (sub : ∀ a ∈ A1', a ∈ A1) (nd' : A1'.Nodup)
    (uq : ∀ A, RepN K Hf H n v A → A = A1) : St K Fr Hf (upd H p o) ((v, n') :: ps) := by
  obtain ⟨A, r, nd, d⟩ := s.own
  unfold RepPs at r
  obtain ⟨B1, A2, e, rB, r2⟩ := r
  obtain rfl := uq B1 rB
  rw [e] at nd d
  obtain ⟨n1, n2, n3⟩ := List.nodup_append.mp nd
  have dp := d p (List.mem_append_left _ hp)
  have kF : ∀ {G : Hp} {b : Addr} {u : HO}, G p = none → G b = some u → b ≠ p := fun {G b u} g h z => by rw [z, g] at h; cases h
  refine ⟨fun b u h => ?_, fun b u h => ?_, s.dj, A1' ++ A2, ?_, List.nodup_append.mpr ⟨nd', n2, fun a ha b hb z => n3 a (sub a ha) b hb z⟩, fun a ha => ?_⟩
  · rw [upd_ne (kF dp.1 h)]; exact s.ex b u h
  · rw [upd_ne (kF dp.2 h)]; exact s.fr b u h
  · unfold RepPs
    refine ⟨A1', A2, rfl, hn sub, r2.stay (Same.refl _) fun a ha => upd_ne fun z => n3 p hp a ha z.symm⟩
  · rcases List.mem_append.mp ha with z | z
    · exact d a (List.mem_append_left _ (sub a z))
    · exact d a (List.mem_append_right _ z)
end
section
variable {K : PySem.W.Frag} {Hf H : Hp}
mutual
/-- the own addresses of a tree are determined -/
theorem RepN.uniq : ∀ (n : N) (v : V) (A B : List Addr), RepN K Hf H n v A → RepN K Hf H n v B → A = B
  | .d x, v, A, B, h, h2 => by
    unfold RepN at h h2
    rw [h.1, h2.1]
  | .lst l, v, A, B, h, h2 => by
    unfold RepN at h h2
    obtain ⟨p, vs, B1, e1, e2, e3, e4⟩ := h
    obtain ⟨q, ws, B2, f1, f2, f3, f4⟩ := h2
    rw [e1] at f1; cases f1
    rw [e3] at f3; cases f3
    rw [e2, f2, RepNs.uniq l vs B1 B2 e4 f4]
  | .tup l, v, A, B, h, h2 => by
    unfold RepN at h h2
    obtain ⟨p, vs, B1, e1, e2, e3, e4⟩ := h
    obtain ⟨q, ws, B2, f1, f2, f3, f4⟩ := h2
    rw [e1] at f1; cases f1
    rw [e3] at f3; cases f3
    rw [e2, f2, RepNs.uniq l vs B1 B2 e4 f4]
  | .dic ks l, v, A, B, h, h2 => by
    unfold RepN at h h2
    obtain ⟨p, vs, B1, e1, e2, e3, _, e4⟩ := h
    obtain ⟨q, ws, B2, f1, f2, f3, _, f4⟩ := h2
    rw [e1] at f1; cases f1
    rw [e3] at f3; cases f3
    rw [e2, f2, RepNs.uniq l _ B1 B2 e4 f4]
  | .obj c fs l, v, A, B, h, h2 => by
    unfold RepN at h h2
    obtain ⟨p, dx, vs, B1, e1, e2, e3, _, e4⟩ := h
    obtain ⟨q, dy, ws, B2, f1, f2, f3, _, f4⟩ := h2
    rw [e1] at f1; cases f1
    rw [e3] at f3; cases f3
    rw [e2, f2, RepNs.uniq l _ B1 B2 e4 f4]
  | .ext φ, v, A, B, h, h2 => by
    unfold RepN at h h2
    obtain ⟨p, e1, e2, e3⟩ := h
    obtain ⟨q, f1, f2, f3⟩ := h2
    rw [e1] at f1; cases f1
    rw [e2, f2]
theorem RepNs.uniq : ∀ (l : List N) (vs : List V) (A B : List Addr), RepNs K Hf H l vs A → RepNs K Hf H l vs B → A = B
  | [], vs, A, B, h, h2 => by
    unfold RepNs at h h2
    rw [h.2, h2.2]
  | n :: l, vs, A, B, h, h2 => by
    unfold RepNs at h h2
    obtain ⟨v, ws, A1, A2, e1, e2, e3, e4⟩ := h
    obtain ⟨u, us, B1, B2, f1, f2, f3, f4⟩ := h2
    rw [e1] at f1; cases f1
    rw [e2, f2, RepN.uniq n v A1 B1 e3 f3, RepNs.uniq l ws A2 B2 e4 f4]
end
end
/-! ### the frame's names: values (σ) beside trees (env) -/
abbrev Env := List (Option N)
def slots : L2.St → Env → List (V × N)
  | some v :: σ, some n :: e => (v, n) :: slots σ e
  | _ :: σ, _ :: e => slots σ e
  | _, _ => []
structure Cov (σ : L2.St) (env : Env) : Prop where
  len : σ.length = env.length
  has : ∀ (i : Nat) (n : N), env[i]? = some (some n) → ∃ v, σ[i]? = some (some v)
theorem slots_none : ∀ (σ : L2.St) (env : Env) (i : Nat) (x : Option V), slots (σ.set i x) (env.set i none) = slots σ (env.set i none)
  | [], env, i, x => by simp
  | y :: σ, [], i, x => by
    rw [List.set_nil]
    cases i <;> (cases y <;> cases x <;> rfl)
  | y :: σ, z :: env, 0, x => by
    rw [List.set_cons_zero, List.set_cons_zero]
    cases x <;> cases y <;> rfl
  | y :: σ, z :: env, i + 1, x => by
    rw [List.set_cons_succ, List.set_cons_succ]
    have ih := slots_none σ env i x
    cases y <;> cases z <;> (first | exact ih | (show _ :: slots _ _ = _ :: slots _ _; rw [ih]))
theorem slots_put : ∀ {σ : L2.St} {env : Env} {i : Nat} {v : V} {n : N}, i < env.length → σ[i]? = some (some v) → (slots σ (env.set i (some n))).Perm ((v, n) :: slots σ (env.set i none))
  | [], env, i, v, n, _, h => by simp at h
  | y :: σ, [], i, v, n, h, _ => by simp at h
  | y :: σ, z :: env, 0, v, n, _, h => by
    simp at h
    subst h
    exact .refl _
  | y :: σ, z :: env, i + 1, v, n, hi, h => by
    rw [List.set_cons_succ, List.set_cons_succ]
    have ih := slots_put (σ := σ) (env := env) (i := i) (v := v) (n := n) (by simpa using hi) (by simpa using h)
    cases y with
    | none => exact ih
    | some y =>
      cases z with
      | none => exact ih
      | some z => exact (List.Perm.cons _ ih).trans (List.Perm.swap _ _ _)
theorem set_self {α : Type} : ∀ {l : List α} {i : Nat} {x : α}, l[i]? = some x → l.set i x = l
  | [], i, x, h => by simp at h
  | y :: l, 0, x, h => by simp at h; rw [h]; rfl
  | y :: l, i + 1, x, h => by rw [List.set_cons_succ, set_self (by simpa using h)]
theorem lt_of_get {α : Type} {l : List α} {i : Nat} {x : α} (h : l[i]? = some x) : i < l.length := (List.getElem?_eq_some_iff.mp h).1
theorem slots_take {σ : L2.St} {env : Env} {i : Nat} {v : V} {n : N} (h1 : σ[i]? = some (some v)) (h2 : env[i]? = some (some n)) : (slots σ env).Perm ((v, n) :: slots σ (env.set i none)) := by
  have h := slots_put (σ := σ) (env := env) (i := i) (v := v) (n := n) (lt_of_get h2) h1
  rw [set_self h2] at h
  exact h
theorem slots_mem {σ : L2.St} {env : Env} {i : Nat} {v : V} {n : N} (h1 : σ[i]? = some (some v)) (h2 : env[i]? = some (some n)) : (v, n) ∈ slots σ env :=
  (slots_take h1 h2).mem_iff.mpr List.mem_cons_self
theorem Cov.set {σ : L2.St} {env : Env} (c : Cov σ env) (i : Nat) (v : V) (n : Option N) : Cov (σ.set i (some v)) (env.set i n) := by
  refine ⟨by rw [List.length_set, List.length_set]; exact c.len, fun j m h => ?_⟩
  by_cases e : i = j
  · subst e
    have hi : i < env.length := by
      have := lt_of_get h
      rw [List.length_set] at this
      exact this
    exact ⟨v, by rw [List.getElem?_set_self (by rw [c.len]; exact hi)]⟩
  · rw [List.getElem?_set_ne e] at h
    rw [List.getElem?_set_ne e]
    exact c.has j m h
theorem Cov.drop {σ : L2.St} {env : Env} (c : Cov σ env) (i : Nat) : Cov σ (env.set i none) := by
  refine ⟨by rw [List.length_set]; exact c.len, fun j m h => ?_⟩
  by_cases e : i = j
  · subst e
    have hi : i < env.length := by
      have := lt_of_get h
      rw [List.length_set] at this
      exact this
    rw [List.getElem?_set_self hi] at h
    cases h
  · rw [List.getElem?_set_ne e] at h
    exact c.has j m h
/-- a slot's tree is changed, its value stays -/
theorem Cov.tree {σ : L2.St} {env : Env} (c : Cov σ env) {i : Nat} {n : N} (m : N) (h : env[i]? = some (some n)) : Cov σ (env.set i (some m)) := by
  refine ⟨by rw [List.length_set]; exact c.len, fun j q hq => ?_⟩
  by_cases e : i = j
  · subst e
    exact c.has i n h
  · rw [List.getElem?_set_ne e] at hq
    exact c.has j q hq

/-! ### exceptions -/
/-- a field of an exception: what stands in a slot, itself; or data -/
inductive XV where
  | sl (i : Nat)
  | d (x : D)
structure Exn where
  c : Str
  fs : List Str
  xs : List XV
def XRep (K : PySem.W.Frag) (Hf : Hp) (σ : L2.St) : XV → V → Prop
  | .sl i, v => σ[i]? = some (some v)
  | .d x, v => Rep K Hf x v
def ExnRep (K : PySem.W.Frag) (Hf H : Hp) (σ : L2.St) (e : Exn) (cls : Value) (d : Option Addr) : Prop :=
  cls = .ref (He.ga K e.c) ∧ ∃ a fv, d = some a ∧ H a = some (.xd fv) ∧ fv.map (·.1) = e.fs ∧ Paired (XRep K Hf σ) e.xs (fv.map (·.2))

/-! ### what a piece of the text does, over trees -/
abbrev XP := Exn → Env → Prop
abbrev WE := Env → (N → Env → Prop) → XP → Prop
inductive Val where
  | s (i : Nat)
  | t (n : N)
def Val.get (e : Env) : Val → Option N
  | .s i => (e[i]?).join
  | .t n => some n
abbrev WO := Env → (Val → Env → Prop) → XP → Prop
def onS {α : Type} (o : Option α) (k : α → Prop) : Prop := match o with
  | some a => k a
  | none => False
@[simp] theorem onS_some {α : Type} {a : α} {k : α → Prop} : onS (some a) k = k a := rfl
@[simp] theorem onS_none {α : Type} {k : α → Prop} : onS (none : Option α) k = False := rfl
theorem onS_elim {α : Type} {o : Option α} {k : α → Prop} (h : onS o k) : ∃ a, o = some a ∧ k a := by
  cases o with
  | none => exact h.elim
  | some a => exact ⟨a, rfl, h⟩

section
variable (K : PySem.W.Frag) (W : WX)
/-- what is wished of an exception, from what is wished over trees -/
def RunX (Fr Hf : Hp) (σ : L2.St) (temps : List (V × N)) (x : XP) : Prop :=
  ∀ e env' Hf' H' cls d, x e env' → Same Hf Hf' → Cov σ env' → St K Fr Hf' H' (temps ++ slots σ env') → ExnRep K Hf' H' σ e cls d → W cls d σ H'
def Runs (w : WE) (te : TE) : Prop := ∀ (σ : L2.St) (H Fr Hf : Hp) (env : Env) (temps : List (V × N)) (k : N → Env → Prop) (x : XP) (Q : VK),
  St K Fr Hf H (temps ++ slots σ env) → Cov σ env → w env k x →
  (∀ n env' v Hf' H', k n env' → Same Hf Hf' → Cov σ env' → St K Fr Hf' H' ((v, n) :: (temps ++ slots σ env')) → Q v H') → RunX K W Fr Hf σ temps x → te σ H Q
def ValIs (Fr Hf H : Hp) (σ : L2.St) (env : Env) (temps : List (V × N)) (v : V) : Val → Prop
  | .s i => σ[i]? = some (some v) ∧ St K Fr Hf H (temps ++ slots σ env)
  | .t n => St K Fr Hf H ((v, n) :: (temps ++ slots σ env))
def RunsO (o : WO) (te : TE) : Prop := ∀ (σ : L2.St) (H Fr Hf : Hp) (env : Env) (temps : List (V × N)) (k : Val → Env → Prop) (x : XP) (Q : VK),
  St K Fr Hf H (temps ++ slots σ env) → Cov σ env → o env k x →
  (∀ val env' v Hf' H', k val env' → Same Hf Hf' → Cov σ env' → ValIs K Fr Hf' H' σ env' temps v val → Q v H') → RunX K W Fr Hf σ temps x → te σ H Q
end
theorem RunX.mono {K : PySem.W.Frag} {W : WX} {Fr Hf Hf' : Hp} {σ : L2.St} {temps : List (V × N)} {x : XP} (h : RunX K W Fr Hf σ temps x) (e : Same Hf Hf') : RunX K W Fr Hf' σ temps x :=
  fun e1 env' Hf2 H2 cls d hx e2 c s r => h e1 env' Hf2 H2 cls d hx (e.trans e2) c s r
theorem RunX.more {K : PySem.W.Frag} {W : WX} {Fr Hf : Hp} {σ : L2.St} {temps : List (V × N)} {x : XP} (t : List (V × N)) (h : RunX K W Fr Hf σ temps x) : RunX K W Fr Hf σ (t ++ temps) x :=
  fun e1 env' Hf2 H2 cls d hx e2 c s r => h e1 env' Hf2 H2 cls d hx e2 c (by rw [List.append_assoc] at s; exact s.right) r
def PD (X : Cx) (W : WX) (e : Expr) (w : WE) : Prop := ∃ te, PE X e te ∧ Runs X.K W w te
def PDO (X : Cx) (W : WX) (e : Expr) (o : WO) : Prop := ∃ te, PE X e te ∧ RunsO X.K W o te

/-! ### names -/
/-- the value of a name; what is owned is frozen -/
def wVar (i : Nat) : WE := fun env k _ => onS (env[i]?).join fun n => k (.d n.view) (env.set i (some (.d n.view)))
/-- the value of a name, which is given up -/
def wMv (i : Nat) : WE := fun env k _ => onS (env[i]?).join fun n => k n (env.set i none)
def oS (i : Nat) : WO := fun env k _ => onS (env[i]?).join fun _ => k (.s i) env
def oE (w : WE) : WO := fun env k x => w env (fun n e => k (.t n) e) x
theorem join_some {α : Type} {o : Option (Option α)} {a : α} (h : o.join = some a) : o = some (some a) := by
  cases o with
  | none => cases h
  | some b => exact congrArg some h
section
variable {K : PySem.W.Frag} {W : WX} {X : Cx}
theorem runs_oS (i : Nat) : RunsO K W (oS i) (tVar i) := by
  intro σ H Fr Hf env temps k x Q s c h q _
  obtain ⟨n, e, h⟩ := onS_elim h
  obtain ⟨v, hv⟩ := c.has i n (join_some e)
  exact ⟨v, hv, q _ _ v Hf H h (Same.refl _) c ⟨hv, s⟩⟩
theorem runs_oE {w : WE} {te : TE} (h : Runs K W w te) : RunsO K W (oE w) te := by
  intro σ H Fr Hf env temps k x Q s c hw q hx
  exact h σ H Fr Hf env temps _ x Q s c hw (fun n env' v Hf' H' hk e c' s' => q (.t n) env' v Hf' H' hk e c' s') hx
theorem St.swapT {Fr Hf H : Hp} {p : V × N} {ps qs : List (V × N)} (s : St K Fr Hf H (ps ++ p :: qs)) : St K Fr Hf H (p :: (ps ++ qs)) := s.perm List.perm_middle
theorem St.swapB {Fr Hf H : Hp} {p : V × N} {ps qs : List (V × N)} (s : St K Fr Hf H (p :: (ps ++ qs))) : St K Fr Hf H (ps ++ p :: qs) := s.perm List.perm_middle.symm
theorem St.dropM {Fr Hf H : Hp} {p : V × N} {ts qs : List (V × N)} (s : St K Fr Hf H (p :: (ts ++ qs))) : St K Fr Hf H (p :: qs) := s.swapB.right
theorem runs_wVar (i : Nat) : Runs K W (wVar i) (tVar i) := by
  intro σ H Fr Hf env temps k x Q s c h q _
  obtain ⟨n, e, h⟩ := onS_elim h
  have e := join_some e
  obtain ⟨v, hv⟩ := c.has i n e
  have s1 : St K Fr Hf H ((v, n) :: (temps ++ slots σ (env.set i none))) := (s.perm (List.Perm.append_left temps (slots_take hv e))).swapT
  obtain ⟨Hf', sm, s2⟩ := s1.frz
  refine ⟨v, hv, q _ _ v Hf' H h sm (c.tree _ e) ?_⟩
  have s3 : St K Fr Hf' H (temps ++ slots σ (env.set i (some (.d n.view)))) := s2.swapB.perm (List.Perm.append_left temps (slots_put (lt_of_get e) hv).symm)
  exact s3.addD (s2.memD List.mem_cons_self)
theorem runs_wMv (i : Nat) : Runs K W (wMv i) (tVar i) := by
  intro σ H Fr Hf env temps k x Q s c h q _
  obtain ⟨n, e, h⟩ := onS_elim h
  have e := join_some e
  obtain ⟨v, hv⟩ := c.has i n e
  exact ⟨v, hv, q _ _ v Hf H h (Same.refl _) (c.drop i) (s.perm (List.Perm.append_left temps (slots_take hv e))).swapT⟩
theorem pd_var (i : Nat) {x : Str} {pos : Pos} (hN : X.N[i]? = some x := by rfl) (hv : Vis X.env.scope x := by first | exact Or.inl rfl | exact Or.inr (Or.inl rfl) | exact Or.inr (Or.inr rfl)) (hd : (x == ("__debug__" : Str)) = false := by decide)
    (hcd : (x == ("__classdict__" : Str)) = false := by decide) : PD X W (.Name x pos) (wVar i) := ⟨_, pe_var hN hv hd hcd, runs_wVar i⟩
theorem pd_mv (i : Nat) {x : Str} {pos : Pos} (hN : X.N[i]? = some x := by rfl) (hv : Vis X.env.scope x := by first | exact Or.inl rfl | exact Or.inr (Or.inl rfl) | exact Or.inr (Or.inr rfl)) (hd : (x == ("__debug__" : Str)) = false := by decide)
    (hcd : (x == ("__classdict__" : Str)) = false := by decide) : PD X W (.Name x pos) (wMv i) := ⟨_, pe_var hN hv hd hcd, runs_wMv i⟩
theorem po_s (i : Nat) {x : Str} {pos : Pos} (hN : X.N[i]? = some x := by rfl) (hv : Vis X.env.scope x := by first | exact Or.inl rfl | exact Or.inr (Or.inl rfl) | exact Or.inr (Or.inr rfl)) (hd : (x == ("__debug__" : Str)) = false := by decide)
    (hcd : (x == ("__classdict__" : Str)) = false := by decide) : PDO X W (.Name x pos) (oS i) := ⟨_, pe_var hN hv hd hcd, runs_oS i⟩
theorem po_e {e : Expr} {w : WE} (h : PD X W e w) : PDO X W e (oE w) := by
  obtain ⟨te, h1, h2⟩ := h
  exact ⟨te, h1, runs_oE h2⟩
/-! ### constants -/
def wC (x : D) : WE := fun env k _ => k (.d x) env
theorem runs_wC {x : D} {v : V} (hr : ∀ Hf, Rep K Hf x v) : Runs K W (wC x) (tC v) := by
  intro σ H Fr Hf env temps k xx Q s c h q _
  exact q _ _ v Hf H h (Same.refl _) c (s.addD (hr Hf))
theorem rep_int {Hf : Hp} {i : Int} : Rep K Hf (.int i) (.int i) := by unfold Rep; rfl
theorem rep_str {Hf : Hp} {i : Str} : Rep K Hf (.str i) (.str i) := by unfold Rep; rfl
theorem rep_bl {Hf : Hp} {i : Bool} : Rep K Hf (.bl i) (.bl i) := by unfold Rep; rfl
theorem rep_non {Hf : Hp} : Rep K Hf .non .non := by unfold Rep; rfl
theorem pd_int {i j pos} : PD X W (.Constant (.int i) j pos) (wC (.int i)) := ⟨_, pe_int, runs_wC fun _ => rep_int⟩
theorem pd_str {i j pos} : PD X W (.Constant (.str i) j pos) (wC (.str i)) := ⟨_, pe_str, runs_wC fun _ => rep_str⟩
theorem pd_bl {i j pos} : PD X W (.Constant (.bool i) j pos) (wC (.bl i)) := ⟨_, pe_bl, runs_wC fun _ => rep_bl⟩
theorem pd_non {j pos} : PD X W (.Constant .none j pos) (wC .non) := ⟨_, pe_non, runs_wC fun _ => rep_non⟩
theorem pd_gS {x z : Str} {u : Value} {pos : Pos} (hg : Gl X x) (hm : X.mg x = some u) (r : RelV (.str z) u) (hd : (x == ("__debug__" : Str)) = false := by decide) : PD X W (.Name x pos) (wC (.str z)) := ⟨_, pe_glob hg hm r hd, runs_wC fun _ => rep_str⟩
theorem pd_gI {x : Str} {z : Int} {u : Value} {pos : Pos} (hg : Gl X x) (hm : X.mg x = some u) (r : RelV (.int z) u) (hd : (x == ("__debug__" : Str)) = false := by decide) : PD X W (.Name x pos) (wC (.int z)) := ⟨_, pe_glob hg hm r hd, runs_wC fun _ => rep_int⟩
end
/-! ### operations -/
abbrev F1 := N → Option N
abbrev F2 := N → N → Option N
def wOp1 (f : F1) (o : WO) : WE := fun env k x => o env (fun a e => onS (a.get e) fun n => onS (f n) fun r => k r e) x
def wOp2 (f : F2) (o1 o2 : WO) : WE := fun env k x => o1 env (fun a e1 => o2 e1 (fun b e2 => onS (a.get e2) fun n => onS (b.get e2) fun m => onS (f n m) fun r => k r e2) x) x
section
variable (K : PySem.W.Frag)
def Snd1 (r : V → Hp → VK → Prop) (f : F1) : Prop := ∀ (Fr Hf H : Hp) (ps : List (V × N)) (v1 : V) (n1 m : N) (Q : VK), St K Fr Hf H ps → (v1, n1) ∈ ps → f n1 = some m →
  (∀ v Hf' H', Same Hf Hf' → St K Fr Hf' H' ((v, m) :: ps) → Q v H') → r v1 H Q
def Snd2 (r : R2) (f : F2) : Prop := ∀ (Fr Hf H : Hp) (ps : List (V × N)) (v1 v2 : V) (n1 n2 m : N) (Q : VK), St K Fr Hf H ps → (v1, n1) ∈ ps → (v2, n2) ∈ ps → f n1 n2 = some m →
  (∀ v Hf' H', Same Hf Hf' → St K Fr Hf' H' ((v, m) :: ps) → Q v H') → r v1 v2 H Q
end
section
variable {K : PySem.W.Frag} {W : WX} {X : Cx}
/-- an operand's value among what is held -/
def held (v : V) : Val → List (V × N)
  | .s _ => []
  | .t n => [(v, n)]
theorem ValIs.st {Fr Hf H : Hp} {σ : L2.St} {env : Env} {temps : List (V × N)} {v : V} {val : Val} (h : ValIs K Fr Hf H σ env temps v val) : St K Fr Hf H ((held v val ++ temps) ++ slots σ env) := by
  cases val with
  | s i => exact h.2
  | t n => exact h
theorem get_mem {σ : L2.St} {env : Env} {temps : List (V × N)} {v : V} {val : Val} {n : N} (hs : ∀ i, val = .s i → σ[i]? = some (some v)) (ht : ∀ n, val = .t n → (v, n) ∈ temps) (g : val.get env = some n) : (v, n) ∈ temps ++ slots σ env := by
  cases val with
  | s i => exact List.mem_append_right _ (slots_mem (hs i rfl) (join_some g))
  | t m =>
    have e : m = n := Option.some.inj g
    rw [← e]
    exact List.mem_append_left _ (ht m rfl)
theorem ValIs.slot {Fr Hf H : Hp} {σ : L2.St} {env : Env} {temps : List (V × N)} {v : V} {val : Val} (h : ValIs K Fr Hf H σ env temps v val) : ∀ i, val = .s i → σ[i]? = some (some v) := by
  intro i e
  subst e
  exact h.1
theorem held_mem {v : V} {val : Val} : ∀ n, val = .t n → (v, n) ∈ held v val := by
  intro n e
  subst e
  exact List.mem_cons_self
theorem runs_op1 {r : V → Hp → VK → Prop} {f : F1} {o : WO} {te : TE} (hr : Snd1 K r f) (h : RunsO K W o te) : Runs K W (wOp1 f o) (tUn r te) := by
  intro σ H Fr Hf env temps k x Q s c hw q hx
  refine h σ H Fr Hf env temps _ x _ s c hw (fun val e1 v Hf1 H1 hk sm c1 vi => ?_) hx
  obtain ⟨n, g, hk⟩ := onS_elim hk
  obtain ⟨m, hf, hk⟩ := onS_elim hk
  have s1 := vi.st
  refine hr Fr Hf1 H1 _ v n m _ s1 (get_mem vi.slot (fun n e => List.mem_append_left _ (held_mem n e)) g) hf fun v2 Hf2 H2 sm2 s2 => ?_
  refine q m e1 v2 Hf2 H2 hk (sm.trans sm2) c1 ?_
  rw [List.append_assoc] at s2
  exact s2.dropM
theorem runs_op2 {r : R2} {f : F2} {o1 o2 : WO} {ta tb : TE} (hr : Snd2 K r f) (h1 : RunsO K W o1 ta) (h2 : RunsO K W o2 tb) : Runs K W (wOp2 f o1 o2) (tOp r ta tb) := by
  intro σ H Fr Hf env temps k x Q s c hw q hx
  refine h1 σ H Fr Hf env temps _ x _ s c hw (fun a e1 v1 Hf1 H1 hk sm1 c1 vi => ?_) hx
  refine h2 σ H1 Fr Hf1 e1 (held v1 a ++ temps) _ x _ vi.st c1 hk (fun b e2 v2 Hf2 H2 hk sm2 c2 vj => ?_) ((hx.mono sm1).more _)
  obtain ⟨n, g1, hk⟩ := onS_elim hk
  obtain ⟨m, g2, hk⟩ := onS_elim hk
  obtain ⟨p, hf, hk⟩ := onS_elim hk
  have s2 := vj.st
  refine hr Fr Hf2 H2 _ v1 v2 n m p _ s2 (get_mem vi.slot (fun n e => List.mem_append_right _ (List.mem_append_left _ (held_mem n e))) g1) (get_mem vj.slot (fun n e => List.mem_append_left _ (held_mem n e)) g2) hf fun v3 Hf3 H3 sm3 s3 => ?_
  refine q p e2 v3 Hf3 H3 hk ((sm1.trans sm2).trans sm3) c2 ?_
  rw [← List.append_assoc, List.append_assoc] at s3
  exact s3.dropM
theorem pd_bin {f0 : Operator} {r : R2} {f : F2} {a b : Expr} {o1 o2 : WO} {pos : Pos} (ho : OpR X (binaryOp f0) r) (hr : Snd2 X.K r f) (h1 : PDO X W a o1) (h2 : PDO X W b o2) : PD X W (.BinOp a f0 b pos) (wOp2 f o1 o2) := by
  obtain ⟨ta, a1, a2⟩ := h1
  obtain ⟨tb, b1, b2⟩ := h2
  exact ⟨_, pe_op ho a1 b1, runs_op2 hr a2 b2⟩
theorem pd_cmp {op : CmpOp} {r : R2} {f : F2} {a b : Expr} {o1 o2 : WO} {pos : Pos} (ho : OpR X (compareOp op) r) (hr : Snd2 X.K r f) (hm : behindInMarks op b = false) (h1 : PDO X W a o1) (h2 : PDO X W b o2) : PD X W (.Compare a [op] [b] pos) (wOp2 f o1 o2) := by
  obtain ⟨ta, a1, a2⟩ := h1
  obtain ⟨tb, b1, b2⟩ := h2
  exact ⟨_, pe_cmpR ho a1 b1 hm, runs_op2 hr a2 b2⟩
theorem pd_un {op : UnaryOp} {r : V → Hp → VK → Prop} {f : F1} {a : Expr} {o : WO} {pos : Pos} (ho : UnR X (unaryOp op) r) (hr : Snd1 X.K r f) (h : PDO X W a o) : PD X W (.UnaryOp op a pos) (wOp1 f o) := by
  obtain ⟨ta, a1, a2⟩ := h
  exact ⟨_, pe_un ho a1, runs_op1 hr a2⟩
theorem pd_ix {r : R2} {f : F2} {a b : Expr} {o1 o2 : WO} {pos : Pos} (hi : IxR X r) (hr : Snd2 X.K r f) (hs : PlainIx b) (h1 : PDO X W a o1) (h2 : PDO X W b o2) : PD X W (.Subscript a b pos) (wOp2 f o1 o2) := by
  obtain ⟨ta, a1, a2⟩ := h1
  obtain ⟨tb, b1, b2⟩ := h2
  exact ⟨_, pe_ix hi a1 b1 hs, runs_op2 hr a2 b2⟩
end
/-! ### what is seen of what is held: data whose root may be owned -/
def allD : List N → Option (List D)
  | [] => some []
  | .d x :: l => (allD l).map (x :: ·)
  | _ :: _ => none
@[simp] theorem allD_map (l : List D) : allD (l.map N.d) = some l := by
  induction l with
  | nil => rfl
  | cons x l ih =>
    rw [List.map_cons]
    show (allD (l.map N.d)).map (x :: ·) = some (x :: l)
    rw [ih]; rfl
@[simp] theorem allD_nil : allD [] = some [] := rfl
@[simp] theorem allD_cons (x : D) (l : List N) : allD (.d x :: l) = (allD l).map (x :: ·) := rfl
theorem allD_eq : ∀ {l : List N} {ds : List D}, allD l = some ds → l = ds.map N.d
  | [], ds, h => by cases h; rfl
  | .d x :: l, ds, h => by
    rw [allD_cons] at h
    cases e : allD l with
    | none => rw [e] at h; cases h
    | some es =>
      rw [e] at h
      cases h
      rw [allD_eq e]; rfl
  | .lst _ :: _, _, h => by cases h
  | .tup _ :: _, _, h => by cases h
  | .dic _ _ :: _, _, h => by cases h
  | .obj _ _ _ :: _, _, h => by cases h
  | .ext _ :: _, _, h => by cases h
def flat : N → Option D
  | .d x => some x
  | .lst l => (allD l).map D.lst
  | .tup l => (allD l).map D.tup
  | .dic ks l => (allD l).map (D.dic ks)
  | .obj c fs l => (allD l).map (D.obj c fs)
  | .ext φ => some (.ext φ)
@[simp] theorem flat_d (x : D) : flat (.d x) = some x := rfl
@[simp] theorem flat_lst (l : List N) : flat (.lst l) = (allD l).map D.lst := rfl
@[simp] theorem flat_tup (l : List N) : flat (.tup l) = (allD l).map D.tup := rfl
@[simp] theorem flat_dic (ks : List Key) (l : List N) : flat (.dic ks l) = (allD l).map (D.dic ks) := rfl
@[simp] theorem flat_ext (φ : Addr → Heap → Prop) : flat (.ext φ) = some (.ext φ) := rfl
@[simp] theorem flat_obj (c : Str) (fs : List Str) (l : List N) : flat (.obj c fs l) = (allD l).map (D.obj c fs) := rfl
/-- the root stands in H, what is below is frozen -/
def Top (K : PySem.W.Frag) (Hf H : Hp) : D → V → Prop
  | .lst l, v => ∃ p vs, v = .ref p ∧ H p = some (.lst vs) ∧ Reps K Hf l vs
  | .tup l, v => ∃ p vs, v = .ref p ∧ H p = some (.tup vs) ∧ Reps K Hf l vs
  | .dic ks l, v => ∃ p es, v = .ref p ∧ H p = some (.dK es) ∧ es.map (·.1) = ks ∧ Reps K Hf l (es.map (·.2))
  | .obj c fs l, v => ∃ p dx fv, v = .ref p ∧ H p = some (.ins (He.ga K c) dx fv) ∧ fv.map (·.1) = fs ∧ Reps K Hf l (fv.map (·.2))
  | .scr ns, v => ∃ p, v = .ref p ∧ SqL K H p (ns.map V.int)
  | .ext φ, v => ∃ p, v = .ref p ∧ H p = some (.ext (φ p))
  | x, v => Rep K Hf x v
section
variable {K : PySem.W.Frag} {Fr Hf H : Hp} {ps : List (V × N)}
theorem top_of {x : D} {v : V} (e : Same Hf H) (h : Rep K Hf x v) : Top K Hf H x v := by
  cases x with
  | lst l => unfold Rep at h; obtain ⟨p, vs, e1, e2, e3⟩ := h; exact ⟨p, vs, e1, e _ _ e2, e3⟩
  | tup l => unfold Rep at h; obtain ⟨p, vs, e1, e2, e3⟩ := h; exact ⟨p, vs, e1, e _ _ e2, e3⟩
  | dic ks l => unfold Rep at h; obtain ⟨p, vs, e1, e2, e3⟩ := h; exact ⟨p, vs, e1, e _ _ e2, e3⟩
  | obj c fs l => unfold Rep at h; obtain ⟨p, dx, vs, e1, e2, e3⟩ := h; exact ⟨p, dx, vs, e1, e _ _ e2, e3⟩
  | scr ns => unfold Rep at h; obtain ⟨p, e1, e2⟩ := h; exact ⟨p, e1, Same.seq e e2⟩
  | ext φ => unfold Rep at h; obtain ⟨p, e1, e2⟩ := h; exact ⟨p, e1, e _ _ e2⟩
  | non => exact h
  | bl b => exact h
  | int i => exact h
  | str z => exact h
theorem St.top {v : V} {n : N} {x : D} (s : St K Fr Hf H ps) (h : (v, n) ∈ ps) (f : flat n = some x) : Top K Hf H x v := by
  obtain ⟨A, r, nd, d⟩ := s.mem h
  cases n with
  | d y =>
    rw [flat_d] at f
    cases f
    exact top_of s.ex (s.memD h)
  | lst l =>
    rw [flat_lst] at f
    cases e : allD l with
    | none => rw [e] at f; cases f
    | some ds =>
      rw [e] at f; cases f
      rw [allD_eq e] at r
      unfold RepN at r
      obtain ⟨p, vs, B, e1, e2, e3, e4⟩ := r
      exact ⟨p, vs, e1, e3, (reps_of_d _ _ _ e4).2⟩
  | tup l =>
    rw [flat_tup] at f
    cases e : allD l with
    | none => rw [e] at f; cases f
    | some ds =>
      rw [e] at f; cases f
      rw [allD_eq e] at r
      unfold RepN at r
      obtain ⟨p, vs, B, e1, e2, e3, e4⟩ := r
      exact ⟨p, vs, e1, e3, (reps_of_d _ _ _ e4).2⟩
  | dic ks l =>
    rw [flat_dic] at f
    cases e : allD l with
    | none => rw [e] at f; cases f
    | some ds =>
      rw [e] at f; cases f
      rw [allD_eq e] at r
      unfold RepN at r
      obtain ⟨p, vs, B, e1, e2, e3, e4, e5⟩ := r
      exact ⟨p, vs, e1, e3, e4, (reps_of_d _ _ _ e5).2⟩
  | obj c fs l =>
    rw [flat_obj] at f
    cases e : allD l with
    | none => rw [e] at f; cases f
    | some ds =>
      rw [e] at f; cases f
      rw [allD_eq e] at r
      unfold RepN at r
      obtain ⟨p, dx, vs, B, e1, e2, e3, e4, e5⟩ := r
      exact ⟨p, dx, vs, e1, e3, e4, (reps_of_d _ _ _ e5).2⟩
  | ext φ =>
    rw [flat_ext] at f
    cases f
    unfold RepN at r
    obtain ⟨p, e1, e2, e3⟩ := r
    exact ⟨p, e1, e3⟩
end
abbrev G1 := D → Option N
abbrev G2 := D → D → Option N
def up1 (g : G1) : F1 := fun n => (flat n).bind g
def up2 (g : G2) : F2 := fun n m => (flat n).bind fun a => (flat m).bind fun b => g a b
@[simp] theorem up1_eq (g : G1) (n : N) : up1 g n = (flat n).bind g := rfl
@[simp] theorem up2_eq (g : G2) (n m : N) : up2 g n m = (flat n).bind fun a => (flat m).bind fun b => g a b := rfl
section
variable (K : PySem.W.Frag)
/-- what follows: the result beside what was held -/
def Then (Fr Hf : Hp) (ps : List (V × N)) (m : N) (Q : VK) : Prop := ∀ v Hf' H', Same Hf Hf' → St K Fr Hf' H' ((v, m) :: ps) → Q v H'
def Sd1 (r : V → Hp → VK → Prop) (g : G1) : Prop := ∀ (Fr Hf H : Hp) (ps : List (V × N)) (v : V) (x : D) (m : N) (Q : VK), St K Fr Hf H ps → Top K Hf H x v → g x = some m → Then K Fr Hf ps m Q → r v H Q
def Sd2 (r : R2) (g : G2) : Prop := ∀ (Fr Hf H : Hp) (ps : List (V × N)) (v w : V) (x y : D) (m : N) (Q : VK), St K Fr Hf H ps → Top K Hf H x v → Top K Hf H y w → g x y = some m → Then K Fr Hf ps m Q → r v w H Q
end
section
variable {K : PySem.W.Frag}
theorem Sd1.snd {r : V → Hp → VK → Prop} {g : G1} (h : Sd1 K r g) : Snd1 K r (up1 g) := by
  intro Fr Hf H ps v n m Q s hm hf q
  cases e : flat n with
  | none => rw [up1_eq, e] at hf; cases hf
  | some x =>
    rw [up1_eq, e] at hf
    exact h Fr Hf H ps v x m Q s (s.top hm e) hf q
theorem Sd2.snd {r : R2} {g : G2} (h : Sd2 K r g) : Snd2 K r (up2 g) := by
  intro Fr Hf H ps v w n n2 m Q s hm hm2 hf q
  cases e : flat n with
  | none => rw [up2_eq, e] at hf; cases hf
  | some x =>
    cases e2 : flat n2 with
    | none => rw [up2_eq, e, e2] at hf; cases hf
    | some y =>
      rw [up2_eq, e, e2] at hf
      exact h Fr Hf H ps v w x y m Q s (s.top hm e) (s.top hm2 e2) hf q
theorem Then.d {Fr Hf H : Hp} {ps : List (V × N)} {x : D} {Q : VK} {v : V} (q : Then K Fr Hf ps (.d x) Q) (s : St K Fr Hf H ps) (r : Rep K Hf x v) : Q v H := q v Hf H (Same.refl _) (s.addD r)
theorem Then.int {Fr Hf H : Hp} {ps : List (V × N)} {i : Int} {Q : VK} (q : Then K Fr Hf ps (.d (.int i)) Q) (s : St K Fr Hf H ps) : Q (.int i) H := q.d s rep_int
theorem Then.bl {Fr Hf H : Hp} {ps : List (V × N)} {i : Bool} {Q : VK} (q : Then K Fr Hf ps (.d (.bl i)) Q) (s : St K Fr Hf H ps) : Q (.bl i) H := q.d s rep_bl
theorem Then.str {Fr Hf H : Hp} {ps : List (V × N)} {i : Str} {Q : VK} (q : Then K Fr Hf ps (.d (.str i)) Q) (s : St K Fr Hf H ps) : Q (.str i) H := q.d s rep_str
theorem Then.lst {Fr Hf H : Hp} {ps : List (V × N)} {l : List D} {vs : List V} {Q : VK} (q : Then K Fr Hf ps (.lst (l.map N.d)) Q) (s : St K Fr Hf H ps) (r : Reps K Hf l vs) {p : Addr} (hp : H p = none) : Q (.ref p) (upd H p (.lst vs)) := q _ Hf _ (Same.refl _) (s.newL hp r)
theorem Then.tup {Fr Hf H : Hp} {ps : List (V × N)} {l : List D} {vs : List V} {Q : VK} (q : Then K Fr Hf ps (.tup (l.map N.d)) Q) (s : St K Fr Hf H ps) (r : Reps K Hf l vs) {p : Addr} (hp : H p = none) : Q (.ref p) (upd H p (.tup vs)) := q _ Hf _ (Same.refl _) (s.newT hp r)
theorem top_int {Hf H : Hp} {i : Int} {v : V} (h : Top K Hf H (.int i) v) : v = .int i := by
  have h : Rep K Hf (.int i) v := h
  unfold Rep at h; exact h
theorem top_bl {Hf H : Hp} {i : Bool} {v : V} (h : Top K Hf H (.bl i) v) : v = .bl i := by
  have h : Rep K Hf (.bl i) v := h
  unfold Rep at h; exact h
theorem top_str {Hf H : Hp} {i : Str} {v : V} (h : Top K Hf H (.str i) v) : v = .str i := by
  have h : Rep K Hf (.str i) v := h
  unfold Rep at h; exact h
theorem top_non {Hf H : Hp} {v : V} (h : Top K Hf H .non v) : v = .non := by
  have h : Rep K Hf .non v := h
  unfold Rep at h; exact h
theorem OpR.or {X : Cx} {f : Value → Value → Sem Value} {r r' : R2} (h : OpR X f r) (h' : OpR X f r') : OpR X f (fun x y H Q => r x y H Q ∨ r' x y H Q) := by
  intro pins s σ H x y v u Q I rx ry q
  rcases q with q | q
  · exact h pins s σ H x y v u Q I rx ry q
  · exact h' pins s σ H x y v u Q I rx ry q
end
/-! ### arithmetic -/
def gAdd : G2
  | .int i, .int j => some (.d (.int (i + j)))
  | .str a, .str b => if a.length + b.length ≤ sizeLine then some (.d (.str (a ++ b))) else none
  | .lst a, .lst b => if a.length + b.length ≤ sizeLine then some (.lst ((a ++ b).map N.d)) else none
  | .tup a, .tup b => if a ≠ [] ∧ b ≠ [] ∧ a.length + b.length ≤ sizeLine then some (.tup ((a ++ b).map N.d)) else none
  | _, _ => none
def gSub : G2
  | .int i, .int j => some (.d (.int (i - j)))
  | _, _ => none
def gMul : G2
  | .int i, .int j => if (-(2 ^ 64) < i ∧ i < 2 ^ 64) ∨ (-(2 ^ 64) < j ∧ j < 2 ^ 64) then some (.d (.int (i * j))) else none
  | .lst a, .int k => if 0 ≤ k ∧ k < 2 ^ 62 ∧ a.length * k.toNat ≤ sizeLine then some (.lst ((List.replicate k.toNat a).flatten.map N.d)) else none
  | _, _ => none
def gDiv : G2
  | .int i, .int j => if 0 < j ∧ j < 1073741824 then some (.d (.int (i / j))) else none
  | _, _ => none
def gMod : G2
  | .int i, .int j => if 0 < j then some (.d (.int (i % j))) else none
  | _, _ => none
def gPow : G2
  | .int i, .int j => if 0 ≤ j ∧ j ≤ 1000000 ∧ i.natAbs < 2 ^ 64 then some (.d (.int (i ^ j.toNat))) else none
  | _, _ => none
def gNeg : G1
  | .int i => some (.d (.int (-i)))
  | _ => none
section
variable {X : Cx} {W : WX} {a b : Expr} {o1 o2 : WO} {pos : Pos}
def rAddAll (K : PySem.W.Frag) : R2 := fun x y H Q => (∃ i j, x = .int i ∧ y = .int j ∧ Q (.int (i + j)) H) ∨ (∃ i j, x = .str i ∧ y = .str j ∧ i.length + j.length ≤ sizeLine ∧ Q (.str (i ++ j)) H) ∨ rCat x y H Q ∨ rCatT K x y H Q
theorem op_addAll : OpR X (binaryOp .Add) (rAddAll X.K) := OpR.or op_add (OpR.or op_add_str (OpR.or op_cat op_catT))
theorem sd_add : Sd2 X.K (rAddAll X.K) gAdd := by
  intro Fr Hf H ps v w x y m Q s h1 h2 hg q
  unfold gAdd at hg
  split at hg
  · cases hg; rw [top_int h1, top_int h2]; exact .inl ⟨_, _, rfl, rfl, q.int s⟩
  · split at hg
    · cases hg; rw [top_str h1, top_str h2]; exact .inr (.inl ⟨_, _, rfl, rfl, by assumption, q.str s⟩)
    · cases hg
  · rename_i la lb
    split at hg
    · rename_i hl
      cases hg
      obtain ⟨p1, vs, rfl, e1, r1⟩ := h1
      obtain ⟨p2, ws, rfl, e2, r2⟩ := h2
      exact .inr (.inr (.inl ⟨p1, p2, vs, ws, rfl, rfl, e1, e2, by rw [r1.length, r2.length]; exact hl, fun p hp => q.lst s (r1.append r2) hp⟩))
    · cases hg
  · rename_i la lb
    split at hg
    · rename_i hl
      cases hg
      obtain ⟨p1, vs, rfl, e1, r1⟩ := h1
      obtain ⟨p2, ws, rfl, e2, r2⟩ := h2
      refine .inr (.inr (.inr ⟨p1, p2, vs, ws, rfl, rfl, SqT.of e1, SqT.of e2, fun z => ?_, by rw [r1.length, r2.length]; exact hl.2.2, fun z => ?_, fun _ p hp => q.tup s (r1.append r2) hp⟩))
      · have := r1.length
        rw [z] at this
        exact hl.1 (List.length_eq_zero_iff.mp this.symm)
      · have := r2.length
        rw [z] at this
        exact absurd (List.length_eq_zero_iff.mp this.symm) hl.2.1
    · cases hg
  · cases hg
theorem pd_add (h1 : PDO X W a o1) (h2 : PDO X W b o2) : PD X W (.BinOp a .Add b pos) (wOp2 (up2 gAdd) o1 o2) := pd_bin op_addAll sd_add.snd h1 h2
theorem sd_sub : Sd2 X.K (rI0 fun i j => .int (i - j)) gSub := by
  intro Fr Hf H ps v w x y m Q s h1 h2 hg q
  unfold gSub at hg
  split at hg
  · cases hg; rw [top_int h1, top_int h2]; exact ⟨_, _, rfl, rfl, q.int s⟩
  · cases hg
theorem pd_sub (h1 : PDO X W a o1) (h2 : PDO X W b o2) : PD X W (.BinOp a .Sub b pos) (wOp2 (up2 gSub) o1 o2) := pd_bin op_sub sd_sub.snd h1 h2
def rMulAll : R2 := fun x y H Q => rI CMul (fun i j => .int (i * j)) x y H Q ∨ rRep x y H Q
theorem op_mulAll : OpR X (binaryOp .Mult) rMulAll := OpR.or op_mul op_rep
theorem reps_rep {K : PySem.W.Frag} {Hf : Hp} {l : List D} {vs : List V} (h : Reps K Hf l vs) : ∀ k : Nat, Reps K Hf (List.replicate k l).flatten (List.replicate k vs).flatten
  | 0 => by simp; unfold Reps; rfl
  | k + 1 => by rw [List.replicate_succ, List.replicate_succ, List.flatten_cons, List.flatten_cons]; exact h.append (reps_rep h k)
theorem sd_mul : Sd2 X.K rMulAll gMul := by
  intro Fr Hf H ps v w x y m Q s h1 h2 hg q
  unfold gMul at hg
  split at hg
  · split at hg
    · cases hg; rw [top_int h1, top_int h2]; exact .inl ⟨_, _, rfl, rfl, by assumption, q.int s⟩
    · cases hg
  · split at hg
    · rename_i hl
      cases hg
      obtain ⟨p1, vs, rfl, e1, r1⟩ := h1
      rw [top_int h2]
      exact .inr ⟨p1, _, vs, rfl, rfl, e1, by omega, by omega, by rw [r1.length]; exact hl.2.2, fun p hp => q.lst s (reps_rep r1 _) hp⟩
    · cases hg
  · cases hg
theorem pd_mul (h1 : PDO X W a o1) (h2 : PDO X W b o2) : PD X W (.BinOp a .Mult b pos) (wOp2 (up2 gMul) o1 o2) := pd_bin op_mulAll sd_mul.snd h1 h2
theorem sd_div : Sd2 X.K (rI CDiv fun i j => .int (i / j)) gDiv := by
  intro Fr Hf H ps v w x y m Q s h1 h2 hg q
  unfold gDiv at hg
  split at hg
  · split at hg
    · cases hg; rw [top_int h1, top_int h2]; exact ⟨_, _, rfl, rfl, by assumption, q.int s⟩
    · cases hg
  · cases hg
theorem pd_div (h1 : PDO X W a o1) (h2 : PDO X W b o2) : PD X W (.BinOp a .FloorDiv b pos) (wOp2 (up2 gDiv) o1 o2) := pd_bin op_fdiv sd_div.snd h1 h2
theorem sd_mod : Sd2 X.K (rI (fun _ j => 0 < j) fun i j => .int (i % j)) gMod := by
  intro Fr Hf H ps v w x y m Q s h1 h2 hg q
  unfold gMod at hg
  split at hg
  · split at hg
    · cases hg; rw [top_int h1, top_int h2]; exact ⟨_, _, rfl, rfl, by assumption, q.int s⟩
    · cases hg
  · cases hg
theorem pd_mod (h1 : PDO X W a o1) (h2 : PDO X W b o2) : PD X W (.BinOp a .Mod b pos) (wOp2 (up2 gMod) o1 o2) := pd_bin op_mod sd_mod.snd h1 h2
theorem sd_pow : Sd2 X.K (rI CPow fun i j => .int (i ^ j.toNat)) gPow := by
  intro Fr Hf H ps v w x y m Q s h1 h2 hg q
  unfold gPow at hg
  split at hg
  · split at hg
    · cases hg; rw [top_int h1, top_int h2]; exact ⟨_, _, rfl, rfl, by assumption, q.int s⟩
    · cases hg
  · cases hg
theorem pd_pow (h1 : PDO X W a o1) (h2 : PDO X W b o2) : PD X W (.BinOp a .Pow b pos) (wOp2 (up2 gPow) o1 o2) := pd_bin op_pow sd_pow.snd h1 h2
theorem sd_neg : Sd1 X.K (rU fun i => .int (-i)) gNeg := by
  intro Fr Hf H ps v x m Q s h1 hg q
  unfold gNeg at hg
  split at hg
  · cases hg; rw [top_int h1]; exact ⟨_, rfl, q.int s⟩
  · cases hg
theorem pd_neg (h1 : PDO X W a o1) : PD X W (.UnaryOp .USub a pos) (wOp1 (up1 gNeg) o1) := pd_un un_neg sd_neg.snd h1
end
/-! ### comparisons -/
mutual
def toPy : D → Option PyData
  | .non => some .none
  | .bl b => some (.bool b)
  | .int i => some (.int i)
  | .str s => some (.str s)
  | .lst l => (toPys l).map .list
  | .tup l => (toPys l).map .tuple
  | _ => none
def toPys : List D → Option (List PyData)
  | [] => some []
  | d :: l => (toPy d).bind fun p => (toPys l).map (p :: ·)
end
section
variable {K : PySem.W.Frag} {Hf H : Hp}
mutual
theorem dp_of (e : Same Hf H) : ∀ (d : D) (v : V) (p : PyData), Rep K Hf d v → toPy d = some p → Dp K H v p
  | .non, v, p, h, t => by unfold Rep at h; unfold toPy at t; cases t; rw [h]; exact .non
  | .bl b, v, p, h, t => by unfold Rep at h; unfold toPy at t; cases t; rw [h]; exact .bl b
  | .int b, v, p, h, t => by unfold Rep at h; unfold toPy at t; cases t; rw [h]; exact .int b
  | .str b, v, p, h, t => by unfold Rep at h; unfold toPy at t; cases t; rw [h]; exact .str b
  | .lst l, v, p, h, t => by
    unfold Rep at h
    unfold toPy at t
    obtain ⟨a, vs, rfl, e2, e3⟩ := h
    cases q : toPys l with
    | none => rw [q] at t; cases t
    | some ps =>
      rw [q] at t; cases t
      exact .lst (SqL.of (e _ _ e2)) (dps_of e l vs ps e3 q)
  | .tup l, v, p, h, t => by
    unfold Rep at h
    unfold toPy at t
    obtain ⟨a, vs, rfl, e2, e3⟩ := h
    cases q : toPys l with
    | none => rw [q] at t; cases t
    | some ps =>
      rw [q] at t; cases t
      exact .tup (SqT.of (e _ _ e2)) (dps_of e l vs ps e3 q)
  | .dic _ _, v, p, h, t => by unfold toPy at t; cases t
  | .obj _ _ _, v, p, h, t => by unfold toPy at t; cases t
  | .scr _, v, p, h, t => by unfold toPy at t; cases t
  | .ext _, v, p, h, t => by unfold toPy at t; cases t
theorem dps_of (e : Same Hf H) : ∀ (l : List D) (vs : List V) (ps : List PyData), Reps K Hf l vs → toPys l = some ps → DpAll K H vs ps
  | [], vs, ps, h, t => by unfold Reps at h; unfold toPys at t; cases t; rw [h]; exact .nil
  | d :: l, vs, ps, h, t => by
    unfold Reps at h
    unfold toPys at t
    obtain ⟨v, ws, e1, e2, e3⟩ := h
    cases q : toPy d with
    | none => rw [q] at t; cases t
    | some p =>
      rw [q, Option.bind_some] at t
      cases q2 : toPys l with
      | none => rw [q2] at t; cases t
      | some qs =>
        rw [q2] at t; cases t
        rw [e1]
        exact .cons (dp_of e d v p e2 q) (dps_of e l ws qs e3 q2)
end
theorem dp_top (e : Same Hf H) {d : D} {v : V} {p : PyData} (h : Top K Hf H d v) (t : toPy d = some p) : Dp K H v p := by
  cases d with
  | lst l =>
    unfold toPy at t
    obtain ⟨a, vs, rfl, e2, e3⟩ := h
    cases q : toPys l with
    | none => rw [q] at t; cases t
    | some ps =>
      rw [q] at t; cases t
      exact .lst (SqL.of e2) (dps_of e l vs ps e3 q)
  | tup l =>
    unfold toPy at t
    obtain ⟨a, vs, rfl, e2, e3⟩ := h
    cases q : toPys l with
    | none => rw [q] at t; cases t
    | some ps =>
      rw [q] at t; cases t
      exact .tup (SqT.of e2) (dps_of e l vs ps e3 q)
  | non => exact dp_of e _ v p h t
  | bl b => exact dp_of e _ v p h t
  | int b => exact dp_of e _ v p h t
  | str b => exact dp_of e _ v p h t
  | dic _ _ => unfold toPy at t; cases t
  | obj _ _ _ => unfold toPy at t; cases t
  | scr _ => unfold toPy at t; cases t
  | ext _ => unfold toPy at t; cases t
end
/-- Python's ==, of data without dicts and objects -/
def eqD (a b : D) : Option Bool := match a, b with
  | .int i, .int j => some (decide (i = j))
  | .str x, .str y => some (decide (x = y))
  | .non, .non => some true
  | .non, .int _ => some false
  | .int _, .non => some false
  | .non, .str _ => some false
  | .str _, .non => some false
  | .int _, .str _ => some false
  | .str _, .int _ => some false
  | .bl x, .bl y => some (decide (x = y))
  | a, b => match toPy a, toPy b with
    | some p, some q => if SeqAt.shaped p = true ∧ SeqAt.shaped q = true then some (PyData.eqv p q) else none
    | _, _ => none
def gEq : G2 := fun a b => (eqD a b).map fun k => .d (.bl k)
def gNe : G2 := fun a b => (eqD a b).map fun k => .d (.bl !k)
def gLt : G2
  | .int i, .int j => some (.d (.bl (decide (i < j))))
  | .str a, .str b => some (.d (.bl (decide (a.cps.toList < b.cps.toList))))
  | _, _ => none
def gLe : G2
  | .int i, .int j => some (.d (.bl (decide (i ≤ j))))
  | .str a, .str b => some (.d (.bl (!decide (b.cps.toList < a.cps.toList))))
  | _, _ => none
def gGt : G2
  | .int i, .int j => some (.d (.bl (decide (j < i))))
  | .str a, .str b => some (.d (.bl (decide (b.cps.toList < a.cps.toList))))
  | _, _ => none
def gGe : G2
  | .int i, .int j => some (.d (.bl (decide (j ≤ i))))
  | .str a, .str b => some (.d (.bl (!decide (a.cps.toList < b.cps.toList))))
  | _, _ => none
def isD : D → D → Option Bool
  | .non, .non => some true
  | _, .non => some false
  | .bl a, .bl b => some (decide (a = b))
  | _, _ => none
def gIs : G2 := fun a b => (isD a b).map fun k => .d (.bl k)
def gIsNot : G2 := fun a b => (isD a b).map fun k => .d (.bl !k)
section
variable {X : Cx} {W : WX} {a b c : Expr} {o1 o2 o3 : WO} {pos : Pos}
def rEqAll (K : PySem.W.Frag) : R2 := fun x y H Q => rEq x y H Q ∨ rEqD K x y H Q
def rNeAll (K : PySem.W.Frag) : R2 := fun x y H Q => rNe x y H Q ∨ rNeD K x y H Q
theorem op_eqAll (hu : X.A.units + 64 < cLine) : OpR X (compareOp .Eq) (rEqAll X.K) := OpR.or op_eq (op_eqD hu)
theorem op_neAll (hu : X.A.units + 64 < cLine) : OpR X (compareOp .NotEq) (rNeAll X.K) := OpR.or op_ne (op_neD hu)
theorem eqD_cases {K : PySem.W.Frag} {Hf H : Hp} {x y : D} {v w : V} {k : Bool} (e : Same Hf H) (h1 : Top K Hf H x v) (h2 : Top K Hf H y w) (h : eqD x y = some k) :
    (scal v w = true ∧ decide (v = w) = k) ∨ ∃ p q, Dp K H v p ∧ Dp K H w q ∧ SeqAt.shaped p = true ∧ SeqAt.shaped q = true ∧ PyData.eqv p q = k := by
  unfold eqD at h
  split at h
  · cases h; rw [top_int h1, top_int h2]; exact .inl ⟨rfl, by simp⟩
  · cases h; rw [top_str h1, top_str h2]; exact .inl ⟨rfl, by simp⟩
  · cases h; rw [top_non h1, top_non h2]; exact .inl ⟨rfl, by simp⟩
  · cases h; rw [top_non h1, top_int h2]; exact .inl ⟨rfl, by simp⟩
  · cases h; rw [top_int h1, top_non h2]; exact .inl ⟨rfl, by simp⟩
  · cases h; rw [top_non h1, top_str h2]; exact .inl ⟨rfl, by simp⟩
  · cases h; rw [top_str h1, top_non h2]; exact .inl ⟨rfl, by simp⟩
  · cases h; rw [top_int h1, top_str h2]; exact .inl ⟨rfl, by simp⟩
  · cases h; rw [top_str h1, top_int h2]; exact .inl ⟨rfl, by simp⟩
  · cases h; rw [top_bl h1, top_bl h2]; exact .inl ⟨rfl, by simp⟩
  · split at h
    · rename_i p q hp hq
      split at h
      · rename_i hs
        cases h
        exact .inr ⟨p, q, dp_top e h1 hp, dp_top e h2 hq, hs.1, hs.2, rfl⟩
      · cases h
    · cases h
theorem sd_eq : Sd2 X.K (rEqAll X.K) gEq := by
  intro Fr Hf H ps v w x y m Q s h1 h2 hg q
  unfold gEq at hg
  cases e : eqD x y with
  | none => rw [e] at hg; cases hg
  | some k =>
    rw [e] at hg; cases hg
    rcases eqD_cases s.ex h1 h2 e with ⟨z1, z2⟩ | ⟨p, r, d1, d2, s1, s2, z⟩
    · exact .inl ⟨z1, by rw [z2]; exact q.bl s⟩
    · exact .inr ⟨p, r, d1, d2, s1, s2, by rw [z]; exact q.bl s⟩
theorem sd_ne : Sd2 X.K (rNeAll X.K) gNe := by
  intro Fr Hf H ps v w x y m Q s h1 h2 hg q
  unfold gNe at hg
  cases e : eqD x y with
  | none => rw [e] at hg; cases hg
  | some k =>
    rw [e] at hg; cases hg
    rcases eqD_cases s.ex h1 h2 e with ⟨z1, z2⟩ | ⟨p, r, d1, d2, s1, s2, z⟩
    · exact .inl ⟨z1, by rw [z2]; exact q.bl s⟩
    · exact .inr ⟨p, r, d1, d2, s1, s2, by rw [z]; exact q.bl s⟩
theorem pd_eq (hu : X.A.units + 64 < cLine) (h1 : PDO X W a o1) (h2 : PDO X W b o2) : PD X W (.Compare a [.Eq] [b] pos) (wOp2 (up2 gEq) o1 o2) := pd_cmp (op_eqAll hu) sd_eq.snd (nobehind _ (by decide) (by decide)) h1 h2
theorem pd_ne (hu : X.A.units + 64 < cLine) (h1 : PDO X W a o1) (h2 : PDO X W b o2) : PD X W (.Compare a [.NotEq] [b] pos) (wOp2 (up2 gNe) o1 o2) := pd_cmp (op_neAll hu) sd_ne.snd (nobehind _ (by decide) (by decide)) h1 h2
def rCmpAll (p : Int → Int → Bool) (q : Str → Str → Bool) : R2 := fun x y H Q => rI0 (fun i j => .bl (p i j)) x y H Q ∨ (∃ i j, x = .str i ∧ y = .str j ∧ Q (.bl (q i j)) H)
theorem op_ltAll : OpR X (compareOp .Lt) (rCmpAll (fun i j => decide (i < j)) fun i j => decide (i.cps.toList < j.cps.toList)) := OpR.or op_lt op_lt_str
theorem op_leAll : OpR X (compareOp .LtE) (rCmpAll (fun i j => decide (i ≤ j)) fun i j => !decide (j.cps.toList < i.cps.toList)) := OpR.or op_le op_le_str
theorem op_gtAll : OpR X (compareOp .Gt) (rCmpAll (fun i j => decide (j < i)) fun i j => decide (j.cps.toList < i.cps.toList)) := OpR.or op_gt op_gt_str
theorem op_geAll : OpR X (compareOp .GtE) (rCmpAll (fun i j => decide (j ≤ i)) fun i j => !decide (i.cps.toList < j.cps.toList)) := OpR.or op_ge op_ge_str
theorem sd_lt : Sd2 X.K (rCmpAll (fun i j => decide (i < j)) fun i j => decide (i.cps.toList < j.cps.toList)) gLt := by
  intro Fr Hf H ps v w x y m Q s h1 h2 hg q
  unfold gLt at hg
  split at hg
  · cases hg; rw [top_int h1, top_int h2]; exact .inl ⟨_, _, rfl, rfl, q.bl s⟩
  · cases hg; rw [top_str h1, top_str h2]; exact .inr ⟨_, _, rfl, rfl, q.bl s⟩
  · cases hg
theorem sd_le : Sd2 X.K (rCmpAll (fun i j => decide (i ≤ j)) fun i j => !decide (j.cps.toList < i.cps.toList)) gLe := by
  intro Fr Hf H ps v w x y m Q s h1 h2 hg q
  unfold gLe at hg
  split at hg
  · cases hg; rw [top_int h1, top_int h2]; exact .inl ⟨_, _, rfl, rfl, q.bl s⟩
  · cases hg; rw [top_str h1, top_str h2]; exact .inr ⟨_, _, rfl, rfl, q.bl s⟩
  · cases hg
theorem sd_gt : Sd2 X.K (rCmpAll (fun i j => decide (j < i)) fun i j => decide (j.cps.toList < i.cps.toList)) gGt := by
  intro Fr Hf H ps v w x y m Q s h1 h2 hg q
  unfold gGt at hg
  split at hg
  · cases hg; rw [top_int h1, top_int h2]; exact .inl ⟨_, _, rfl, rfl, q.bl s⟩
  · cases hg; rw [top_str h1, top_str h2]; exact .inr ⟨_, _, rfl, rfl, q.bl s⟩
  · cases hg
theorem sd_ge : Sd2 X.K (rCmpAll (fun i j => decide (j ≤ i)) fun i j => !decide (i.cps.toList < j.cps.toList)) gGe := by
  intro Fr Hf H ps v w x y m Q s h1 h2 hg q
  unfold gGe at hg
  split at hg
  · cases hg; rw [top_int h1, top_int h2]; exact .inl ⟨_, _, rfl, rfl, q.bl s⟩
  · cases hg; rw [top_str h1, top_str h2]; exact .inr ⟨_, _, rfl, rfl, q.bl s⟩
  · cases hg
theorem pd_lt (h1 : PDO X W a o1) (h2 : PDO X W b o2) : PD X W (.Compare a [.Lt] [b] pos) (wOp2 (up2 gLt) o1 o2) := pd_cmp op_ltAll sd_lt.snd (nobehind _ (by decide) (by decide)) h1 h2
theorem pd_le (h1 : PDO X W a o1) (h2 : PDO X W b o2) : PD X W (.Compare a [.LtE] [b] pos) (wOp2 (up2 gLe) o1 o2) := pd_cmp op_leAll sd_le.snd (nobehind _ (by decide) (by decide)) h1 h2
theorem pd_gt (h1 : PDO X W a o1) (h2 : PDO X W b o2) : PD X W (.Compare a [.Gt] [b] pos) (wOp2 (up2 gGt) o1 o2) := pd_cmp op_gtAll sd_gt.snd (nobehind _ (by decide) (by decide)) h1 h2
theorem pd_ge (h1 : PDO X W a o1) (h2 : PDO X W b o2) : PD X W (.Compare a [.GtE] [b] pos) (wOp2 (up2 gGe) o1 o2) := pd_cmp op_geAll sd_ge.snd (nobehind _ (by decide) (by decide)) h1 h2
def rIsAll : R2 := fun x y H Q => (y = .non ∧ Q (.bl (decide (x = .non))) H) ∨ rIsB x y H Q
def rIsNotAll : R2 := fun x y H Q => (y = .non ∧ Q (.bl (!decide (x = .non))) H) ∨ rNotB x y H Q
theorem op_isAll : OpR X (compareOp .Is) rIsAll := OpR.or op_isN op_isBl
theorem op_isNotAll : OpR X (compareOp .IsNot) rIsNotAll := OpR.or op_notN op_notBl
def isNonD : D → Bool
  | .non => true
  | _ => false
theorem top_non_iff {K : PySem.W.Frag} {Hf H : Hp} {x : D} {v : V} (h : Top K Hf H x v) : decide (v = .non) = isNonD x := by
  cases x with
  | non => rw [top_non h]; simp [isNonD]
  | bl b => rw [top_bl h]; simp [isNonD]
  | int b => rw [top_int h]; simp [isNonD]
  | str b => rw [top_str h]; simp [isNonD]
  | lst l => obtain ⟨p, vs, rfl, _⟩ := h; simp [isNonD]
  | tup l => obtain ⟨p, vs, rfl, _⟩ := h; simp [isNonD]
  | dic ks l => obtain ⟨p, vs, rfl, _⟩ := h; simp [isNonD]
  | obj c fs l => obtain ⟨p, dx, vs, rfl, _⟩ := h; simp [isNonD]
  | scr l => obtain ⟨p, rfl, _⟩ := h; simp [isNonD]
  | ext l => obtain ⟨p, rfl, _⟩ := h; simp [isNonD]
theorem isD_cases {K : PySem.W.Frag} {Hf H : Hp} {x y : D} {v w : V} {k : Bool} (h1 : Top K Hf H x v) (h2 : Top K Hf H y w) (h : isD x y = some k) :
    (w = .non ∧ decide (v = .non) = k) ∨ ∃ a b, v = .bl a ∧ w = .bl b ∧ decide (a = b) = k := by
  unfold isD at h
  split at h
  · cases h; rw [top_non h1, top_non h2]; exact .inl ⟨rfl, by simp⟩
  · rename_i hx
    cases h
    rw [top_non h2]
    refine .inl ⟨rfl, ?_⟩
    rw [top_non_iff h1]
    cases x with
    | non => exact (hx rfl).elim
    | _ => rfl
  · cases h; rw [top_bl h1, top_bl h2]; exact .inr ⟨_, _, rfl, rfl, rfl⟩
  · cases h
theorem sd_is : Sd2 X.K rIsAll gIs := by
  intro Fr Hf H ps v w x y m Q s h1 h2 hg q
  unfold gIs at hg
  cases e : isD x y with
  | none => rw [e] at hg; cases hg
  | some k =>
    rw [e] at hg; cases hg
    rcases isD_cases h1 h2 e with ⟨z1, z2⟩ | ⟨p, r, d1, d2, z⟩
    · exact .inl ⟨z1, by rw [z2]; exact q.bl s⟩
    · exact .inr ⟨p, r, d1, d2, by rw [z]; exact q.bl s⟩
theorem sd_isNot : Sd2 X.K rIsNotAll gIsNot := by
  intro Fr Hf H ps v w x y m Q s h1 h2 hg q
  unfold gIsNot at hg
  cases e : isD x y with
  | none => rw [e] at hg; cases hg
  | some k =>
    rw [e] at hg; cases hg
    rcases isD_cases h1 h2 e with ⟨z1, z2⟩ | ⟨p, r, d1, d2, z⟩
    · exact .inl ⟨z1, by rw [z2]; exact q.bl s⟩
    · exact .inr ⟨p, r, d1, d2, by rw [z]; exact q.bl s⟩
theorem pd_is (h1 : PDO X W a o1) (h2 : PDO X W b o2) : PD X W (.Compare a [.Is] [b] pos) (wOp2 (up2 gIs) o1 o2) := pd_cmp op_isAll sd_is.snd (nobehind _ (by decide) (by decide)) h1 h2
theorem pd_isNot (h1 : PDO X W a o1) (h2 : PDO X W b o2) : PD X W (.Compare a [.IsNot] [b] pos) (wOp2 (up2 gIsNot) o1 o2) := pd_cmp op_isNotAll sd_isNot.snd (nobehind _ (by decide) (by decide)) h1 h2
end
/-! ### chains a < b < c, the middle once -/
def wChain (f g : F2) (o1 o2 o3 : WO) : WE := fun env k x => o1 env (fun a e1 => o2 e1 (fun b e2 => onS (a.get e2) fun n => onS (b.get e2) fun m => onS (f n m) fun r => onS (match r with | .d (.bl t) => some t | _ => none) fun t =>
  if t = true then o3 e2 (fun c e3 => onS (b.get e3) fun m => onS (c.get e3) fun p => onS (g m p) fun r => k r e3) x else k (.d (.bl false)) e2) x) x
section
variable {K : PySem.W.Frag} {W : WX} {X : Cx}
theorem runs_chain {r r' : R2} {f g : F2} {o1 o2 o3 : WO} {ta tb tc : TE} (hr : Snd2 K r f) (hr' : Snd2 K r' g) (h1 : RunsO K W o1 ta) (h2 : RunsO K W o2 tb) (h3 : RunsO K W o3 tc) : Runs K W (wChain f g o1 o2 o3) (tChain r r' ta tb tc) := by
  intro σ H Fr Hf env temps k x Q s c hw q hx
  refine h1 σ H Fr Hf env temps _ x _ s c hw (fun a e1 v1 Hf1 H1 hk sm1 c1 vi => ?_) hx
  refine h2 σ H1 Fr Hf1 e1 (held v1 a ++ temps) _ x _ vi.st c1 hk (fun b e2 v2 Hf2 H2 hk sm2 c2 vj => ?_) ((hx.mono sm1).more _)
  obtain ⟨n, g1, hk⟩ := onS_elim hk
  obtain ⟨m, g2, hk⟩ := onS_elim hk
  obtain ⟨p, hf, hk⟩ := onS_elim hk
  obtain ⟨t, ht, hk⟩ := onS_elim hk
  have s2 := vj.st
  refine hr Fr Hf2 H2 _ v1 v2 n m p _ s2 (get_mem vi.slot (fun n e => List.mem_append_right _ (List.mem_append_left _ (held_mem n e))) g1) (get_mem vj.slot (fun n e => List.mem_append_left _ (held_mem n e)) g2) hf fun v3 Hf3 H3 sm3 s3 => ?_
  have ep : p = .d (.bl t) := by
    cases p with
    | d y =>
      cases y with
      | bl b => cases ht; rfl
      | _ => cases ht
    | _ => cases ht
  have ev : v3 = .bl t := by
    rw [ep] at s3
    have := s3.memD (v := v3) (x := .bl t) List.mem_cons_self
    unfold Rep at this; exact this
  refine ⟨t, ev, ?_⟩
  have s4 := s3.tail
  cases t with
  | false =>
    rw [if_neg Bool.false_ne_true] at hk ⊢
    refine q _ e2 _ Hf3 H3 hk ((sm1.trans sm2).trans sm3) c2 ?_
    have s5 := s4.addD (v := .bl false) (x := .bl false) rep_bl
    rw [← List.append_assoc, List.append_assoc] at s5
    exact s5.dropM
  | true =>
    rw [if_pos rfl] at hk ⊢
    refine h3 σ H3 Fr Hf3 e2 (held v2 b ++ (held v1 a ++ temps)) _ x _ s4 c2 hk (fun cc e3 v4 Hf4 H4 hk sm4 c4 vk => ?_) ?_
    · obtain ⟨m', g3, hk⟩ := onS_elim hk
      obtain ⟨p', g4, hk⟩ := onS_elim hk
      obtain ⟨r2, hf2, hk⟩ := onS_elim hk
      have s6 := vk.st
      refine hr' Fr Hf4 H4 _ v2 v4 m' p' r2 _ s6 (get_mem vj.slot (fun n e => List.mem_append_right _ (List.mem_append_left _ (held_mem n e))) g3) (get_mem vk.slot (fun n e => List.mem_append_left _ (held_mem n e)) g4) hf2 fun v5 Hf5 H5 sm5 s7 => ?_
      refine q r2 e3 v5 Hf5 H5 hk ((((sm1.trans sm2).trans sm3).trans sm4).trans sm5) c4 ?_
      rw [← List.append_assoc, ← List.append_assoc, List.append_assoc] at s7
      exact s7.dropM
    · have := (hx.mono ((sm1.trans sm2).trans sm3)).more (held v2 b ++ held v1 a)
      rw [List.append_assoc] at this
      exact this
theorem pd_chain {op op' : CmpOp} {r r' : R2} {f g : F2} {a b c : Expr} {o1 o2 o3 : WO} {pos : Pos} (ho : OpR X (compareOp op) r) (ho' : OpR X (compareOp op') r') (hr : Snd2 X.K r f) (hr' : Snd2 X.K r' g) (h1 : PDO X W a o1) (h2 : PDO X W b o2) (h3 : PDO X W c o3)
    (hm : lastMarks [op, op'] [b, c] = false := by with_unfolding_all rfl) : PD X W (.Compare a [op, op'] [b, c] pos) (wChain f g o1 o2 o3) := by
  obtain ⟨ta, a1, a2⟩ := h1
  obtain ⟨tb, b1, b2⟩ := h2
  obtain ⟨tc, c1, c2⟩ := h3
  exact ⟨_, pe_chain ho ho' a1 b1 c1 hm, runs_chain hr hr' a2 b2 c2⟩
end
/-! ### tests -/
abbrev WT := Env → (Bool → Env → Prop) → XP → Prop
section
variable (K : PySem.W.Frag) (W : WX)
def RunsT (w : WT) (tt : TT) : Prop := ∀ (σ : L2.St) (H Fr Hf : Hp) (env : Env) (temps : List (V × N)) (k : Bool → Env → Prop) (x : XP) (Q : Bool → Hp → Prop),
  St K Fr Hf H (temps ++ slots σ env) → Cov σ env → w env k x →
  (∀ b env' Hf' H', k b env' → Same Hf Hf' → Cov σ env' → St K Fr Hf' H' (temps ++ slots σ env') → Q b H') → RunX K W Fr Hf σ temps x → tt σ H Q
end
def PTD (X : Cx) (W : WX) (e : Expr) (w : WT) : Prop := ∃ tt, PT X e tt ∧ RunsT X.K W w tt
def PWD (X : Cx) (W : WX) (e : Expr) (w : WT) : Prop := ∃ tt, PW X e tt ∧ RunsT X.K W w tt
def asBl : N → Option Bool
  | .d (.bl b) => some b
  | _ => none
@[simp] theorem asBl_bl (b : Bool) : asBl (.d (.bl b)) = some b := rfl
/-- a bool -/
def wB (w : WE) : WT := fun env k x => w env (fun n e => onS (asBl n) fun b => k b e) x
/-- any value's truth -/
def truD : D → Option Bool
  | .non => some false
  | .bl b => some b
  | .int i => some (i != 0)
  | .str z => if z.length ≤ sizeLine then some ((z.length : Int) != 0) else none
  | .lst l => some (!l.isEmpty)
  | .tup l => some (!l.isEmpty)
  | .dic _ l => some (!l.isEmpty)
  | .scr l => some (!l.isEmpty)
  | .obj _ _ _ => none
  | .ext _ => none
def wTr (o : WO) : WT := fun env k x => o env (fun a e => onS ((a.get e).bind flat) fun n => onS (truD n) fun b => k b e) x
def wNot (w : WT) : WT := fun env k x => w env (fun b e => k (!b) e) x
def wAnd (w u : WT) : WT := fun env k x => w env (fun b e => if b = true then u e k x else k false e) x
def wOr (w u : WT) : WT := fun env k x => w env (fun b e => if b = true then k true e else u e k x) x
section
variable {K : PySem.W.Frag} {W : WX} {X : Cx} {a b : Expr} {pos : Pos} {rest : List Expr}
theorem asBl_eq {n : N} {b : Bool} (h : asBl n = some b) : n = .d (.bl b) := by
  cases n with
  | d y =>
    cases y with
    | bl c => cases h; rfl
    | _ => cases h
  | _ => cases h
theorem runs_wB {w : WE} {te : TE} (h : Runs K W w te) : RunsT K W (wB w) (tTest te) := by
  intro σ H Fr Hf env temps k x Q s c hw q hx
  refine h σ H Fr Hf env temps _ x _ s c hw (fun n e v Hf' H' hk sm c' s' => ?_) hx
  obtain ⟨b, hb, hk⟩ := onS_elim hk
  rw [asBl_eq hb] at s'
  have ev := s'.memD (v := v) (x := .bl b) List.mem_cons_self
  unfold Rep at ev
  exact ⟨b, ev, q b e Hf' H' hk sm c' s'.tail⟩
theorem tru_top {Fr Hf H : Hp} {x : D} {v : V} {b : Bool} (h : Top K Hf H x v) (t : truD x = some b) : TruV K v H b := by
  cases x with
  | non => rw [top_non h]; cases t; rfl
  | bl c => rw [top_bl h]; cases t; rfl
  | int c => rw [top_int h]; cases t; rfl
  | str c =>
    rw [top_str h]
    have t' : (if c.length ≤ sizeLine then some ((c.length : Int) != 0) else none) = some b := t
    by_cases hz : c.length ≤ sizeLine
    · rw [if_pos hz] at t'
      cases t'
      exact ⟨hz, rfl⟩
    · rw [if_neg hz] at t'
      cases t'
  | lst l =>
    obtain ⟨p, vs, rfl, e, r⟩ := h
    cases t
    exact .inl ⟨vs, SqL.of e, by have := r.length; cases vs <;> cases l <;> simp_all⟩
  | tup l =>
    obtain ⟨p, vs, rfl, e, r⟩ := h
    cases t
    exact .inr (.inl ⟨vs, SqT.of e, by have := r.length; cases vs <;> cases l <;> simp_all⟩)
  | dic ks l =>
    obtain ⟨p, es, rfl, e, _, r⟩ := h
    cases t
    refine .inr (.inr ⟨es, e, ?_⟩)
    have := r.length
    cases es <;> cases l <;> simp_all
  | scr l =>
    obtain ⟨p, rfl, e⟩ := h
    cases t
    exact .inl ⟨_, e, by cases l <;> rfl⟩
  | obj c fs l => cases t
  | ext φ => cases t
theorem runs_wTr {o : WO} {te : TE} (h : RunsO K W o te) : RunsT K W (wTr o) (fun σ H Q => te σ H fun x H' => ∃ k, TruV K x H' k ∧ Q k H') := by
  intro σ H Fr Hf env temps k x Q s c hw q hx
  refine h σ H Fr Hf env temps _ x _ s c hw (fun val e v Hf' H' hk sm c' vi => ?_) hx
  obtain ⟨d, hd, hk⟩ := onS_elim hk
  obtain ⟨b, hb, hk⟩ := onS_elim hk
  cases g : val.get e with
  | none => rw [g] at hd; cases hd
  | some n =>
    rw [g, Option.bind_some] at hd
    have s1 := vi.st
    have t := s1.top (get_mem vi.slot (fun n e => List.mem_append_left _ (held_mem n e)) g) hd
    rw [List.append_assoc] at s1
    exact ⟨b, tru_top (Fr := Fr) t hb, q b e Hf' H' hk sm c' s1.right⟩
theorem runs_wNot {w : WT} {tt : TT} (h : RunsT K W w tt) : RunsT K W (wNot w) (tNot tt) := by
  intro σ H Fr Hf env temps k x Q s c hw q hx
  exact h σ H Fr Hf env temps _ x _ s c hw (fun b e Hf' H' hk sm c' s' => q _ e Hf' H' hk sm c' s') hx
theorem runs_wAnd {w u : WT} {tt tu : TT} (h : RunsT K W w tt) (h2 : RunsT K W u tu) : RunsT K W (wAnd w u) (tAnd tt tu) := by
  intro σ H Fr Hf env temps k x Q s c hw q hx
  refine h σ H Fr Hf env temps _ x _ s c hw (fun b e Hf' H' hk sm c' s' => ?_) hx
  cases b with
  | true =>
    rw [if_pos rfl] at hk ⊢
    exact h2 σ H' Fr Hf' e temps k x Q s' c' hk (fun b2 e2 Hf2 H2 hk sm2 c2 s2 => q b2 e2 Hf2 H2 hk (sm.trans sm2) c2 s2) (hx.mono sm)
  | false =>
    rw [if_neg Bool.false_ne_true] at hk ⊢
    exact q false e Hf' H' hk sm c' s'
theorem runs_wOr {w u : WT} {tt tu : TT} (h : RunsT K W w tt) (h2 : RunsT K W u tu) : RunsT K W (wOr w u) (tOr tt tu) := by
  intro σ H Fr Hf env temps k x Q s c hw q hx
  refine h σ H Fr Hf env temps _ x _ s c hw (fun b e Hf' H' hk sm c' s' => ?_) hx
  cases b with
  | false =>
    rw [if_neg Bool.false_ne_true] at hk ⊢
    exact h2 σ H' Fr Hf' e temps k x Q s' c' hk (fun b2 e2 Hf2 H2 hk sm2 c2 s2 => q b2 e2 Hf2 H2 hk (sm.trans sm2) c2 s2) (hx.mono sm)
  | true =>
    rw [if_pos rfl] at hk ⊢
    exact q true e Hf' H' hk sm c' s'
/-- a value that is a bool, as a test -/
theorem pt_val {w : WE} (h : PD X W a w) (he : ∀ whole, isTrue a X.env whole = (do let v ← whole; standAt a.pos; holding [v] (truthy v)) := by intro _; rfl) : PTD X W a (wB w) := by
  obtain ⟨te, h1, h2⟩ := h
  exact ⟨_, L2.pt_val h1 he, runs_wB h2⟩
theorem pt_tr {o : WO} (h : PDO X W a o) (he : ∀ whole, isTrue a X.env whole = (do let v ← whole; standAt a.pos; holding [v] (truthy v)) := by intro _; rfl) : PTD X W a (wTr o) := by
  obtain ⟨te, h1, h2⟩ := h
  exact ⟨_, pt_truth h1 he, runs_wTr h2⟩
theorem pt_cmp {op : CmpOp} {r : R2} {f : F2} {o1 o2 : WO} (ho : OpR X (compareOp op) r) (hr : Snd2 X.K r f) (hm : behindInMarks op b = false) (h1 : PDO X W a o1) (h2 : PDO X W b o2) : PTD X W (.Compare a [op] [b] pos) (wB (wOp2 f o1 o2)) := by
  obtain ⟨ta, a1, a2⟩ := h1
  obtain ⟨tb, b1, b2⟩ := h2
  exact ⟨_, pt_cmpR ho a1 b1 hm, runs_wB (runs_op2 hr a2 b2)⟩
theorem pt_chn {op op' : CmpOp} {r r' : R2} {f g : F2} {c : Expr} {o1 o2 o3 : WO} (ho : OpR X (compareOp op) r) (ho' : OpR X (compareOp op') r') (hr : Snd2 X.K r f) (hr' : Snd2 X.K r' g) (h1 : PDO X W a o1) (h2 : PDO X W b o2) (h3 : PDO X W c o3)
    (hm : lastMarks [op, op'] [b, c] = false := by with_unfolding_all rfl) : PTD X W (.Compare a [op, op'] [b, c] pos) (wB (wChain f g o1 o2 o3)) := by
  obtain ⟨ta, a1, a2⟩ := h1
  obtain ⟨tb, b1, b2⟩ := h2
  obtain ⟨tc, c1, c2⟩ := h3
  exact ⟨_, L2.pt_chain ho ho' a1 b1 c1 hm, runs_wB (runs_chain hr hr' a2 b2 c2)⟩
theorem pt_nt {w : WT} (h : PTD X W a w) : PTD X W (.UnaryOp .Not a pos) (wNot w) := by
  obtain ⟨tt, h1, h2⟩ := h
  exact ⟨_, pt_not h1, runs_wNot h2⟩
theorem pw_and1 {w : WT} (h : PTD X W a w) : PWD X W (.BoolOp .And [a] pos) w := by
  obtain ⟨tt, h1, h2⟩ := h
  exact ⟨_, L2.pw_and1 h1, h2⟩
theorem pw_or1 {w : WT} (h : PTD X W a w) : PWD X W (.BoolOp .Or [a] pos) w := by
  obtain ⟨tt, h1, h2⟩ := h
  exact ⟨_, L2.pw_or1 h1, h2⟩
theorem pw_and {w u : WT} (h : PTD X W a w) (h2 : PWD X W (.BoolOp .And (b :: rest) pos) u) : PWD X W (.BoolOp .And (a :: b :: rest) pos) (wAnd w u) := by
  obtain ⟨tt, a1, a2⟩ := h
  obtain ⟨tu, b1, b2⟩ := h2
  exact ⟨_, L2.pw_and a1 b1, runs_wAnd a2 b2⟩
theorem pw_or {w u : WT} (h : PTD X W a w) (h2 : PWD X W (.BoolOp .Or (b :: rest) pos) u) : PWD X W (.BoolOp .Or (a :: b :: rest) pos) (wOr w u) := by
  obtain ⟨tt, a1, a2⟩ := h
  obtain ⟨tu, b1, b2⟩ := h2
  exact ⟨_, L2.pw_or a1 b1, runs_wOr a2 b2⟩
theorem pt_w {w : WT} (h : PWD X W a w) : PTD X W a w := by
  obtain ⟨tt, h1, h2⟩ := h
  exact ⟨_, h1.pt, h2⟩
end
/-! ### lists of operands -/
abbrev WA := Env → (List Val → Env → Prop) → XP → Prop
def aNil : WA := fun env k _ => k [] env
def aCons (o : WO) (a : WA) : WA := fun env k x => o env (fun v e => a e (fun vs e2 => k (v :: vs) e2) x) x
def tmps : List Val → List V → List (V × N)
  | .t n :: l, v :: vs => (v, n) :: tmps l vs
  | .s _ :: l, _ :: vs => tmps l vs
  | _, _ => []
def SlotOk (σ : L2.St) (val : Val) (v : V) : Prop := ∀ i, val = .s i → σ[i]? = some (some v)
def RunsA (K : PySem.W.Frag) (W : WX) (a : WA) (ta : TA) : Prop := ∀ (σ : L2.St) (H Fr Hf : Hp) (env : Env) (temps : List (V × N)) (k : List Val → Env → Prop) (x : XP) (Q : List V → Hp → Prop),
  St K Fr Hf H (temps ++ slots σ env) → Cov σ env → a env k x →
  (∀ vals env' vs Hf' H', k vals env' → Same Hf Hf' → Cov σ env' → Paired (SlotOk σ) vals vs → St K Fr Hf' H' ((tmps vals vs ++ temps) ++ slots σ env') → Q vs H') → RunX K W Fr Hf σ temps x → ta σ H Q
def PAD (X : Cx) (W : WX) (es : List Expr) (a : WA) : Prop := ∃ ta, PA X es ta ∧ RunsA X.K W a ta
def getAll (e : Env) : List Val → Option (List N)
  | [] => some []
  | v :: l => (v.get e).bind fun n => (getAll e l).map (n :: ·)
section
variable {K : PySem.W.Frag} {W : WX} {X : Cx}
theorem runs_aNil : RunsA K W aNil tNil := by
  intro σ H Fr Hf env temps k x Q s c hw q _
  exact q [] env [] Hf H hw (Same.refl _) c .nil s
theorem tmps_cons (val : Val) (v : V) (l : List Val) (vs : List V) : tmps (val :: l) (v :: vs) = held v val ++ tmps l vs := by
  cases val <;> rfl
theorem runs_aCons {o : WO} {a : WA} {te : TE} {ta : TA} (h1 : RunsO K W o te) (h2 : RunsA K W a ta) : RunsA K W (aCons o a) (tCons te ta) := by
  intro σ H Fr Hf env temps k x Q s c hw q hx
  refine h1 σ H Fr Hf env temps _ x _ s c hw (fun val e1 v Hf1 H1 hk sm1 c1 vi => ?_) hx
  refine h2 σ H1 Fr Hf1 e1 (held v val ++ temps) _ x _ vi.st c1 hk (fun vals e2 vs Hf2 H2 hk sm2 c2 so s2 => ?_) ((hx.mono sm1).more _)
  refine q (val :: vals) e2 (v :: vs) Hf2 H2 hk (sm1.trans sm2) c2 (.cons vi.slot so) (s2.perm ?_)
  rw [tmps_cons]
  refine List.Perm.append_right _ ?_
  rw [← List.append_assoc]
  exact List.Perm.append_right _ List.perm_append_comm
theorem pa_nil : PAD X W [] aNil := ⟨_, L2.pa_nil, runs_aNil⟩
theorem pa_cons {e : Expr} {es : List Expr} {o : WO} {a : WA} (h1 : PDO X W e o) (h2 : PAD X W es a) (hs : starEach (e :: es) X.env = (false, eval e X.env) :: starEach es X.env := by rfl) : PAD X W (e :: es) (aCons o a) := by
  obtain ⟨te, a1, a2⟩ := h1
  obtain ⟨ta, b1, b2⟩ := h2
  exact ⟨_, L2.pa_cons a1 b1 hs, runs_aCons a2 b2⟩
theorem tmps_mem : ∀ {vals : List Val} {vs : List V} {i : Nat} {n : N} {v : V}, vals[i]? = some (.t n) → vs[i]? = some v → (v, n) ∈ tmps vals vs
  | [], _, _, _, _, h, _ => by simp at h
  | _ :: _, [], _, _, _, _, h => by simp at h
  | w :: l, u :: vs, 0, n, v, h1, h2 => by
    simp at h1 h2
    subst h1 h2
    exact List.mem_cons_self
  | w :: l, u :: vs, i + 1, n, v, h1, h2 => by
    rw [tmps_cons]
    exact List.mem_append_right _ (tmps_mem (i := i) (by simpa using h1) (by simpa using h2))
theorem getAll_mem {σ : L2.St} {e : Env} {qs : List (V × N)} : ∀ {vals : List Val} {vs : List V} {ns : List N}, Paired (SlotOk σ) vals vs → getAll e vals = some ns → (∀ p ∈ tmps vals vs, p ∈ qs) → (∀ p ∈ slots σ e, p ∈ qs) → Paired (fun v n => (v, n) ∈ qs) vs ns
  | [], _, ns, .nil, g, _, _ => by cases g; exact .nil
  | w :: l, _ :: vs, ns, .cons (b := v) so r, g, ht, hs => by
    unfold getAll at g
    cases g1 : w.get e with
    | none => rw [g1] at g; cases g
    | some n =>
      rw [g1, Option.bind_some] at g
      cases g2 : getAll e l with
      | none => rw [g2] at g; cases g
      | some ms =>
        rw [g2] at g; cases g
        rw [tmps_cons] at ht
        refine .cons ?_ (getAll_mem r g2 (fun p hp => ht p (List.mem_append_right _ hp)) hs)
        cases w with
        | s i => exact hs _ (slots_mem (so i rfl) (join_some g1))
        | t m =>
          have e1 : m = n := Option.some.inj g1
          rw [← e1]
          exact ht _ (List.mem_append_left _ List.mem_cons_self)
/-! ### displays: what stands in them is used up -/
def allT : List Val → Option (List N)
  | [] => some []
  | .t n :: l => (allT l).map (n :: ·)
  | .s _ :: _ => none
def wLst (a : WA) : WE := fun env k x => a env (fun vals e => onS (allT vals) fun ns => ns.length ≤ sizeLine ∧ k (.lst ns) e) x
def wTup (a : WA) : WE := fun env k x => a env (fun vals e => onS (allT vals) fun ns => ns.length ≤ sizeLine ∧ k (.tup ns) e) x
theorem allT_zip : ∀ {vals : List Val} {vs : List V} {ns : List N}, Paired (SlotOk σ) vals vs → allT vals = some ns → tmps vals vs = vs.zip ns ∧ vs.length = ns.length
  | [], _, ns, .nil, g => by cases g; exact ⟨rfl, rfl⟩
  | .s i :: l, _ :: vs, ns, .cons so r, g => by cases g
  | .t n :: l, _ :: vs, ns, .cons so r, g => by
    unfold allT at g
    cases g2 : allT l with
    | none => rw [g2] at g; cases g
    | some ms =>
      rw [g2] at g; cases g
      obtain ⟨e1, e2⟩ := allT_zip r g2
      exact ⟨by show _ :: tmps l vs = _ :: vs.zip ms; rw [e1], by rw [List.length_cons, List.length_cons, e2]⟩
theorem repNs_zip {Hf H : Hp} : ∀ {vs : List V} {ns : List N} {A : List Addr}, vs.length = ns.length → RepPs K Hf H (vs.zip ns) A → RepNs K Hf H ns vs A
  | [], [], A, _, h => by
    have h : RepPs K Hf H [] A := h
    unfold RepPs at h
    unfold RepNs
    exact ⟨rfl, h⟩
  | [], _ :: _, _, hl, _ => by simp at hl
  | _ :: _, [], _, hl, _ => by simp at hl
  | v :: vs, n :: ns, A, hl, h => by
    have h : RepPs K Hf H ((v, n) :: vs.zip ns) A := h
    unfold RepPs at h
    obtain ⟨A1, A2, e, r, t⟩ := h
    unfold RepNs
    exact ⟨v, vs, A1, A2, rfl, e, r, repNs_zip (by simpa using hl) t⟩
/-- the first ones, held together, are put into a new object -/
theorem St.pack {Fr Hf H : Hp} {qs : List (V × N)} {vs : List V} {ns : List N} {p : Addr} {o : HO} {n : N} (s : St K Fr Hf H (vs.zip ns ++ qs)) (hl : vs.length = ns.length) (hp : H p = none)
    (hn : ∀ B, RepNs K Hf (upd H p o) ns vs B → RepN K Hf (upd H p o) n (.ref p) (p :: B)) : St K Fr Hf (upd H p o) ((.ref p, n) :: qs) := by
  obtain ⟨A, r, nd, d⟩ := s.own
  obtain ⟨A1, A2, e, r1, r2⟩ := r.split
  have hB : ∀ a ∈ A1, ∃ u, H a = some u := r1.there
  refine s.right.alloc (B := A1) hp ⟨A2, r2, by rw [← e]; exact nd, by rw [← e]; exact d⟩ hB (hn A1 (RepNs.stay (Same.refl _) ns vs A1 (repNs_zip hl r1) fun a ha => ?_))
  obtain ⟨u, hu⟩ := hB a ha
  rw [upd_ne (ne_of_none hu hp)]
theorem runs_wLst {a : WA} {ta : TA} (h : RunsA K W a ta) : Runs K W (wLst a) (tLst ta) := by
  intro σ H Fr Hf env temps k x Q s c hw q hx
  refine h σ H Fr Hf env temps _ x _ s c hw (fun vals e vs Hf' H' hk sm c' so s' => ?_) hx
  obtain ⟨ns, g, hz, hk⟩ := onS_elim hk
  obtain ⟨e1, e2⟩ := allT_zip so g
  refine ⟨by rw [e2]; exact hz, fun p hp => q (.lst ns) e (.ref p) Hf' _ hk sm c' ?_⟩
  rw [e1, List.append_assoc] at s'
  refine s'.pack e2 hp fun B r => ?_
  unfold RepN
  exact ⟨p, vs, B, rfl, rfl, upd_same, r⟩
theorem runs_wTup {a : WA} {ta : TA} (h : RunsA K W a ta) : Runs K W (wTup a) (tTup ta) := by
  intro σ H Fr Hf env temps k x Q s c hw q hx
  refine h σ H Fr Hf env temps _ x _ s c hw (fun vals e vs Hf' H' hk sm c' so s' => ?_) hx
  obtain ⟨ns, g, hz, hk⟩ := onS_elim hk
  obtain ⟨e1, e2⟩ := allT_zip so g
  refine ⟨by rw [e2]; exact hz, fun p hp => q (.tup ns) e (.ref p) Hf' _ hk sm c' ?_⟩
  rw [e1, List.append_assoc] at s'
  refine s'.pack e2 hp fun B r => ?_
  unfold RepN
  exact ⟨p, vs, B, rfl, rfl, upd_same, r⟩
theorem pd_lst {es : List Expr} {a : WA} {pos : Pos} (h : PAD X W es a) : PD X W (.List es pos) (wLst a) := by
  obtain ⟨ta, a1, a2⟩ := h
  exact ⟨_, pe_lst a1, runs_wLst a2⟩
theorem pd_tup {es : List Expr} {a : WA} {x1} {pos : Pos} (h : PAD X W es a) : PD X W (.Tuple es x1 pos) (wTup a) := by
  obtain ⟨ta, a1, a2⟩ := h
  exact ⟨_, pe_tup a1, runs_wTup a2⟩
/-- an expression, frozen -/
def oF (w : WE) : WO := fun env k x => w env (fun n e => k (.t (.d n.view)) e) x
theorem runs_oF {w : WE} {te : TE} (h : Runs K W w te) : RunsO K W (oF w) te := by
  intro σ H Fr Hf env temps k x Q s c hw q hx
  refine h σ H Fr Hf env temps _ x Q s c hw (fun n env' v Hf' H' hk e c' s' => ?_) hx
  obtain ⟨Hf2, sm, s2⟩ := s'.frz
  exact q (.t (.d n.view)) env' v Hf2 H' hk (e.trans sm) c' s2
theorem po_f {e : Expr} {w : WE} (h : PD X W e w) : PDO X W e (oF w) := by
  obtain ⟨te, h1, h2⟩ := h
  exact ⟨te, h1, runs_oF h2⟩
/-! ### values by truth: and, or, not; a if t else b -/
def wAndV (o w : WE) : WE := fun env k x => o env (fun n e => onS ((flat n).bind truD) fun b => if b = true then w e k x else k n e) x
def wOrV (o w : WE) : WE := fun env k x => o env (fun n e => onS ((flat n).bind truD) fun b => if b = true then k n e else w e k x) x
def wNotV (o : WO) : WE := fun env k x => o env (fun a e => onS ((a.get e).bind flat) fun n => onS (truD n) fun b => k (.d (.bl !b)) e) x
def wIf (t : WT) (a b : WE) : WE := fun env k x => t env (fun c e => if c = true then a e k x else b e k x) x
theorem runs_andV {o w : WE} {ta tb : TE} (h1 : Runs K W o ta) (h2 : Runs K W w tb) : Runs K W (wAndV o w) (tAndT K ta tb) := by
  intro σ H Fr Hf env temps k x Q s c hw q hx
  refine h1 σ H Fr Hf env temps _ x _ s c hw (fun n e v Hf' H' hk sm c' s' => ?_) hx
  obtain ⟨b, hb, hk⟩ := onS_elim hk
  cases g : flat n with
  | none => rw [g] at hb; cases hb
  | some d =>
    rw [g, Option.bind_some] at hb
    refine ⟨b, tru_top (Fr := Fr) (s'.top List.mem_cons_self g) hb, ?_⟩
    cases b with
    | true =>
      rw [if_pos rfl] at hk ⊢
      exact h2 σ H' Fr Hf' e temps k x Q s'.tail c' hk (fun n2 e2 v2 Hf2 H2 hk sm2 c2 s2 => q n2 e2 v2 Hf2 H2 hk (sm.trans sm2) c2 s2) (hx.mono sm)
    | false =>
      rw [if_neg Bool.false_ne_true] at hk ⊢
      exact q n e v Hf' H' hk sm c' s'
theorem runs_orV {o w : WE} {ta tb : TE} (h1 : Runs K W o ta) (h2 : Runs K W w tb) : Runs K W (wOrV o w) (tOrT K ta tb) := by
  intro σ H Fr Hf env temps k x Q s c hw q hx
  refine h1 σ H Fr Hf env temps _ x _ s c hw (fun n e v Hf' H' hk sm c' s' => ?_) hx
  obtain ⟨b, hb, hk⟩ := onS_elim hk
  cases g : flat n with
  | none => rw [g] at hb; cases hb
  | some d =>
    rw [g, Option.bind_some] at hb
    refine ⟨b, tru_top (Fr := Fr) (s'.top List.mem_cons_self g) hb, ?_⟩
    cases b with
    | false =>
      rw [if_neg Bool.false_ne_true] at hk ⊢
      exact h2 σ H' Fr Hf' e temps k x Q s'.tail c' hk (fun n2 e2 v2 Hf2 H2 hk sm2 c2 s2 => q n2 e2 v2 Hf2 H2 hk (sm.trans sm2) c2 s2) (hx.mono sm)
    | true =>
      rw [if_pos rfl] at hk ⊢
      exact q n e v Hf' H' hk sm c' s'
theorem runs_notV {o : WO} {te : TE} (h : RunsO K W o te) : Runs K W (wNotV o) (tNotT K te) := by
  intro σ H Fr Hf env temps k x Q s c hw q hx
  refine h σ H Fr Hf env temps _ x _ s c hw (fun val e v Hf' H' hk sm c' vi => ?_) hx
  obtain ⟨d, hd, hk⟩ := onS_elim hk
  obtain ⟨b, hb, hk⟩ := onS_elim hk
  cases g : val.get e with
  | none => rw [g] at hd; cases hd
  | some n =>
    rw [g, Option.bind_some] at hd
    have s1 := vi.st
    have t := s1.top (get_mem vi.slot (fun n e => List.mem_append_left _ (held_mem n e)) g) hd
    rw [List.append_assoc] at s1
    exact ⟨b, tru_top (Fr := Fr) t hb, q _ e _ Hf' H' hk sm c' (s1.right.addD rep_bl)⟩
theorem runs_wIf {t : WT} {a b : WE} {tt : TT} {ta tb : TE} (h : RunsT K W t tt) (h1 : Runs K W a ta) (h2 : Runs K W b tb) : Runs K W (wIf t a b) (tIf tt ta tb) := by
  intro σ H Fr Hf env temps k x Q s c hw q hx
  refine h σ H Fr Hf env temps _ x _ s c hw (fun d e Hf' H' hk sm c' s' => ?_) hx
  cases d with
  | true =>
    rw [if_pos rfl] at hk ⊢
    exact h1 σ H' Fr Hf' e temps k x Q s' c' hk (fun n2 e2 v2 Hf2 H2 hk sm2 c2 s2 => q n2 e2 v2 Hf2 H2 hk (sm.trans sm2) c2 s2) (hx.mono sm)
  | false =>
    rw [if_neg Bool.false_ne_true] at hk ⊢
    exact h2 σ H' Fr Hf' e temps k x Q s' c' hk (fun n2 e2 v2 Hf2 H2 hk sm2 c2 s2 => q n2 e2 v2 Hf2 H2 hk (sm.trans sm2) c2 s2) (hx.mono sm)
variable {a b c : Expr} {rest : List Expr} {pos : Pos}
theorem pd_one {op} {w : WE} (h : PD X W a w) : PD X W (.BoolOp op [a] pos) w := by
  obtain ⟨te, h1, h2⟩ := h
  exact ⟨te, pe_one h1, h2⟩
theorem pd_and {o w : WE} (h : PD X W a o) (h2 : PD X W (.BoolOp .And (b :: rest) pos) w) : PD X W (.BoolOp .And (a :: b :: rest) pos) (wAndV o w) := by
  obtain ⟨ta, a1, a2⟩ := h
  obtain ⟨tb, b1, b2⟩ := h2
  exact ⟨_, pe_andT a1 b1, runs_andV a2 b2⟩
theorem pd_or {o w : WE} (h : PD X W a o) (h2 : PD X W (.BoolOp .Or (b :: rest) pos) w) : PD X W (.BoolOp .Or (a :: b :: rest) pos) (wOrV o w) := by
  obtain ⟨ta, a1, a2⟩ := h
  obtain ⟨tb, b1, b2⟩ := h2
  exact ⟨_, pe_orT a1 b1, runs_orV a2 b2⟩
theorem pd_not {o : WO} (h : PDO X W a o) : PD X W (.UnaryOp .Not a pos) (wNotV o) := by
  obtain ⟨ta, a1, a2⟩ := h
  exact ⟨_, pe_notT a1, runs_notV a2⟩
theorem pd_if {t : WT} {u w : WE} (h : PTD X W c t) (h1 : PD X W a u) (h2 : PD X W b w) : PD X W (.IfExp c a b pos) (wIf t u w) := by
  obtain ⟨tt, c1, c2⟩ := h
  obtain ⟨ta, a1, a2⟩ := h1
  obtain ⟨tb, b1, b2⟩ := h2
  exact ⟨_, pe_ifExp c1 a1 b1, runs_wIf c2 a2 b2⟩
end
/-! ### calls of what the language has -/
abbrev FL := List N → Option N
abbrev GL := List D → Option N
def wCB (f : FL) (a : WA) : WE := fun env k x => a env (fun vals e => onS (getAll e vals) fun ns => onS (f ns) fun r => k r e) x
def flats : List N → Option (List D)
  | [] => some []
  | n :: l => (flat n).bind fun d => (flats l).map (d :: ·)
def upL (g : GL) : FL := fun ns => (flats ns).bind g
def SndL (K : PySem.W.Frag) (r : List V → Hp → VK → Prop) (f : FL) : Prop := ∀ (Fr Hf H : Hp) (ps : List (V × N)) (vs : List V) (ns : List N) (m : N) (Q : VK), St K Fr Hf H ps → Paired (fun v n => (v, n) ∈ ps) vs ns → f ns = some m → Then K Fr Hf ps m Q → r vs H Q
def SdL (K : PySem.W.Frag) (r : List V → Hp → VK → Prop) (g : GL) : Prop := ∀ (Fr Hf H : Hp) (ps : List (V × N)) (vs : List V) (xs : List D) (m : N) (Q : VK), St K Fr Hf H ps → Paired (Top K Hf H) xs vs → g xs = some m → Then K Fr Hf ps m Q → r vs H Q
section
variable {K : PySem.W.Frag} {W : WX} {X : Cx}
theorem flats_top {Fr Hf H : Hp} {ps : List (V × N)} (s : St K Fr Hf H ps) : ∀ {vs : List V} {ns : List N} {xs : List D}, Paired (fun v n => (v, n) ∈ ps) vs ns → flats ns = some xs → Paired (Top K Hf H) xs vs
  | [], [], xs, .nil, g => by cases g; exact .nil
  | v :: vs, n :: ns, xs, .cons h r, g => by
    unfold flats at g
    cases g1 : flat n with
    | none => rw [g1] at g; cases g
    | some d =>
      rw [g1, Option.bind_some] at g
      cases g2 : flats ns with
      | none => rw [g2] at g; cases g
      | some ds =>
        rw [g2] at g; cases g
        exact .cons (s.top h g1) (flats_top s r g2)
theorem SdL.snd {r : List V → Hp → VK → Prop} {g : GL} (h : SdL K r g) : SndL K r (upL g) := by
  intro Fr Hf H ps vs ns m Q s hm hf q
  unfold upL at hf
  cases e : flats ns with
  | none => rw [e] at hf; cases hf
  | some xs =>
    rw [e, Option.bind_some] at hf
    exact h Fr Hf H ps vs xs m Q s (flats_top s hm e) hf q
theorem runs_cb {r : List V → Hp → VK → Prop} {f : FL} {a : WA} {ta : TA} (hr : SndL K r f) (h : RunsA K W a ta) : Runs K W (wCB f a) (tCB r ta) := by
  intro σ H Fr Hf env temps k x Q s c hw q hx
  refine h σ H Fr Hf env temps _ x _ s c hw (fun vals e vs Hf1 H1 hk sm c1 so s1 => ?_) hx
  obtain ⟨ns, g, hk⟩ := onS_elim hk
  obtain ⟨m, hf, hk⟩ := onS_elim hk
  refine hr Fr Hf1 H1 _ vs ns m _ s1 (getAll_mem so g (fun p hp => List.mem_append_left _ (List.mem_append_left _ hp)) fun p hp => List.mem_append_right _ hp) hf fun v Hf2 H2 sm2 s2 => ?_
  refine q m e v Hf2 H2 hk (sm.trans sm2) c1 ?_
  rw [List.append_assoc] at s2
  exact s2.dropM
theorem pd_callB {x : Str} {p pos : Pos} {id : String} {e : Expr} {es : List Expr} {r : List V → Hp → VK → Prop} {f : FL} {a : WA} (hc : CallR X (.builtin id) r) (hr : SndL X.K r f) (hg : Gl X x) (hm : X.mg x = none) (hv : bootBuiltins x = some (.builtin id)) (ha : PAD X W (e :: es) a)
    (hn : x ≠ "__name__" := by decide) (hdb : (x == ("__debug__" : Str)) = false := by decide) (he : starEach (e :: es) X.env = (false, eval e X.env) :: starEach es X.env := by rfl) (hpl : (backTo pos (starEach es X.env)).any (·.1) = false := by rfl) :
    PD X W (.Call (.Name x p) (e :: es) [] pos) (wCB f a) := by
  obtain ⟨ta, a1, a2⟩ := ha
  exact ⟨_, pe_callB hc hg hm hv a1 hn hdb he hpl, runs_cb hr a2⟩
theorem pd_callTy {x : Str} {p pos : Pos} {T : String} {e : Expr} {es : List Expr} {r : List V → Hp → VK → Prop} {f : FL} {a : WA} (hc : CallR X (.type T) r) (hr : SndL X.K r f) (hg : Gl X x) (hm : X.mg x = none) (hv : bootBuiltins x = some (.type T)) (ha : PAD X W (e :: es) a)
    (hn : x ≠ "__name__" := by decide) (hdb : (x == ("__debug__" : Str)) = false := by decide) (he : starEach (e :: es) X.env = (false, eval e X.env) :: starEach es X.env := by rfl) (hpl : (backTo pos (starEach es X.env)).any (·.1) = false := by rfl) :
    PD X W (.Call (.Name x p) (e :: es) [] pos) (wCB f a) := by
  obtain ⟨ta, a1, a2⟩ := ha
  exact ⟨_, pe_callTy hc hg hm hv a1 hn hdb he hpl, runs_cb hr a2⟩
end
/-! ### what the language has: functions over data -/
def allI : List D → Option (List Int)
  | [] => some []
  | .int i :: l => (allI l).map (i :: ·)
  | _ :: _ => none
def allB : List D → Option (List Bool)
  | [] => some []
  | .bl i :: l => (allB l).map (i :: ·)
  | _ :: _ => none
def allS : List D → Option (List Str)
  | [] => some []
  | .str i :: l => (allS l).map (i :: ·)
  | _ :: _ => none
@[simp] theorem allI_map (l : List Int) : allI (l.map D.int) = some l := by
  induction l with
  | nil => rfl
  | cons x l ih => rw [List.map_cons]; show (allI (l.map D.int)).map (x :: ·) = some (x :: l); rw [ih]; rfl
@[simp] theorem allB_map (l : List Bool) : allB (l.map D.bl) = some l := by
  induction l with
  | nil => rfl
  | cons x l ih => rw [List.map_cons]; show (allB (l.map D.bl)).map (x :: ·) = some (x :: l); rw [ih]; rfl
@[simp] theorem allS_map (l : List Str) : allS (l.map D.str) = some l := by
  induction l with
  | nil => rfl
  | cons x l ih => rw [List.map_cons]; show (allS (l.map D.str)).map (x :: ·) = some (x :: l); rw [ih]; rfl
section
variable {K : PySem.W.Frag} {Hf H : Hp}
theorem reps_I : ∀ {l : List D} {vs : List V} {ns : List Int}, Reps K Hf l vs → allI l = some ns → vs = ns.map V.int
  | [], vs, ns, h, g => by cases g; unfold Reps at h; exact h
  | .int i :: l, vs, ns, h, g => by
    unfold Reps at h
    obtain ⟨v, ws, e1, e2, e3⟩ := h
    unfold Rep at e2
    unfold allI at g
    cases q : allI l with
    | none => rw [q] at g; cases g
    | some ms => rw [q] at g; cases g; rw [e1, e2, reps_I e3 q]; rfl
  | .non :: _, _, _, _, g => by cases g
  | .bl _ :: _, _, _, _, g => by cases g
  | .str _ :: _, _, _, _, g => by cases g
  | .lst _ :: _, _, _, _, g => by cases g
  | .tup _ :: _, _, _, _, g => by cases g
  | .dic _ _ :: _, _, _, _, g => by cases g
  | .obj _ _ _ :: _, _, _, _, g => by cases g
  | .scr _ :: _, _, _, _, g => by cases g
  | .ext _ :: _, _, _, _, g => by cases g
theorem reps_B : ∀ {l : List D} {vs : List V} {ns : List Bool}, Reps K Hf l vs → allB l = some ns → vs = ns.map V.bl
  | [], vs, ns, h, g => by cases g; unfold Reps at h; exact h
  | .bl i :: l, vs, ns, h, g => by
    unfold Reps at h
    obtain ⟨v, ws, e1, e2, e3⟩ := h
    unfold Rep at e2
    unfold allB at g
    cases q : allB l with
    | none => rw [q] at g; cases g
    | some ms => rw [q] at g; cases g; rw [e1, e2, reps_B e3 q]; rfl
  | .non :: _, _, _, _, g => by cases g
  | .int _ :: _, _, _, _, g => by cases g
  | .str _ :: _, _, _, _, g => by cases g
  | .lst _ :: _, _, _, _, g => by cases g
  | .tup _ :: _, _, _, _, g => by cases g
  | .dic _ _ :: _, _, _, _, g => by cases g
  | .obj _ _ _ :: _, _, _, _, g => by cases g
  | .scr _ :: _, _, _, _, g => by cases g
  | .ext _ :: _, _, _, _, g => by cases g
theorem reps_S : ∀ {l : List D} {vs : List V} {ns : List Str}, Reps K Hf l vs → allS l = some ns → vs = ns.map V.str
  | [], vs, ns, h, g => by cases g; unfold Reps at h; exact h
  | .str i :: l, vs, ns, h, g => by
    unfold Reps at h
    obtain ⟨v, ws, e1, e2, e3⟩ := h
    unfold Rep at e2
    unfold allS at g
    cases q : allS l with
    | none => rw [q] at g; cases g
    | some ms => rw [q] at g; cases g; rw [e1, e2, reps_S e3 q]; rfl
  | .non :: _, _, _, _, g => by cases g
  | .int _ :: _, _, _, _, g => by cases g
  | .bl _ :: _, _, _, _, g => by cases g
  | .lst _ :: _, _, _, _, g => by cases g
  | .tup _ :: _, _, _, _, g => by cases g
  | .dic _ _ :: _, _, _, _, g => by cases g
  | .obj _ _ _ :: _, _, _, _, g => by cases g
  | .scr _ :: _, _, _, _, g => by cases g
  | .ext _ :: _, _, _, _, g => by cases g
theorem reps_ints (ns : List Int) : Reps K Hf (ns.map D.int) (ns.map V.int) := by
  induction ns with
  | nil => unfold Reps; rfl
  | cons n ns ih => rw [List.map_cons, List.map_cons]; unfold Reps; exact ⟨_, _, rfl, rep_int, ih⟩
theorem reps_strs (ns : List Str) : Reps K Hf (ns.map D.str) (ns.map V.str) := by
  induction ns with
  | nil => unfold Reps; rfl
  | cons n ns ih => rw [List.map_cons, List.map_cons]; unfold Reps; exact ⟨_, _, rfl, rep_str, ih⟩
theorem one_top {x : D} {vs : List V} (h : Paired (Top K Hf H) [x] vs) : ∃ v, vs = [v] ∧ Top K Hf H x v := by
  cases h with
  | cons a b => cases b; exact ⟨_, rfl, a⟩
theorem two_top {x y : D} {vs : List V} (h : Paired (Top K Hf H) [x, y] vs) : ∃ v w, vs = [v, w] ∧ Top K Hf H x v ∧ Top K Hf H y w := by
  cases h with
  | cons a b =>
    cases b with
    | cons c d => cases d; exact ⟨_, _, rfl, a, c⟩
end
def gLen : GL
  | [.str z] => if z.length ≤ sizeLine then some (.d (.int z.length)) else none
  | [.lst l] => some (.d (.int l.length))
  | [.tup l] => some (.d (.int l.length))
  | [.dic _ l] => some (.d (.int l.length))
  | [.scr l] => some (.d (.int l.length))
  | _ => none
def gAbs : GL
  | [.int i] => some (.d (.int (if i < 0 then -i else i)))
  | _ => none
def gInt : GL
  | [.int i] => some (.d (.int i))
  | [.bl b] => some (.d (.int (if b then 1 else 0)))
  | [.str a] => if a.length ≤ 640 then (PySem.intText? a).map fun n => .d (.int n) else none
  | _ => none
def gStr : GL
  | [.int i] => if i.natAbs.log2 < 1920 then some (.d (.str (toString i))) else none
  | _ => none
def gOrd : GL
  | [.str z] => if z.length = 1 then some (.d (.int (z.cps.getD 0 0 : Nat))) else none
  | _ => none
def gSum : GL
  | [.lst l] => (allI l).map fun ns => .d (.int ns.sum)
  | _ => none
def gAll : GL
  | [.lst l] => (allB l).map fun bs => .d (.bl (bs.all id))
  | _ => none
def gAny : GL
  | [.lst l] => (allB l).map fun bs => .d (.bl (bs.any id))
  | _ => none
def gMin : GL
  | [.int i, .int j] => some (.d (.int (if j < i then j else i)))
  | [.lst l] => (allI l).bind fun ns => ns.min?.map fun m => .d (.int m)
  | _ => none
def gMax : GL
  | [.int i, .int j] => some (.d (.int (if j > i then j else i)))
  | [.lst l] => (allI l).bind fun ns => ns.max?.map fun m => .d (.int m)
  | _ => none
def gList : GL
  | [.lst l] => some (.lst (l.map N.d))
  | [.tup l] => some (.lst (l.map N.d))
  | _ => none
def fTuple : FL := fun ns => match ns with
  | [.d (.tup l)] => some (.d (.tup l))
  | [n] => match flat n with
    | some (.lst l) => some (.tup (l.map N.d))
    | _ => none
  | _ => none
def sortI (l : List Int) : List Int := l.mergeSort (fun a b => decide (a ≤ b))
theorem sortI_eq {l m : List Int} (p : m.Perm l) (h : m.Pairwise (· ≤ ·)) : m = sortI l := by
  have h2 : (sortI l).Pairwise (· ≤ ·) := by
    have := List.pairwise_mergeSort (le := fun a b : Int => decide (a ≤ b)) (fun a b c h1 h2 => by simp at *; omega) (fun a b => by simp; omega) l
    exact this.imp fun h => by simpa using h
  exact (p.trans (List.mergeSort_perm l _).symm).eq_of_pairwise (fun a b _ _ h1 h2 => Int.le_antisymm h1 h2) h h2
def strLe (a b : Str) : Bool := !decide (b.cps.toList < a.cps.toList)
def sortS (l : List Str) : List Str := l.mergeSort strLe
def gSorted : GL
  | [.lst l] => if l.length < 64 then (allI l).map fun ns => .lst (((sortI ns).map D.int).map N.d) else none
  | _ => none
section
variable {X : Cx} {W : WX} {e : Expr} {es : List Expr} {a : WA} {p pos : Pos}
def rLenAll (K : PySem.W.Frag) : List V → Hp → VK → Prop := fun xs H Q => (∃ x n, xs = [x] ∧ LenV K x H n ∧ Q (.int n) H) ∨ ∃ a kvs, xs = [V.ref a] ∧ H a = some (.dK kvs) ∧ Q (.int kvs.length) H
theorem cr_len : CallR X (.builtin "len") (rLenAll X.K) := CallR.or call_len call_lenD
theorem sd_len : SdL X.K (rLenAll X.K) gLen := by
  intro Fr Hf H ps vs xs m Q s ht hg q
  unfold gLen at hg
  split at hg
  · obtain ⟨v, rfl, t⟩ := one_top ht
    split at hg
    · cases hg; rw [top_str t]; exact .inl ⟨_, _, rfl, ⟨by assumption, rfl⟩, q.int s⟩
    · cases hg
  · obtain ⟨v, rfl, t⟩ := one_top ht
    cases hg
    obtain ⟨p, ws, rfl, e1, r⟩ := t
    exact .inl ⟨_, _, rfl, .inl ⟨ws, SqL.of e1, rfl⟩, by rw [r.length]; exact q.int s⟩
  · obtain ⟨v, rfl, t⟩ := one_top ht
    cases hg
    obtain ⟨p, ws, rfl, e1, r⟩ := t
    exact .inl ⟨_, _, rfl, .inr ⟨ws, SqT.of e1, rfl⟩, by rw [r.length]; exact q.int s⟩
  · obtain ⟨v, rfl, t⟩ := one_top ht
    cases hg
    obtain ⟨p, kvs, rfl, e1, _, r⟩ := t
    have := r.length
    rw [List.length_map] at this
    exact .inr ⟨_, _, rfl, e1, by rw [this]; exact q.int s⟩
  · obtain ⟨v, rfl, t⟩ := one_top ht
    cases hg
    obtain ⟨p, rfl, e1⟩ := t
    exact .inl ⟨_, _, rfl, .inl ⟨_, e1, rfl⟩, by rw [List.length_map]; exact q.int s⟩
  · cases hg
theorem pd_len {x : Str} (hg : Gl X x) (hm : X.mg x = none) (hv : bootBuiltins x = some (.builtin "len")) (ha : PAD X W (e :: es) a) (hn : x ≠ "__name__" := by decide) (hdb : (x == ("__debug__" : Str)) = false := by decide)
    (he : starEach (e :: es) X.env = (false, eval e X.env) :: starEach es X.env := by rfl) (hpl : (backTo pos (starEach es X.env)).any (·.1) = false := by rfl) : PD X W (.Call (.Name x p) (e :: es) [] pos) (wCB (upL gLen) a) := pd_callB cr_len sd_len.snd hg hm hv ha hn hdb he hpl
theorem sd_abs : SdL X.K (fun xs H Q => ∃ i, xs = [.int i] ∧ Q (.int (if i < 0 then -i else i)) H) gAbs := by
  intro Fr Hf H ps vs xs m Q s ht hg q
  unfold gAbs at hg
  split at hg
  · obtain ⟨v, rfl, t⟩ := one_top ht
    cases hg; rw [top_int t]; exact ⟨_, rfl, q.int s⟩
  · cases hg
def rIntAll : List V → Hp → VK → Prop := fun xs H Q => ((∃ i, xs = [.int i] ∧ Q (.int i) H) ∨ ∃ k, xs = [.bl k] ∧ Q (.int (if k then 1 else 0)) H) ∨ ∃ a n, xs = [.str a] ∧ PySem.intText? a = some n ∧ a.length ≤ 640 ∧ Q (.int n) H
theorem cr_int : CallR X (.type "int") rIntAll := CallR.or call_int1 call_int_str
theorem sd_int : SdL X.K rIntAll gInt := by
  intro Fr Hf H ps vs xs m Q s ht hg q
  unfold gInt at hg
  split at hg
  · obtain ⟨v, rfl, t⟩ := one_top ht
    cases hg; rw [top_int t]; exact .inl (.inl ⟨_, rfl, q.int s⟩)
  · obtain ⟨v, rfl, t⟩ := one_top ht
    cases hg; rw [top_bl t]; exact .inl (.inr ⟨_, rfl, q.int s⟩)
  · obtain ⟨v, rfl, t⟩ := one_top ht
    split at hg
    · rename_i z hz
      cases g : PySem.intText? z with
      | none => rw [g] at hg; cases hg
      | some n => rw [g] at hg; cases hg; rw [top_str t]; exact .inr ⟨_, _, rfl, g, hz, q.int s⟩
    · cases hg
  · cases hg
theorem sd_str : SdL X.K (fun xs H Q => ∃ i, xs = [.int i] ∧ i.natAbs.log2 < 1920 ∧ Q (.str (toString i)) H) gStr := by
  intro Fr Hf H ps vs xs m Q s ht hg q
  unfold gStr at hg
  split at hg
  · obtain ⟨v, rfl, t⟩ := one_top ht
    split at hg
    · cases hg; rw [top_int t]; exact ⟨_, rfl, by assumption, q.str s⟩
    · cases hg
  · cases hg
theorem sd_ord : SdL X.K (fun xs H Q => ∃ x, xs = [.str x] ∧ x.length = 1 ∧ Q (.int (x.cps.getD 0 0 : Nat)) H) gOrd := by
  intro Fr Hf H ps vs xs m Q s ht hg q
  unfold gOrd at hg
  split at hg
  · obtain ⟨v, rfl, t⟩ := one_top ht
    split at hg
    · cases hg; rw [top_str t]; exact ⟨_, rfl, by assumption, q.int s⟩
    · cases hg
  · cases hg
theorem sd_sum : SdL X.K (rSum X.K) gSum := by
  intro Fr Hf H ps vs xs m Q s ht hg q
  unfold gSum at hg
  split at hg
  · obtain ⟨v, rfl, p, ws, rfl, e1, r⟩ := one_top ht
    rename_i l
    cases g : allI l with
    | none => rw [g] at hg; cases hg
    | some ns =>
      rw [g] at hg; cases hg
      rw [reps_I r g] at e1
      exact ⟨p, ns, rfl, SqL.of e1, q.int s⟩
  · cases hg
theorem sd_all : SdL X.K (rAll X.K) gAll := by
  intro Fr Hf H ps vs xs m Q s ht hg q
  unfold gAll at hg
  split at hg
  · obtain ⟨v, rfl, p, ws, rfl, e1, r⟩ := one_top ht
    rename_i l
    cases g : allB l with
    | none => rw [g] at hg; cases hg
    | some ns =>
      rw [g] at hg; cases hg
      rw [reps_B r g] at e1
      exact ⟨p, ns, rfl, SqL.of e1, q.bl s⟩
  · cases hg
theorem sd_any : SdL X.K (rAny X.K) gAny := by
  intro Fr Hf H ps vs xs m Q s ht hg q
  unfold gAny at hg
  split at hg
  · obtain ⟨v, rfl, p, ws, rfl, e1, r⟩ := one_top ht
    rename_i l
    cases g : allB l with
    | none => rw [g] at hg; cases hg
    | some ns =>
      rw [g] at hg; cases hg
      rw [reps_B r g] at e1
      exact ⟨p, ns, rfl, SqL.of e1, q.bl s⟩
  · cases hg
def rMinAll (K : PySem.W.Frag) : List V → Hp → VK → Prop := fun xs H Q => (∃ i j, xs = [.int i, .int j] ∧ Q (.int (if j < i then j else i)) H) ∨ rMin K xs H Q
def rMaxAll (K : PySem.W.Frag) : List V → Hp → VK → Prop := fun xs H Q => (∃ i j, xs = [.int i, .int j] ∧ Q (.int (if j > i then j else i)) H) ∨ rMax K xs H Q
theorem cr_minAll (hc : X.calm = true) : CallR X (.builtin "min") (rMinAll X.K) := CallR.or (call_min2 hc) (cr_min hc)
theorem cr_maxAll (hc : X.calm = true) : CallR X (.builtin "max") (rMaxAll X.K) := CallR.or (call_max2 hc) (cr_max hc)
theorem sd_min : SdL X.K (rMinAll X.K) gMin := by
  intro Fr Hf H ps vs xs m Q s ht hg q
  unfold gMin at hg
  split at hg
  · obtain ⟨v, w, rfl, t, u⟩ := two_top ht
    cases hg; rw [top_int t, top_int u]; exact .inl ⟨_, _, rfl, q.int s⟩
  · obtain ⟨v, rfl, p, ws, rfl, e1, r⟩ := one_top ht
    rename_i l
    cases g : allI l with
    | none => rw [g] at hg; cases hg
    | some ns =>
      rw [g, Option.bind_some] at hg
      cases g2 : ns.min? with
      | none => rw [g2] at hg; cases hg
      | some k =>
        rw [g2] at hg; cases hg
        rw [reps_I r g] at e1
        obtain ⟨k1, k2⟩ := List.min?_eq_some_iff.mp g2
        refine .inr ⟨p, ns, rfl, SqL.of e1, List.length_pos_of_mem k1, fun z hz hy => ?_⟩
        have : z = k := Int.le_antisymm (hy k k1) (k2 z hz)
        rw [this]
        exact q.int s
  · cases hg
theorem sd_max : SdL X.K (rMaxAll X.K) gMax := by
  intro Fr Hf H ps vs xs m Q s ht hg q
  unfold gMax at hg
  split at hg
  · obtain ⟨v, w, rfl, t, u⟩ := two_top ht
    cases hg; rw [top_int t, top_int u]; exact .inl ⟨_, _, rfl, q.int s⟩
  · obtain ⟨v, rfl, p, ws, rfl, e1, r⟩ := one_top ht
    rename_i l
    cases g : allI l with
    | none => rw [g] at hg; cases hg
    | some ns =>
      rw [g, Option.bind_some] at hg
      cases g2 : ns.max? with
      | none => rw [g2] at hg; cases hg
      | some k =>
        rw [g2] at hg; cases hg
        rw [reps_I r g] at e1
        obtain ⟨k1, k2⟩ := List.max?_eq_some_iff.mp g2
        refine .inr ⟨p, ns, rfl, SqL.of e1, List.length_pos_of_mem k1, fun z hz hy => ?_⟩
        have : z = k := Int.le_antisymm (k2 z hz) (hy k k1)
        rw [this]
        exact q.int s
  · cases hg
def rListOf (K : PySem.W.Frag) : List V → Hp → VK → Prop := fun xs H Q => ∃ p ys, xs = [.ref p] ∧ (SqL K H p ys ∨ SqT K H p ys) ∧ ∀ l, H l = none → Q (.ref l) (upd H l (.lst ys))
theorem sd_list : SdL X.K (rListOf X.K) gList := by
  intro Fr Hf H ps vs xs m Q s ht hg q
  unfold gList at hg
  split at hg
  · obtain ⟨v, rfl, p, ws, rfl, e1, r⟩ := one_top ht
    cases hg
    exact ⟨p, ws, rfl, .inl (SqL.of e1), fun l hl => q.lst s r hl⟩
  · obtain ⟨v, rfl, p, ws, rfl, e1, r⟩ := one_top ht
    cases hg
    exact ⟨p, ws, rfl, .inr (SqT.of e1), fun l hl => q.lst s r hl⟩
  · cases hg
def rTupleOf (K : PySem.W.Frag) : List V → Hp → VK → Prop := fun xs H Q => ∃ p ys, xs = [.ref p] ∧ ((SqL K H p ys ∧ ∀ l, H l = none → Q (.ref l) (upd H l (.tup ys))) ∨ (SqT K H p ys ∧ Q (.ref p) H))
theorem sd_tuple : SndL X.K (rTupleOf X.K) fTuple := by
  intro Fr Hf H ps vs ns m Q s hm hf q
  unfold fTuple at hf
  split at hf
  · cases hf
    cases hm with
    | cons h r =>
      cases r
      have t := s.memD h
      have t2 := top_of s.ex t
      obtain ⟨p, ws, rfl, e1, r⟩ := t2
      exact ⟨p, ws, rfl, .inr ⟨SqT.of e1, q.d s t⟩⟩
  · split at hf
    · rename_i hfl
      cases hf
      cases hm with
      | cons h r =>
        cases r
        obtain ⟨p, ws, rfl, e1, r⟩ := s.top h hfl
        exact ⟨p, ws, rfl, .inl ⟨SqL.of e1, fun l hl => q.tup s r hl⟩⟩
    · cases hf
  · cases hf
theorem sd_sorted : SdL X.K (rSorted X.K) gSorted := by
  intro Fr Hf H ps vs xs m Q s ht hg q
  unfold gSorted at hg
  split at hg
  · obtain ⟨v, rfl, p, ws, rfl, e1, r⟩ := one_top ht
    rename_i l
    split at hg
    · rename_i h64
      cases g : allI l with
      | none => rw [g] at hg; cases hg
      | some ns =>
        rw [g] at hg; cases hg
        have ew := reps_I r g
        have hl : ns.length < 64 := by
          have := r.length
          rw [ew, List.length_map] at this
          omega
        rw [ew] at e1
        refine ⟨p, ns, rfl, SqL.of e1, hl, fun ns' p' hp hs hn => ?_⟩
        rw [sortI_eq hp hs]
        exact q.lst s (reps_ints _) hn
    · cases hg
  · cases hg
end
/-! ### borrowing: all that is held is frozen for a while -/
def scalD : D → Bool
  | .non => true
  | .bl _ => true
  | .int _ => true
  | .str _ => true
  | _ => false
mutual
def clean : N → Bool
  | .d x => scalD x
  | .lst l => cleans l
  | .tup l => cleans l
  | .dic _ l => cleans l
  | .obj _ _ l => cleans l
  | .ext _ => true
def cleans : List N → Bool
  | [] => true
  | n :: l => clean n && cleans l
end
@[simp] theorem clean_d (x : D) : clean (.d x) = scalD x := by rw [clean]
@[simp] theorem clean_lst (l : List N) : clean (.lst l) = cleans l := by rw [clean]
@[simp] theorem clean_tup (l : List N) : clean (.tup l) = cleans l := by rw [clean]
@[simp] theorem clean_dic (ks : List Key) (l : List N) : clean (.dic ks l) = cleans l := by rw [clean]
@[simp] theorem clean_ext (φ : Addr → Heap → Prop) : clean (.ext φ) = true := by rw [clean]
@[simp] theorem clean_obj (c : Str) (fs : List Str) (l : List N) : clean (.obj c fs l) = cleans l := by rw [clean]
@[simp] theorem cleans_nil : cleans [] = true := by rw [cleans]
@[simp] theorem cleans_cons (n : N) (l : List N) : cleans (n :: l) = (clean n && cleans l) := by rw [cleans]
theorem cleans_all : ∀ l : List N, cleans l = l.all clean
  | [] => by simp
  | n :: l => by rw [cleans_cons, cleans_all l, List.all_cons]
@[simp] theorem cleans_ints (l : List Int) : cleans ((l.map D.int).map N.d) = true := by
  rw [cleans_all]; simp [scalD]
@[simp] theorem cleans_strs (l : List Str) : cleans ((l.map D.str).map N.d) = true := by
  rw [cleans_all]; simp [scalD]
@[simp] theorem scalD_non : scalD .non = true := rfl
@[simp] theorem scalD_bl (b : Bool) : scalD (.bl b) = true := rfl
@[simp] theorem scalD_int (b : Int) : scalD (.int b) = true := rfl
@[simp] theorem scalD_str (b : Str) : scalD (.str b) = true := rfl
section
variable {K : PySem.W.Frag} {Hf Hf' H : Hp}
theorem rep_scal : ∀ {x : D} {v : V}, scalD x = true → Rep K Hf x v → Rep K Hf' x v
  | .non, v, _, h => by unfold Rep at h ⊢; exact h
  | .bl _, v, _, h => by unfold Rep at h ⊢; exact h
  | .int _, v, _, h => by unfold Rep at h ⊢; exact h
  | .str _, v, _, h => by unfold Rep at h ⊢; exact h
  | .lst _, _, c, _ => by cases c
  | .tup _, _, c, _ => by cases c
  | .dic _ _, _, c, _ => by cases c
  | .obj _ _ _, _, c, _ => by cases c
  | .scr _, _, c, _ => by cases c
  | .ext _, _, c, _ => by cases c
mutual
theorem repN_clean : ∀ (n : N) (v : V) (A : List Addr), clean n = true → RepN K Hf H n v A → RepN K Hf' H n v A
  | .d x, v, A, c, h => by
    rw [clean_d] at c
    unfold RepN at h ⊢
    exact ⟨h.1, rep_scal c h.2⟩
  | .lst l, v, A, c, h => by
    rw [clean_lst] at c
    unfold RepN at h ⊢
    obtain ⟨p, vs, B, e1, e2, e3, e4⟩ := h
    exact ⟨p, vs, B, e1, e2, e3, repNs_clean l vs B c e4⟩
  | .tup l, v, A, c, h => by
    rw [clean_tup] at c
    unfold RepN at h ⊢
    obtain ⟨p, vs, B, e1, e2, e3, e4⟩ := h
    exact ⟨p, vs, B, e1, e2, e3, repNs_clean l vs B c e4⟩
  | .dic ks l, v, A, c, h => by
    rw [clean_dic] at c
    unfold RepN at h ⊢
    obtain ⟨p, vs, B, e1, e2, e3, e4, e5⟩ := h
    exact ⟨p, vs, B, e1, e2, e3, e4, repNs_clean l _ B c e5⟩
  | .obj cc fs l, v, A, c, h => by
    rw [clean_obj] at c
    unfold RepN at h ⊢
    obtain ⟨p, dx, vs, B, e1, e2, e3, e4, e5⟩ := h
    exact ⟨p, dx, vs, B, e1, e2, e3, e4, repNs_clean l _ B c e5⟩
  | .ext φ, v, A, c, h => by
    unfold RepN at h ⊢
    exact h
theorem repNs_clean : ∀ (l : List N) (vs : List V) (A : List Addr), cleans l = true → RepNs K Hf H l vs A → RepNs K Hf' H l vs A
  | [], vs, A, _, h => by unfold RepNs at h ⊢; exact h
  | n :: l, vs, A, c, h => by
    rw [cleans_cons, Bool.and_eq_true] at c
    unfold RepNs at h ⊢
    obtain ⟨v, ws, A1, A2, e1, e2, e3, e4⟩ := h
    exact ⟨v, ws, A1, A2, e1, e2, repN_clean n v A1 c.1 e3, repNs_clean l ws A2 c.2 e4⟩
end
theorem repPs_frz (e : Same Hf Hf') : ∀ {ps : List (V × N)} {A : List Addr}, RepPs K Hf H ps A → (∀ a ∈ A, Hf' a = H a) → RepPs K Hf' H (ps.map fun p => (p.1, .d p.2.view)) []
  | [], A, _, _ => by
    rw [List.map_nil]
    unfold RepPs
    rfl
  | p :: ps, A, h, k => by
    unfold RepPs at h
    obtain ⟨A1, A2, e1, r, t⟩ := h
    rw [List.map_cons]
    unfold RepPs
    refine ⟨[], [], rfl, ?_, repPs_frz e t fun a ha => k a (by rw [e1]; exact List.mem_append_right _ ha)⟩
    unfold RepN
    exact ⟨rfl, RepN.frz e p.2 p.1 A1 r fun a ha => k a (by rw [e1]; exact List.mem_append_left _ ha)⟩
/-- all is frozen; behind it, what is clean is kept and the rest is as it was -/
theorem St.frzAll {Fr : Hp} {ps : List (V × N)} (s : St K Fr Hf H ps) : ∃ Hf2, Same Hf Hf2 ∧ St K Fr Hf2 H (ps.map fun p => (p.1, .d p.2.view)) ∧
    ∀ Hf3 H' v m qs, Same Hf2 Hf3 → St K Fr Hf3 H' ((v, m) :: qs) → clean m = true → St K Fr Hf H' ((v, m) :: ps) := by
  obtain ⟨A, r, nd, d⟩ := s.own
  have sm : Same Hf (fun a => if a ∈ A then H a else Hf a) := fun a o h => by
    show (if a ∈ A then H a else Hf a) = some o
    rw [if_neg fun ha => (by rw [(d a ha).1] at h; cases h)]
    exact h
  refine ⟨fun a => if a ∈ A then H a else Hf a, sm, ⟨fun a o h => ?_, s.fr, fun a o h => ?_, [], repPs_frz sm r fun a ha => if_pos ha, List.nodup_nil, fun a ha => absurd ha List.not_mem_nil⟩, ?_⟩
  · by_cases ha : a ∈ A
    · have h' : (if a ∈ A then H a else Hf a) = some o := h
      rw [if_pos ha] at h'
      exact h'
    · have h' : (if a ∈ A then H a else Hf a) = some o := h
      rw [if_neg ha] at h'
      exact s.ex a o h'
  · show (if a ∈ A then H a else Hf a) = none
    rw [if_neg fun ha => (by rw [(d a ha).2] at h; cases h)]
    exact s.dj a o h
  · intro Hf3 H' v m qs sm3 s3 c
    obtain ⟨B, rB, ndB, dB⟩ := s3.own
    unfold RepPs at rB
    obtain ⟨B1, B2, eB, r1, r2⟩ := rB
    rw [eB] at ndB dB
    have inA : ∀ a ∈ A, ∀ o, H a = some o → Hf3 a = some o := fun a ha o ho => sm3 a o (by
      show (if a ∈ A then H a else Hf a) = some o
      rw [if_pos ha]
      exact ho)
    refine ⟨fun a o h => s3.ex a o (sm3 a o (sm a o h)), s3.fr, s.dj, B1 ++ A, ?_, ?_, fun a ha => ?_⟩
    · unfold RepPs
      refine ⟨B1, A, rfl, repN_clean m v B1 c r1, r.stay (Same.refl _) fun a ha => ?_⟩
      obtain ⟨o, ho⟩ := r.there a ha
      rw [ho]
      exact s3.ex a o (inA a ha o ho)
    · refine List.nodup_append.mpr ⟨(List.nodup_append.mp ndB).1, nd, fun a ha b hb z => ?_⟩
      subst z
      obtain ⟨o, ho⟩ := r.there a hb
      have := (dB a (List.mem_append_left _ ha)).1
      rw [inA a hb o ho] at this
      cases this
    · rcases List.mem_append.mp ha with z | z
      · refine ⟨?_, (dB a (List.mem_append_left _ z)).2⟩
        cases q : Hf a with
        | none => rfl
        | some o =>
          have := (dB a (List.mem_append_left _ z)).1
          rw [sm3 a o (sm a o q)] at this
          cases this
      · exact d a z
end
def frzE (env : Env) : Env := env.map (Option.map fun n => N.d n.view)
@[simp] theorem frzE_nil : frzE [] = [] := rfl
@[simp] theorem frzE_none (e : Env) : frzE (none :: e) = none :: frzE e := rfl
@[simp] theorem frzE_some (n : N) (e : Env) : frzE (some n :: e) = some (.d n.view) :: frzE e := rfl
theorem slots_frz : ∀ (σ : L2.St) (env : Env), slots σ (frzE env) = (slots σ env).map fun p => (p.1, .d p.2.view)
  | [], env => by cases env <;> rfl
  | x :: σ, [] => by cases x <;> rfl
  | none :: σ, y :: e => by
    have ih := slots_frz σ e
    cases y <;> exact ih
  | some v :: σ, none :: e => slots_frz σ e
  | some v :: σ, some n :: e => by
    have ih := slots_frz σ e
    show (v, N.d n.view) :: slots σ (frzE e) = (v, N.d n.view) :: _
    rw [ih]
theorem Cov.frz {σ : L2.St} {env : Env} (c : Cov σ env) : Cov σ (frzE env) := by
  refine ⟨by rw [c.len]; simp [frzE], fun i n h => ?_⟩
  unfold frzE at h
  rw [List.getElem?_map] at h
  cases e : env[i]? with
  | none => rw [e] at h; cases h
  | some o =>
    cases o with
    | none => rw [e] at h; cases h
    | some m => exact c.has i m e
def xclean (e : Exn) : Bool := e.xs.all fun | .sl _ => true | .d x => scalD x
section
variable {K : PySem.W.Frag} {W : WX} {X : Cx}
theorem paired_x {Hf Hf' : Hp} {σ : L2.St} : ∀ {xs : List XV} {vs : List V}, (xs.all fun | .sl _ => true | .d x => scalD x) = true → Paired (XRep K Hf σ) xs vs → Paired (XRep K Hf' σ) xs vs
  | [], _, _, .nil => .nil
  | .sl i :: l, _ :: _, c, .cons a r => by
    rw [List.all_cons, Bool.and_eq_true] at c
    exact .cons a (paired_x c.2 r)
  | .d x :: l, _ :: _, c, .cons a r => by
    rw [List.all_cons, Bool.and_eq_true] at c
    exact .cons (rep_scal c.1 a) (paired_x c.2 r)
def wBor (w : WE) : WE := fun env k x => w (frzE env) (fun r _ => clean r = true ∧ k r env) (fun e _ => xclean e = true ∧ x e env)
theorem runs_bor {w : WE} {te : TE} (h : Runs K W w te) : Runs K W (wBor w) te := by
  intro σ H Fr Hf env temps k x Q s c hw q hx
  obtain ⟨Hf2, sm, s2, thaw⟩ := s.frzAll
  rw [List.map_append, ← slots_frz] at s2
  refine h σ H Fr Hf2 (frzE env) _ _ _ Q s2 c.frz hw (fun n e v Hf3 H' hk sm3 c3 s3 => q n env v Hf H' hk.2 (Same.refl _) c (thaw Hf3 H' v n _ sm3 s3 hk.1)) ?_
  intro e e2 Hf3 H' cls d hk sm3 c3 s3 r
  have s4 := (thaw Hf3 H' .non (.d .non) _ sm3 (s3.addD rep_non) rfl).tail
  refine hx e env Hf H' cls d hk.2 (Same.refl _) c s4 ?_
  obtain ⟨r1, a, fv, r2, r3, r4, r5⟩ := r
  exact ⟨r1, a, fv, r2, r3, r4, paired_x hk.1 r5⟩
theorem pd_bor {e : Expr} {w : WE} (h : PD X W e w) : PD X W e (wBor w) := by
  obtain ⟨te, h1, h2⟩ := h
  exact ⟨te, h1, runs_bor h2⟩
def wBorT (t : WT) : WT := fun env k x => t (frzE env) (fun b _ => k b env) (fun e _ => xclean e = true ∧ x e env)
theorem runs_borT {t : WT} {tt : TT} (h : RunsT K W t tt) : RunsT K W (wBorT t) tt := by
  intro σ H Fr Hf env temps k x Q s c hw q hx
  obtain ⟨Hf2, sm, s2, thaw⟩ := s.frzAll
  rw [List.map_append, ← slots_frz] at s2
  refine h σ H Fr Hf2 (frzE env) _ _ _ Q s2 c.frz hw (fun b e Hf3 H' hk sm3 c3 s3 => q b env Hf H' hk (Same.refl _) c (thaw Hf3 H' .non (.d .non) _ sm3 (s3.addD rep_non) rfl).tail) ?_
  intro e e2 Hf3 H' cls d hk sm3 c3 s3 r
  have s4 := (thaw Hf3 H' .non (.d .non) _ sm3 (s3.addD rep_non) rfl).tail
  refine hx e env Hf H' cls d hk.2 (Same.refl _) c s4 ?_
  obtain ⟨r1, a, fv, r2, r3, r4, r5⟩ := r
  exact ⟨r1, a, fv, r2, r3, r4, paired_x hk.1 r5⟩
theorem pt_bor {e : Expr} {t : WT} (h : PTD X W e t) : PTD X W e (wBorT t) := by
  obtain ⟨te, h1, h2⟩ := h
  exact ⟨te, h1, runs_borT h2⟩
end

/-! ### statements -/
structure ED where
  nx : Env → Prop
  rt : N → Env → Prop
  bk : Env → Prop
  ct : Env → Prop
abbrev WS := Env → ED → XP → Prop
def FixS (fx : List Nat) (σ σ' : L2.St) : Prop := ∀ i ∈ fx, σ'[i]? = σ[i]?
theorem FixS.refl {fx : List Nat} {σ : L2.St} : FixS fx σ σ := fun _ _ => rfl
theorem FixS.trans {fx : List Nat} {a b c : L2.St} (h : FixS fx a b) (h2 : FixS fx b c) : FixS fx a c := fun i hi => (h2 i hi).trans (h i hi)
theorem FixS.set {fx : List Nat} {σ : L2.St} {i : Nat} {x : Option V} (h : i ∉ fx) : FixS fx σ (σ.set i x) := fun j hj => List.getElem?_set_ne fun e => h (by rw [e]; exact hj)
section
variable (K : PySem.W.Frag) (W : WX) (fx : List Nat)
def RunXS (Fr Hf : Hp) (σ : L2.St) (x : XP) : Prop :=
  ∀ σ' e env' Hf' H' cls d, FixS fx σ σ' → x e env' → Same Hf Hf' → Cov σ' env' → St K Fr Hf' H' (slots σ' env') → ExnRep K Hf' H' σ' e cls d → W cls d σ' H'
structure EndsOk (Fr Hf : Hp) (σ : L2.St) (E : ED) (D : Ends) : Prop where
  nx : ∀ env' σ' Hf' H', E.nx env' → FixS fx σ σ' → Same Hf Hf' → Cov σ' env' → St K Fr Hf' H' (slots σ' env') → D.nx σ' H'
  bk : ∀ env' σ' Hf' H', E.bk env' → FixS fx σ σ' → Same Hf Hf' → Cov σ' env' → St K Fr Hf' H' (slots σ' env') → D.bk σ' H'
  ct : ∀ env' σ' Hf' H', E.ct env' → FixS fx σ σ' → Same Hf Hf' → Cov σ' env' → St K Fr Hf' H' (slots σ' env') → D.ct σ' H'
  rt : ∀ n env' σ' v Hf' H', E.rt n env' → FixS fx σ σ' → Same Hf Hf' → Cov σ' env' → St K Fr Hf' H' ((v, n) :: slots σ' env') → D.rt v H'
def RunsS (w : WS) (t : TS) : Prop := ∀ (σ : L2.St) (H Fr Hf : Hp) (env : Env) (E : ED) (x : XP) (D : Ends),
  St K Fr Hf H (slots σ env) → Cov σ env → w env E x → EndsOk K fx Fr Hf σ E D → RunXS K W fx Fr Hf σ x → t D σ H
end
section
variable {K : PySem.W.Frag} {W : WX} {fx : List Nat}
theorem RunXS.x {Fr Hf : Hp} {σ : L2.St} {x : XP} (h : RunXS K W fx Fr Hf σ x) : RunX K W Fr Hf σ [] x := fun e env' Hf' H' cls d hx sm c s r => h σ e env' Hf' H' cls d FixS.refl hx sm c s r
theorem RunXS.mono {Fr Hf Hf' : Hp} {σ σ' : L2.St} {x : XP} (h : RunXS K W fx Fr Hf σ x) (e : Same Hf Hf') (f : FixS fx σ σ') : RunXS K W fx Fr Hf' σ' x :=
  fun σ2 ex env' Hf2 H' cls d f2 hx sm c s r => h σ2 ex env' Hf2 H' cls d (f.trans f2) hx (e.trans sm) c s r
theorem EndsOk.mono {Fr Hf Hf' : Hp} {σ σ' : L2.St} {E : ED} {D : Ends} (h : EndsOk K fx Fr Hf σ E D) (e : Same Hf Hf') (f : FixS fx σ σ') : EndsOk K fx Fr Hf' σ' E D :=
  ⟨fun a b c d k f2 s cv st => h.nx a b c d k (f.trans f2) (e.trans s) cv st, fun a b c d k f2 s cv st => h.bk a b c d k (f.trans f2) (e.trans s) cv st,
   fun a b c d k f2 s cv st => h.ct a b c d k (f.trans f2) (e.trans s) cv st, fun n a b v c d k f2 s cv st => h.rt n a b v c d k (f.trans f2) (e.trans s) cv st⟩
end
def PSD (X : Cx) (W : WX) (fx : List Nat) (st : Stmt) (w : WS) : Prop := ∃ t, PS X st t ∧ RunsS X.K W fx w t
def PSsD (X : Cx) (W : WX) (fx : List Nat) (sts : List Stmt) (w : WS) : Prop := ∃ t, PSs X sts t ∧ RunsS X.K W fx w t
/-! ### small statements -/
def wsNil : WS := fun env E _ => E.nx env
def wsCons (a b : WS) : WS := fun env E x => a env { E with nx := fun e => b e E x } x
def wsEx (w : WE) : WS := fun env E x => w env (fun _ e => E.nx e) x
def wsRet (w : WE) : WS := fun env E x => w env (fun n e => E.rt n e) x
def wsRetN : WS := fun env E _ => E.rt (.d .non) env
def wsIf (t : WT) (a b : WS) : WS := fun env E x => t env (fun c e => if c = true then a e E x else b e E x) x
def wsNever : WS := fun _ _ _ => False
def wsBrk : WS := fun env E _ => E.bk env
def wsCont : WS := fun env E _ => E.ct env
section
variable {K : PySem.W.Frag} {W : WX} {fx : List Nat} {X : Cx}
theorem runs_sNil : RunsS K W fx wsNil tNext := fun σ H Fr Hf env E x D s c h e _ => e.nx env σ Hf H h FixS.refl (Same.refl _) c s
theorem runs_sCons {a b : WS} {t u : TS} (h1 : RunsS K W fx a t) (h2 : RunsS K W fx b u) : RunsS K W fx (wsCons a b) (tSeq t u) := by
  intro σ H Fr Hf env E x D s c h e hx
  refine h1 σ H Fr Hf env _ x _ s c h ⟨fun env' σ' Hf' H' k f sm c' s' => ?_, e.bk, e.ct, e.rt⟩ hx
  exact h2 σ' H' Fr Hf' env' E x D s' c' k (e.mono sm f) (hx.mono sm f)
theorem runs_sEx {w : WE} {te : TE} (h : Runs K W w te) : RunsS K W fx (wsEx w) (tDrop te) := by
  intro σ H Fr Hf env E x D s c hw e hx
  exact h σ H Fr Hf env [] _ x _ s c hw (fun n env' v Hf' H' k sm c' s' => e.nx env' σ Hf' H' k FixS.refl sm c' s'.tail) hx.x
theorem runs_sRet {w : WE} {te : TE} (h : Runs K W w te) : RunsS K W fx (wsRet w) (tRet te) := by
  intro σ H Fr Hf env E x D s c hw e hx
  exact h σ H Fr Hf env [] _ x _ s c hw (fun n env' v Hf' H' k sm c' s' => e.rt n env' σ v Hf' H' k FixS.refl sm c' s') hx.x
theorem runs_sRetN : RunsS K W fx wsRetN tRetN := by
  intro σ H Fr Hf env E x D s c hw e hx
  exact e.rt _ env σ .non Hf H hw FixS.refl (Same.refl _) c (s.addD rep_non)
theorem runs_sIf {t : WT} {a b : WS} {tt : TT} {ta tb : TS} (h : RunsT K W t tt) (h1 : RunsS K W fx a ta) (h2 : RunsS K W fx b tb) : RunsS K W fx (wsIf t a b) (tIfS tt ta tb) := by
  intro σ H Fr Hf env E x D s c hw e hx
  refine h σ H Fr Hf env [] _ x _ s c hw (fun d env' Hf' H' hk sm c' s' => ?_) hx.x
  cases d with
  | true =>
    rw [if_pos rfl] at hk ⊢
    exact h1 σ H' Fr Hf' env' E x D s' c' hk (e.mono sm FixS.refl) (hx.mono sm FixS.refl)
  | false =>
    rw [if_neg Bool.false_ne_true] at hk ⊢
    exact h2 σ H' Fr Hf' env' E x D s' c' hk (e.mono sm FixS.refl) (hx.mono sm FixS.refl)
theorem runs_sNever : RunsS K W fx wsNever tNever := fun _ _ _ _ _ _ _ _ _ _ h _ _ => h.elim
theorem runs_sBrk : RunsS K W fx wsBrk tBreak := fun σ H Fr Hf env E x D s c h e _ => e.bk env σ Hf H h FixS.refl (Same.refl _) c s
theorem runs_sCont : RunsS K W fx wsCont tCont := fun σ H Fr Hf env E x D s c h e _ => e.ct env σ Hf H h FixS.refl (Same.refl _) c s
variable {st : Stmt} {rest : List Stmt} {a b : WS} {e : Expr} {w : WE} {pos : Pos}
theorem pss_dnil : PSsD X W fx [] wsNil := ⟨_, L2.pss_nil, runs_sNil⟩
theorem pss_dcons (h1 : PSD X W fx st a) (h2 : PSsD X W fx rest b) : PSsD X W fx (st :: rest) (wsCons a b) := by
  obtain ⟨t, a1, a2⟩ := h1
  obtain ⟨u, b1, b2⟩ := h2
  exact ⟨_, L2.pss_cons a1 b1, runs_sCons a2 b2⟩
theorem pss_done (h1 : PSD X W fx st a) : PSsD X W fx [st] a := by
  obtain ⟨t, a1, a2⟩ := h1
  exact ⟨_, L2.pss_one a1, a2⟩
theorem psd_expr (h : PD X W e w) (hs : swapsWith e none pos.line X.env = pure false := by rfl) : PSD X W fx (.Expr e pos) (wsEx w) := by
  obtain ⟨t, a1, a2⟩ := h
  exact ⟨_, L2.ps_expr a1 hs, runs_sEx a2⟩
theorem psd_ret (h : PD X W e w) : PSD X W fx (.Return (some e) pos) (wsRet w) := by
  obtain ⟨t, a1, a2⟩ := h
  exact ⟨_, L2.ps_ret a1, runs_sRet a2⟩
theorem psd_retN : PSD X W fx (.Return none pos) wsRetN := ⟨_, L2.ps_retN, runs_sRetN⟩
theorem psd_if {c : Expr} {p q : List Stmt} {t : WT} (h : PTD X W c t) (h1 : PSsD X W fx p a) (h2 : PSsD X W fx q b) : PSD X W fx (.If c p q pos) (wsIf t a b) := by
  obtain ⟨tt, c1, c2⟩ := h
  obtain ⟨ta, a1, a2⟩ := h1
  obtain ⟨tb, b1, b2⟩ := h2
  exact ⟨_, L2.ps_if c1 a1 b1, runs_sIf c2 a2 b2⟩
theorem psd_never : PSD X W fx st wsNever := ⟨_, L2.ps_never, runs_sNever⟩
theorem pssd_never {sts : List Stmt} : PSsD X W fx sts wsNever := ⟨_, L2.pss_never, runs_sNever⟩
theorem psd_brk : PSD X W fx (.Break pos) wsBrk := ⟨_, L2.ps_break, runs_sBrk⟩
theorem psd_cont : PSD X W fx (.Continue pos) wsCont := ⟨_, L2.ps_continue, runs_sCont⟩
theorem psd_pass : PSD X W fx (.Pass pos) wsNil := ⟨_, L2.ps_pass, runs_sNil⟩
end
/-! ### a slot is set -/
section
variable {K : PySem.W.Frag} {Fr Hf H : Hp}
theorem St.slotOut {σ : L2.St} {env : Env} {ts : List (V × N)} (s : St K Fr Hf H (ts ++ slots σ env)) (c : Cov σ env) (i : Nat) : St K Fr Hf H (ts ++ slots σ (env.set i none)) := by
  cases e : env[i]? with
  | none => rw [List.set_eq_of_length_le (List.getElem?_eq_none_iff.mp e)]; exact s
  | some o =>
    cases o with
    | none => rw [set_self e]; exact s
    | some n =>
      obtain ⟨v, hv⟩ := c.has i n e
      exact ((s.perm (List.Perm.append_left ts (slots_take hv e))).swapT).tail
/-- what is held is put into a slot -/
theorem St.put {σ : L2.St} {env : Env} {ts : List (V × N)} {v : V} {n : N} (s : St K Fr Hf H ((v, n) :: (ts ++ slots σ env))) (c : Cov σ env) (i : Nat) : St K Fr Hf H (ts ++ slots (σ.set i (some v)) (env.set i (some n))) := by
  by_cases hi : i < env.length
  · have s1 : St K Fr Hf H (((v, n) :: ts) ++ slots σ (env.set i none)) := St.slotOut (ts := (v, n) :: ts) s c i
    rw [← slots_none σ env i (some v)] at s1
    have hv : (σ.set i (some v))[i]? = some (some v) := by rw [List.getElem?_set_self (by rw [c.len]; exact hi)]
    exact (s1.swapB).perm (List.Perm.append_left ts (slots_put hi hv).symm)
  · rw [List.set_eq_of_length_le (by rw [c.len]; omega), List.set_eq_of_length_le (by omega)]
    exact s.tail
end
/-! ### targets -/
abbrev GT := N → Env → (Env → Prop) → Prop
abbrev GTs := List N → Env → (Env → Prop) → Prop
def gtNm (i : Nat) : GT := fun n env k => k (env.set i (some n))
def gtsNil : GTs := fun ns env k => ns = [] ∧ k env
def gtsCons (g : GT) (r : GTs) : GTs := fun ns env k => match ns with
  | n :: l => g n env fun e => r l e k
  | [] => False
def kids : N → Option (List N)
  | .tup l => some l
  | .lst l => some l
  | .d (.tup l) => some (l.map N.d)
  | .d (.lst l) => some (l.map N.d)
  | _ => none
@[simp] theorem kids_tup (l : List N) : kids (.tup l) = some l := rfl
@[simp] theorem kids_lst (l : List N) : kids (.lst l) = some l := rfl
@[simp] theorem kids_dtup (l : List D) : kids (.d (.tup l)) = some (l.map N.d) := rfl
@[simp] theorem kids_dlst (l : List D) : kids (.d (.lst l)) = some (l.map N.d) := rfl
def gtTp (m : Nat) (g : GTs) : GT := fun n env k => onS (kids n) fun l => l.length = m ∧ g l env k
section
variable (K : PySem.W.Frag) (ch : List Nat)
/-- only the slots of ch are changed -/
def OnlyS (σ σ' : L2.St) : Prop := σ'.length = σ.length ∧ ∀ i, i ∉ ch → σ'[i]? = σ[i]?
def RunsG (g : GT) (tg : TG) : Prop := ∀ (σ : L2.St) (H Fr Hf : Hp) (env : Env) (ts : List (V × N)) (n : N) (v : V) (k : Env → Prop) (Q : L2.St → Hp → Prop),
  St K Fr Hf H ((v, n) :: (ts ++ slots σ env)) → Cov σ env → g n env k →
  (∀ env' σ', k env' → OnlyS ch σ σ' → Cov σ' env' → St K Fr Hf H (ts ++ slots σ' env') → Q σ' H) → tg v σ H Q
def RunsGs (g : GTs) (tg : TGs) : Prop := ∀ (σ : L2.St) (H Fr Hf : Hp) (env : Env) (ts : List (V × N)) (ns : List N) (vs : List V) (k : Env → Prop) (Q : L2.St → Hp → Prop),
  St K Fr Hf H (vs.zip ns ++ (ts ++ slots σ env)) → vs.length = ns.length → Cov σ env → g ns env k →
  (∀ env' σ', k env' → OnlyS ch σ σ' → Cov σ' env' → St K Fr Hf H (ts ++ slots σ' env') → Q σ' H) → tg vs σ H Q
end
def PGD (X : Cx) (ch : List Nat) (e : Expr) (g : GT) : Prop := ∃ t, PG X e t ∧ RunsG X.K ch g t
def PGsD (X : Cx) (ch : List Nat) (es : List Expr) (g : GTs) : Prop := ∃ t, PGs X es t ∧ RunsGs X.K ch g t
section
variable {K : PySem.W.Frag} {ch : List Nat} {X : Cx}
theorem OnlyS.refl {σ : L2.St} : OnlyS ch σ σ := ⟨rfl, fun _ _ => rfl⟩
theorem OnlyS.trans {a b c : L2.St} (h : OnlyS ch a b) (h2 : OnlyS ch b c) : OnlyS ch a c := ⟨h2.1.trans h.1, fun i hi => (h2.2 i hi).trans (h.2 i hi)⟩
theorem OnlyS.fix {σ σ' : L2.St} {fx : List Nat} (h : OnlyS ch σ σ') (d : ∀ i ∈ ch, i ∉ fx) : FixS fx σ σ' := fun i hi => h.2 i fun z => d i z hi
theorem runs_gNm {i : Nat} (hi : i ∈ ch) : RunsG K ch (gtNm i) (gName i) := by
  intro σ H Fr Hf env ts n v k Q s c h q
  exact q _ _ h ⟨List.length_set, fun j hj => List.getElem?_set_ne fun e => hj (by rw [← e]; exact hi)⟩ (c.set i v _) (s.put c i)
theorem runs_gsNil : RunsGs K ch gtsNil gNil := by
  intro σ H Fr Hf env ts ns vs k Q s hl c h q
  obtain ⟨rfl, h⟩ := h
  have e : vs = [] := List.length_eq_zero_iff.mp hl
  subst e
  exact ⟨rfl, q env σ h OnlyS.refl c s⟩
theorem runs_gsCons {g : GT} {r : GTs} {t : TG} {u : TGs} (h1 : RunsG K ch g t) (h2 : RunsGs K ch r u) : RunsGs K ch (gtsCons g r) (gCons t u) := by
  intro σ H Fr Hf env ts ns vs k Q s hl c h q
  cases ns with
  | nil => exact h.elim
  | cons n l =>
    cases vs with
    | nil => simp at hl
    | cons v ws =>
      refine ⟨v, ws, rfl, ?_⟩
      have s : St K Fr Hf H ((v, n) :: ((ws.zip l ++ ts) ++ slots σ env)) := by
        rw [List.append_assoc]
        exact s
      refine h1 σ H Fr Hf env (ws.zip l ++ ts) n v _ _ s c h fun env' σ' hk o c' s' => ?_
      rw [List.append_assoc] at s'
      exact h2 σ' H Fr Hf env' ts l ws k Q s' (by simpa using hl) c' hk fun e2 σ2 k2 o2 c2 s2 => q e2 σ2 k2 (o.trans o2) c2 s2
/-- the parts of what is held -/
theorem St.parts {Fr Hf H : Hp} {v : V} {n : N} {l : List N} {qs : List (V × N)} (s : St K Fr Hf H ((v, n) :: qs)) (hk : kids n = some l) :
    ∃ p vs, v = .ref p ∧ (H p = some (.lst vs) ∨ H p = some (.tup vs)) ∧ vs.length = l.length ∧ St K Fr Hf H (vs.zip l ++ qs) := by
  obtain ⟨A, r, nd, d⟩ := s.own
  unfold RepPs at r
  obtain ⟨A1, A2, eA, r1, r2⟩ := r
  have zipR : ∀ {vs : List V} {ns : List N} {B : List Addr}, RepNs K Hf H ns vs B → RepPs K Hf H (vs.zip ns) B := by
    intro vs ns
    induction ns generalizing vs with
    | nil =>
      intro B h
      unfold RepNs at h
      rw [h.1, h.2]
      show RepPs K Hf H [] []
      unfold RepPs
      rfl
    | cons m ms ih =>
      intro B h
      unfold RepNs at h
      obtain ⟨u, us, B1, B2, e1, e2, e3, e4⟩ := h
      rw [e1]
      show RepPs K Hf H ((u, m) :: us.zip ms) B
      unfold RepPs
      exact ⟨B1, B2, e2, e3, ih e4⟩
  have put : ∀ {vs : List V} {B : List Addr} {p : Addr}, A1 = p :: B ∨ A1 = B → RepNs K Hf H l vs B → St K Fr Hf H (vs.zip l ++ qs) := by
    intro vs B p hB hr
    have sub : (B ++ A2).Sublist A := by
      rw [eA]
      rcases hB with z | z
      · rw [z]; exact List.Sublist.cons _ (List.Sublist.refl _)
      · rw [z]; exact List.Sublist.refl _
    exact ⟨s.ex, s.fr, s.dj, B ++ A2, RepPs.append (zipR hr) r2, nd.sublist sub, fun a ha => d a (sub.subset ha)⟩
  unfold kids at hk
  split at hk
  · cases hk
    unfold RepN at r1
    obtain ⟨p, vs, B, e1, e2, e3, e4⟩ := r1
    exact ⟨p, vs, e1, .inr e3, e4.length, put (.inl e2) e4⟩
  · cases hk
    unfold RepN at r1
    obtain ⟨p, vs, B, e1, e2, e3, e4⟩ := r1
    exact ⟨p, vs, e1, .inl e3, e4.length, put (.inl e2) e4⟩
  · cases hk
    unfold RepN at r1
    obtain ⟨e1, r1⟩ := r1
    unfold Rep at r1
    obtain ⟨p, vs, e2, e3, e4⟩ := r1
    exact ⟨p, vs, e2, .inr (s.ex _ _ e3), by rw [e4.length, List.length_map], put (p := p) (.inr e1) (repNs_d _ _ e4)⟩
  · cases hk
    unfold RepN at r1
    obtain ⟨e1, r1⟩ := r1
    unfold Rep at r1
    obtain ⟨p, vs, e2, e3, e4⟩ := r1
    exact ⟨p, vs, e2, .inl (s.ex _ _ e3), by rw [e4.length, List.length_map], put (p := p) (.inr e1) (repNs_d _ _ e4)⟩
  · cases hk
/-- either of two readings of a target -/
theorem PG.or {e : Expr} {t u : TG} (h1 : PG X e t) (h2 : PG X e u) : PG X e (fun v σ H Q => t v σ H Q ∨ u v σ H Q) :=
  ⟨fun pins s σ H v z Q I r h => h.elim (fun q => h1.run pins s σ H v z Q I r q) fun q => h2.run pins s σ H v z Q I r q⟩
theorem pgd_name {i : Nat} {x : Str} {pos : Pos} (hN : X.N.Nodup) (hi : X.N[i]? = some x) (hx : Loc X.env.scope x) (hm : i ∈ ch) (hf : X.fn x = true ∨ X.env.scope.names.lookup x = some .local := by first | exact .inl rfl | exact .inr rfl | assumption) : PGD X ch (.Name x pos) (gtNm i) := ⟨_, pg_name hN hi hx hf, runs_gNm hm⟩
theorem pgsd_nil : PGsD X ch [] gtsNil := ⟨_, pgs_nil, runs_gsNil⟩
theorem pgsd_cons {e : Expr} {es : List Expr} {g : GT} {r : GTs} (h1 : PGD X ch e g) (h2 : PGsD X ch es r)
    (hs : (assignEach (e :: es) X.env).map (·.2) = assign e X.env :: (assignEach es X.env).map (·.2) := by rfl) : PGsD X ch (e :: es) (gtsCons g r) := by
  obtain ⟨t, a1, a2⟩ := h1
  obtain ⟨u, b1, b2⟩ := h2
  exact ⟨_, pgs_cons a1 b1 hs, runs_gsCons a2 b2⟩
theorem pgd_tup {es : List Expr} {k : Nat} {g : GTs} {n : Nat} {pos : Pos} (hc : X.calm = true) (h : PGsD X ch es g)
    (hn : (assignEach es X.env).length = n := by rfl) (hst : (assignEach es X.env).findIdx? (·.1) = none := by rfl) : PGD X ch (.Tuple es k pos) (gtTp n g) := by
  obtain ⟨t, a1, a2⟩ := h
  refine ⟨_, PG.or (pg_tup hc a1 hn hst) (pg_unl hc a1 hn hst), ?_⟩
  intro σ H Fr Hf env ts m v k Q s c h q
  obtain ⟨l, hk, hl, h⟩ := onS_elim h
  obtain ⟨p, vs, rfl, hp, hz, s2⟩ := s.parts hk
  have go := a2 σ H Fr Hf env ts l vs k Q s2 hz c h q
  rcases hp with hp | hp
  · exact .inr ⟨p, vs, rfl, SqL.of hp, hz.trans hl, go⟩
  · exact .inl ⟨p, vs, rfl, SqT.of hp, hz.trans hl, go⟩
end
/-! ### assignments -/
def wsSet (i : Nat) (w : WE) : WS := fun env E x => w env (fun n e => E.nx (e.set i (some n))) x
def wsAsg (g : GT) (w : WE) : WS := fun env E x => w env (fun n e => g n e E.nx) x
def wsPar (i j : Nat) (a : WA) : WS := fun env E x => a env (fun vals e => onS (allT vals) fun ns => match ns with
  | [n, m] => E.nx ((e.set i (some n)).set j (some m))
  | _ => False) x
def wsPar3 (i j l : Nat) (a : WA) : WS := fun env E x => a env (fun vals e => onS (allT vals) fun ns => match ns with
  | [n, m, o] => E.nx (((e.set i (some n)).set j (some m)).set l (some o))
  | _ => False) x
section
variable {K : PySem.W.Frag} {W : WX} {fx : List Nat} {X : Cx}
theorem runs_sSet {i : Nat} {w : WE} {te : TE} (hi : i ∉ fx) (h : Runs K W w te) : RunsS K W fx (wsSet i w) (tAsg te (gName i)) := by
  intro σ H Fr Hf env E x D s c hw e hx
  exact h σ H Fr Hf env [] _ x _ s c hw (fun n env' v Hf' H' hk sm c' s' => e.nx _ _ Hf' H' hk (FixS.set hi) sm (c'.set i v _) (St.put (ts := []) s' c' i)) hx.x
theorem runs_sAsg {ch : List Nat} {g : GT} {tg : TG} {w : WE} {te : TE} (hd : ∀ i ∈ ch, i ∉ fx) (hg : RunsG K ch g tg) (h : Runs K W w te) : RunsS K W fx (wsAsg g w) (tAsg te tg) := by
  intro σ H Fr Hf env E x D s c hw e hx
  refine h σ H Fr Hf env [] _ x _ s c hw (fun n env' v Hf' H' hk sm c' s' => ?_) hx.x
  exact hg σ H' Fr Hf' env' [] n v _ _ s' c' hk fun env2 σ2 k2 o c2 s2 => e.nx env2 σ2 Hf' H' k2 (o.fix hd) sm c2 s2
theorem runs_sPar {i j : Nat} {a : WA} {ta : TA} (hi : i ∉ fx) (hj : j ∉ fx) (h : RunsA K W a ta) : RunsS K W fx (wsPar i j a) (tPar i j ta) := by
  intro σ H Fr Hf env E x D s c hw e hx
  refine h σ H Fr Hf env [] _ x _ s c hw (fun vals env' vs Hf' H' hk sm c' so s' => ?_) hx.x
  obtain ⟨ns, g, hk⟩ := onS_elim hk
  obtain ⟨e1, e2⟩ := allT_zip so g
  rw [e1, List.append_nil] at s'
  split at hk
  · rename_i n m
    match vs, e2 with
    | [v, w], _ =>
      have s1 : St K Fr Hf' H' ((v, n) :: ([(w, m)] ++ slots σ env')) := s'
      have s2 : St K Fr Hf' H' ((w, m) :: ([] ++ slots (σ.set i (some v)) (env'.set i (some n)))) := s1.put c' i
      refine ⟨v, w, rfl, e.nx _ _ Hf' H' hk ((FixS.set hi).trans (FixS.set hj)) sm ((c'.set i v _).set j w _) ?_⟩
      exact St.put (ts := []) s2 (c'.set i v _) j
  · exact hk.elim
theorem runs_sPar3 {i j l : Nat} {a : WA} {ta : TA} (hi : i ∉ fx) (hj : j ∉ fx) (hl : l ∉ fx) (h : RunsA K W a ta) : RunsS K W fx (wsPar3 i j l a) (tPar3 i j l ta) := by
  intro σ H Fr Hf env E x D s c hw e hx
  refine h σ H Fr Hf env [] _ x _ s c hw (fun vals env' vs Hf' H' hk sm c' so s' => ?_) hx.x
  obtain ⟨ns, g, hk⟩ := onS_elim hk
  obtain ⟨e1, e2⟩ := allT_zip so g
  rw [e1, List.append_nil] at s'
  split at hk
  · rename_i n m o
    match vs, e2 with
    | [v, w, u], _ =>
      have s1 : St K Fr Hf' H' ((v, n) :: ([(w, m), (u, o)] ++ slots σ env')) := s'
      have s2 : St K Fr Hf' H' ((w, m) :: ([(u, o)] ++ slots (σ.set i (some v)) (env'.set i (some n)))) := s1.put c' i
      have s3 : St K Fr Hf' H' ((u, o) :: ([] ++ slots ((σ.set i (some v)).set j (some w)) ((env'.set i (some n)).set j (some m)))) := s2.put (c'.set i v _) j
      refine ⟨v, w, u, rfl, e.nx _ _ Hf' H' hk (((FixS.set hi).trans (FixS.set hj)).trans (FixS.set hl)) sm (((c'.set i v _).set j w _).set l u _) ?_⟩
      exact St.put (ts := []) s3 ((c'.set i v _).set j w _) l
  · exact hk.elim
theorem psd_set {i : Nat} {x : Str} {e : Expr} {w : WE} {pos pos' : Pos} (hN : X.N.Nodup) (h : PD X W e w) (hi : X.N[i]? = some x := by rfl) (hf : i ∉ fx := by decide) (hx : Loc X.env.scope x := by first | exact Or.inl rfl | exact Or.inr rfl)
    (hs : swapsWith e (some (.Name x pos')) pos.line X.env = pure false := by rfl) (hfn : X.fn x = true ∨ X.env.scope.names.lookup x = some .local := by first | exact .inl rfl | exact .inr rfl | assumption) : PSD X W fx (.Assign [.Name x pos'] e pos) (wsSet i w) := by
  obtain ⟨t, a1, a2⟩ := h
  exact ⟨_, ps_set hN hi hx a1 hs hfn, runs_sSet hf a2⟩
theorem psd_asg {ch : List Nat} {tg e : Expr} {w : WE} {g : GT} {pos : Pos} (hg : PGD X ch tg g) (h : PD X W e w) (hd : ∀ i ∈ ch, i ∉ fx := by decide) (hs : swapsWithSole [tg] e pos.line X.env = pure false := by rfl) (hw : swappedStores [tg] e X.env = pure none := by rfl)
    (h1 : (assignEach [tg] X.env).map (·.2) = [assign tg X.env] := by rfl) : PSD X W fx (.Assign [tg] e pos) (wsAsg g w) := by
  obtain ⟨t, a1, a2⟩ := h
  obtain ⟨u, b1, b2⟩ := hg
  exact ⟨_, ps_asg a1 b1 hs hw h1, runs_sAsg hd b2 a2⟩
theorem psd_par (i j : Nat) {x y : Str} {a b : Expr} {wa : WA} {px py pt pos : Pos} {kt k2 pt2} (hc : X.calm = true) (hN : X.N.Nodup) (ha : PAD X W [a, b] wa) (hi : X.N[i]? = some x := by rfl) (hj : X.N[j]? = some y := by rfl) (hij : i ≠ j := by decide)
    (hfi : i ∉ fx := by decide) (hfj : j ∉ fx := by decide) (hx : X.env.scope.names.lookup x = some .local := by rfl) (hy : X.env.scope.names.lookup y = some .local := by rfl)
    (hw : swappedStores [.Tuple [.Name x px, .Name y py] kt pt] (.Tuple [a, b] k2 pt2) X.env = pure (some [x, y]) := by rfl)
    (hs : swapsWithSole [.Tuple [.Name x px, .Name y py] kt pt] (.Tuple [a, b] k2 pt2) pos.line X.env = pure false := by rfl) :
    PSD X W fx (.Assign [.Tuple [.Name x px, .Name y py] kt pt] (.Tuple [a, b] k2 pt2) pos) (wsPar i j wa) := by
  obtain ⟨t, a1, a2⟩ := ha
  exact ⟨_, ps_par hc hN hi hj hij hx hy a1 hw hs, runs_sPar hfi hfj a2⟩
theorem psd_par3 (i j l : Nat) {x y z : Str} {a b c : Expr} {wa : WA} {px py pz pt pos : Pos} {kt k2 pt2} (hc : X.calm = true) (hN : X.N.Nodup) (ha : PAD X W [a, b, c] wa) (hi : X.N[i]? = some x := by rfl) (hj : X.N[j]? = some y := by rfl) (hl : X.N[l]? = some z := by rfl) (hij : i ≠ j := by decide) (hil : i ≠ l := by decide) (hjl : j ≠ l := by decide)
    (hfi : i ∉ fx := by decide) (hfj : j ∉ fx := by decide) (hfl : l ∉ fx := by decide) (hx : X.env.scope.names.lookup x = some .local := by rfl) (hy : X.env.scope.names.lookup y = some .local := by rfl) (hz : X.env.scope.names.lookup z = some .local := by rfl)
    (hw : swappedStores [.Tuple [.Name x px, .Name y py, .Name z pz] kt pt] (.Tuple [a, b, c] k2 pt2) X.env = pure (some [x, y, z]) := by rfl)
    (hs : swapsWithSole [.Tuple [.Name x px, .Name y py, .Name z pz] kt pt] (.Tuple [a, b, c] k2 pt2) pos.line X.env = pure false := by rfl) :
    PSD X W fx (.Assign [.Tuple [.Name x px, .Name y py, .Name z pz] kt pt] (.Tuple [a, b, c] k2 pt2) pos) (wsPar3 i j l wa) := by
  obtain ⟨t, a1, a2⟩ := ha
  exact ⟨_, ps_par3 hc hN hi hj hl hij hil hjl hx hy hz a1 hw hs, runs_sPar3 hfi hfj hfl a2⟩
end
/-! ### what a loop walks -/
abbrev WI := Env → (List D → Env → Prop) → XP → Prop
structure ItOk (K : PySem.W.Frag) (Hf : Hp) (J : It) (l : List D) : Prop where
  go : ∀ i H, Same Hf H → i < l.length → J.go i H
  stop : ∀ H, Same Hf H → J.stop l.length H
  yld : ∀ i H v H' d Fr Hf1 ps, Same Hf Hf1 → St K Fr Hf1 H ps → J.yld i H v H' → l[i]? = some d → ∃ Hf2, Same Hf1 Hf2 ∧ St K Fr Hf2 H' ((v, .d d) :: ps)
theorem ItOk.mono {K : PySem.W.Frag} {Hf Hf' : Hp} {J : It} {l : List D} (h : ItOk K Hf J l) (e : Same Hf Hf') : ItOk K Hf' J l :=
  ⟨fun i H s hi => h.go i H (e.trans s) hi, fun H s => h.stop H (e.trans s), fun i H v H' d Fr Hf1 ps s => h.yld i H v H' d Fr Hf1 ps (e.trans s)⟩
def RunsI (K : PySem.W.Frag) (W : WX) (wi : WI) (ti : TI) : Prop := ∀ (σ : L2.St) (H Fr Hf : Hp) (env : Env) (ts : List (V × N)) (k : List D → Env → Prop) (x : XP) (R : It → Hp → Prop),
  St K Fr Hf H (ts ++ slots σ env) → Cov σ env → wi env k x →
  (∀ l env' J Hf' H', k l env' → Same Hf Hf' → Cov σ env' → St K Fr Hf' H' (ts ++ slots σ env') → ItOk K Hf' J l → R J H') → RunX K W Fr Hf σ ts x → ti σ H R
def PID (X : Cx) (W : WX) (tg e : Expr) (wi : WI) : Prop := ∃ ti, PI X tg e ti ∧ RunsI X.K W wi ti
def seqOf : D → Option (List D)
  | .lst l => some l
  | .tup l => some l
  | .scr ns => some (ns.map D.int)
  | _ => none
@[simp] theorem seqOf_lst (l : List D) : seqOf (.lst l) = some l := rfl
@[simp] theorem seqOf_tup (l : List D) : seqOf (.tup l) = some l := rfl
@[simp] theorem seqOf_scr (l : List Int) : seqOf (.scr l) = some (l.map D.int) := rfl
/-- a list or a tuple, frozen -/
def iSeq (w : WE) : WI := fun env k x => w env (fun n e => onS (seqOf n.view) fun l => k l e) x
def rangeD (lo : Int) (n : Nat) : List D := (List.range n).map fun i => .int (lo + (i : Nat))
def iRg1 (a : WA) : WI := fun env k x => a env (fun vals e => onS (getAll e vals) fun ns => match ns with
  | [.d (.int j)] => (-(2 ^ 62) ≤ j ∧ j < 2 ^ 62) ∧ k (rangeD 0 j.toNat) e
  | _ => False) x
def iRg2 (a : WA) : WI := fun env k x => a env (fun vals e => onS (getAll e vals) fun ns => match ns with
  | [.d (.int i), .d (.int j)] => (-(2 ^ 62) ≤ i ∧ i < 2 ^ 62 ∧ -(2 ^ 62) ≤ j ∧ j < 2 ^ 62) ∧ k (rangeD i (j - i).toNat) e
  | _ => False) x
def enumD (l : List D) : List D := l.mapIdx fun i d => .tup [.int (i : Nat), d]
def iEnm (w : WE) : WI := fun env k x => w env (fun n e => match n.view with
  | .lst l => k (enumD l) e
  | _ => False) x
section
variable {K : PySem.W.Frag} {W : WX} {X : Cx}
theorem rep_seq {Hf : Hp} {d : D} {v : V} {l : List D} (h : Rep K Hf d v) (e : seqOf d = some l) : ∃ p vs, v = .ref p ∧ (SqL K Hf p vs ∨ SqT K Hf p vs) ∧ Reps K Hf l vs := by
  unfold seqOf at e
  split at e
  · cases e
    unfold Rep at h
    obtain ⟨p, vs, e1, e2, e3⟩ := h
    exact ⟨p, vs, e1, .inl (SqL.of e2), e3⟩
  · cases e
    unfold Rep at h
    obtain ⟨p, vs, e1, e2, e3⟩ := h
    exact ⟨p, vs, e1, .inr (SqT.of e2), e3⟩
  · cases e
    unfold Rep at h
    obtain ⟨p, e1, e2⟩ := h
    exact ⟨p, _, e1, .inl e2, reps_ints _⟩
  · cases e
theorem sqT_mono {Hf H : Hp} {p : Addr} {vs : List V} (e : Same Hf H) (h : SqT K Hf p vs) : SqT K H p vs := by
  rcases h with h | h
  · rcases h with h | ⟨o, h⟩
    · exact .inl (.inl (e _ _ h))
    · exact .inl (.inr ⟨o, e _ _ h⟩)
  · exact .inr h
theorem itOk_list {Hf : Hp} {a : Addr} {vs : List V} {l : List D} (h : SqL K Hf a vs) (r : Reps K Hf l vs) : ItOk K Hf (Itl K a) l := by
  have hl := r.length
  refine ⟨fun i H s hi => ⟨vs, vs[i]'(by omega), same_seq s h, by simp [hl, hi]⟩, fun H s => ⟨vs, same_seq s h, by omega⟩, fun i H v H' d Fr Hf1 ps s st y hd => ?_⟩
  obtain ⟨rfl, y⟩ := y
  have q := y vs (same_seq (s.trans st.ex) h)
  obtain ⟨d', e1, e2⟩ := r.get' q
  rw [hd] at e1
  cases e1
  exact ⟨Hf1, Same.refl _, st.addD (Rep.mono s _ _ e2)⟩
theorem itOk_tup {Hf : Hp} {a : Addr} {vs : List V} {l : List D} (h : SqT K Hf a vs) (r : Reps K Hf l vs) : ItOk K Hf (Itt K a) l := by
  have hl := r.length
  refine ⟨fun i H s hi => ⟨vs, vs[i]'(by omega), sqT_mono s h, by simp [hl, hi]⟩, fun H s => ⟨vs, sqT_mono s h, by omega⟩, fun i H v H' d Fr Hf1 ps s st y hd => ?_⟩
  obtain ⟨rfl, y⟩ := y
  have q := y vs (sqT_mono (s.trans st.ex) h)
  obtain ⟨d', e1, e2⟩ := r.get' q
  rw [hd] at e1
  cases e1
  exact ⟨Hf1, Same.refl _, st.addD (Rep.mono s _ _ e2)⟩
theorem itOk_range {Hf : Hp} {lo : Int} {n : Nat} : ItOk K Hf (Itr lo n) (rangeD lo n) := by
  refine ⟨fun i H s hi => ?_, fun H s => ?_, fun i H v H' d Fr Hf1 ps s st y hd => ?_⟩
  · show i < n
    simpa [rangeD] using hi
  · show n ≤ (rangeD lo n).length
    simp [rangeD]
  · obtain ⟨rfl, rfl⟩ := y
    unfold rangeD at hd
    rw [List.getElem?_map] at hd
    have hi : i < n := by
      by_cases hi : i < n
      · exact hi
      · rw [List.getElem?_eq_none (by simpa using hi)] at hd; cases hd
    rw [List.getElem?_range hi] at hd
    cases hd
    exact ⟨Hf1, Same.refl _, st.addD rep_int⟩
theorem itOk_enum {Hf : Hp} {a : Addr} {vs : List V} {l : List D} (h : SqL K Hf a vs) (r : Reps K Hf l vs) : ItOk K Hf (Ite K a) (enumD l) := by
  have hl := r.length
  have wk := walk_enum (K := K) (a := a) (xs := vs)
  have hz : (enumD l).length = vs.length := by simp [enumD, hl]
  refine ⟨fun i H s hi => wk.goes i H (by omega) (same_seq s h), fun H s => by rw [hz]; exact wk.stops H (same_seq s h), fun i H v H' d Fr Hf1 ps s st y hd => ?_⟩
  have hi : i < vs.length := by rw [← hz]; exact lt_of_get hd
  obtain ⟨T, x, z, rfl, h2, rfl, h4, h5⟩ := wk.yields i H v H' hi (same_seq (s.trans st.ex) h) y
  cases h4
  obtain ⟨d', e1, e2⟩ := r.get' h5
  unfold enumD at hd
  rw [List.getElem?_mapIdx, e1] at hd
  cases hd
  have rr : Reps K Hf1 [.int (i : Nat), d'] [.int (i : Nat), z] := by
    unfold Reps
    refine ⟨_, _, rfl, rep_int, ?_⟩
    unfold Reps
    refine ⟨_, _, rfl, Rep.mono s _ _ e2, ?_⟩
    unfold Reps
    rfl
  obtain ⟨Hf2, sm, s2⟩ := (st.newT h2 rr).frz
  refine ⟨Hf2, sm, ?_⟩
  simpa using s2
def tSeqI (K : PySem.W.Frag) (tl : TE) : TI := fun σ H R => tl σ H fun x H1 => ∃ a, x = .ref a ∧ (((∃ xs, SqL K H1 a xs) ∧ R (Itl K a) H1) ∨ ((∃ xs, SqT K H1 a xs) ∧ R (Itt K a) H1))
/-- one rule for both -/
theorem pi_seq {tg e : Expr} {tl : TE} (hl : PE X e tl) : PI X tg e (tSeqI X.K tl) := by
  refine ⟨fun pins sh sl Hp R I hw => ?_⟩
  refine thn (hl.run pins sh sl Hp _ I hw) fun u s1 ⟨y, H1, I1, r1, q1⟩ => ?_
  obtain ⟨a, rfl, q⟩ := q1
  cases r1
  have fresh : ∀ b ∈ [s1.heap.objs.size], FpOk X pins H1 b := fun b hb => by
    rw [List.mem_singleton.mp hb]
    exact I1.fpOk (Nat.le_refl _) (I1.hok.fresh (Nat.le_refl _))
  have keep : ∀ ob, Inv X pins sl H1 { s1 with heap := s1.heap.push ob } := fun ob => I1.kept (t' := s1.toks) fun b o e => Heap.get?_push_of_some _ e
  rcases q with ⟨⟨xs, hq⟩, q⟩ | ⟨⟨xs, hq⟩, q⟩
  · obtain ⟨its, _, pl, _⟩ := I1.list hq
    exact wpAny_pyIter_list pl.isList ⟨_, [s1.heap.objs.size], _, _, H1, rfl, keep _, turn_list a _, ⟨_, Heap.get?_push_size _ rfl, rfl, rfl⟩, fresh, q⟩
  · obtain ⟨its, _, pl, _⟩ := I1.tuple hq
    exact wpAny_pyIter_tuple (show s1.heap.IsTuple a its.toArray from pl) ⟨_, [s1.heap.objs.size], _, _, H1, rfl, keep _, turn_tuple a _, ⟨_, Heap.get?_push_size _ rfl, rfl, rfl⟩, fresh, q⟩
theorem runs_iSeq {w : WE} {te : TE} (h : Runs K W w te) : RunsI K W (iSeq w) (tSeqI K te) := by
  intro σ H Fr Hf env ts k x R s c hw q hx
  refine h σ H Fr Hf env ts _ x _ s c hw (fun n e v Hf' H' hk sm c' s' => ?_) hx
  obtain ⟨l, hl, hk⟩ := onS_elim hk
  obtain ⟨Hf2, sm2, s2⟩ := s'.frz
  have rp := s2.memD List.mem_cons_self
  obtain ⟨p, vs, rfl, hs, rs⟩ := rep_seq rp hl
  rcases hs with hs | hs
  · exact ⟨p, rfl, .inl ⟨⟨vs, same_seq s2.ex hs⟩, q l e _ Hf2 H' hk (sm.trans sm2) c' s2.tail (itOk_list hs rs)⟩⟩
  · exact ⟨p, rfl, .inr ⟨⟨vs, sqT_mono s2.ex hs⟩, q l e _ Hf2 H' hk (sm.trans sm2) c' s2.tail (itOk_tup hs rs)⟩⟩
theorem pid_seq {tg e : Expr} {w : WE} (h : PD X W e w) : PID X W tg e (iSeq w) := by
  obtain ⟨t, a1, a2⟩ := h
  exact ⟨_, pi_seq a1, runs_iSeq a2⟩
theorem one_int {Fr Hf H : Hp} {ps : List (V × N)} {vs : List V} {j : Int} (s : St K Fr Hf H ps) (h : Paired (fun v n => (v, n) ∈ ps) vs [N.d (.int j)]) : vs = [.int j] := by
  cases h with
  | cons a b =>
    cases b
    have := s.memD a
    unfold Rep at this
    rw [this]
theorem two_int {Fr Hf H : Hp} {ps : List (V × N)} {vs : List V} {i j : Int} (s : St K Fr Hf H ps) (h : Paired (fun v n => (v, n) ∈ ps) vs [N.d (.int i), N.d (.int j)]) : vs = [.int i, .int j] := by
  cases h with
  | cons a b =>
    have := s.memD a
    unfold Rep at this
    rw [this, one_int s b]
theorem runs_iRg1 {a : WA} {ta : TA} (h : RunsA K W a ta) : RunsI K W (iRg1 a) (iRng1 ta) := by
  intro σ H Fr Hf env ts k x R s c hw q hx
  refine h σ H Fr Hf env ts _ x _ s c hw (fun vals e vs Hf1 H1 hk sm c1 so s1 => ?_) hx
  obtain ⟨ns, g, hk⟩ := onS_elim hk
  have pm := getAll_mem (qs := (tmps vals vs ++ ts) ++ slots σ e) so g (fun p hp => List.mem_append_left _ (List.mem_append_left _ hp)) fun p hp => List.mem_append_right _ hp
  have s1b := s1
  split at hk
  · rename_i j
    rw [List.append_assoc] at s1
    exact ⟨j, one_int s1b pm, hk.1.1, hk.1.2, q _ e _ Hf1 H1 hk.2 sm c1 s1.right itOk_range⟩
  · exact hk.elim
theorem runs_iRg2 {a : WA} {ta : TA} (h : RunsA K W a ta) : RunsI K W (iRg2 a) (iRng2 ta) := by
  intro σ H Fr Hf env ts k x R s c hw q hx
  refine h σ H Fr Hf env ts _ x _ s c hw (fun vals e vs Hf1 H1 hk sm c1 so s1 => ?_) hx
  obtain ⟨ns, g, hk⟩ := onS_elim hk
  have pm := getAll_mem (qs := (tmps vals vs ++ ts) ++ slots σ e) so g (fun p hp => List.mem_append_left _ (List.mem_append_left _ hp)) fun p hp => List.mem_append_right _ hp
  have s1b := s1
  split at hk
  · rename_i i j
    rw [List.append_assoc] at s1
    exact ⟨i, j, two_int s1b pm, hk.1, q _ e _ Hf1 H1 hk.2 sm c1 s1.right itOk_range⟩
  · exact hk.elim
theorem pid_range1 {tg a : Expr} {wa : WA} {p pos : Pos} (hg : Gl X "range") (hm : X.mg "range" = none) (ha : PAD X W [a] wa) (hs : starEach [a] X.env = [(false, eval a X.env)] := by rfl) : PID X W tg (.Call (.Name "range" p) [a] [] pos) (iRg1 wa) := by
  obtain ⟨t, a1, a2⟩ := ha
  exact ⟨_, pi_range1 hg hm a1 hs, runs_iRg1 a2⟩
theorem pid_range2 {tg a b : Expr} {wa : WA} {p pos : Pos} (hg : Gl X "range") (hm : X.mg "range" = none) (ha : PAD X W [a, b] wa) (hs : starEach [a, b] X.env = [(false, eval a X.env), (false, eval b X.env)] := by rfl) (hs2 : starEach [b] X.env = [(false, eval b X.env)] := by rfl) :
    PID X W tg (.Call (.Name "range" p) [a, b] [] pos) (iRg2 wa) := by
  obtain ⟨t, a1, a2⟩ := ha
  exact ⟨_, pi_range2 hg hm a1 hs hs2, runs_iRg2 a2⟩
theorem runs_iEnm {w : WE} {te : TE} (h : Runs K W w te) : RunsI K W (iEnm w) (iEnum K (tCons te tNil)) := by
  intro σ H Fr Hf env ts k x R s c hw q hx
  refine h σ H Fr Hf env ts _ x _ s c hw (fun n e v Hf' H' hk sm c' s' => ?_) hx
  split at hk
  · rename_i l hl
    obtain ⟨Hf2, sm2, s2⟩ := s'.frz
    have rp := s2.memD List.mem_cons_self
    rw [hl] at rp
    unfold Rep at rp
    obtain ⟨p, vs, rfl, e2, e3⟩ := rp
    exact ⟨p, vs, rfl, same_seq s2.ex (SqL.of e2), q _ e _ Hf2 H' hk (sm.trans sm2) c' s2.tail (itOk_enum (SqL.of e2) e3)⟩
  · exact hk.elim
theorem pid_enum {elts : List Expr} {kk : Nat} {e : Expr} {w : WE} {p pos tpos : Pos} (hg : Gl X "enumerate") (hm : X.mg "enumerate" = none) (h : PD X W e w) (hs : starEach [e] X.env = [(false, eval e X.env)] := by rfl) : PID X W (.Tuple elts kk tpos) (.Call (.Name "enumerate" p) [e] [] pos) (iEnm w) := by
  obtain ⟨t, a1, a2⟩ := h
  exact ⟨_, pi_enum hg hm (L2.pa_cons a1 L2.pa_nil hs) hs, runs_iEnm a2⟩
end
/-! ### for -/
def forL (g : GT) (b : WS) (x : XP) : List D → Env → ED → Prop
  | [], env, E => E.nx env
  | d :: l, env, E => g (.d d) env fun e1 => b e1 { E with nx := fun e2 => forL g b x l e2 E, ct := fun e2 => forL g b x l e2 E, bk := E.nx } x
def wsFor (wi : WI) (g : GT) (b : WS) : WS := fun env E x => wi env (fun l e => forL g b x l e E) x
section
variable {K : PySem.W.Frag} {W : WX} {fx : List Nat} {X : Cx}
theorem runs_sFor {ch : List Nat} {wi : WI} {g : GT} {b : WS} {ti : TI} {tg : TG} {tb : TS} (hd : ∀ i ∈ ch, i ∉ fx) (hi : RunsI K W wi ti) (hg : RunsG K ch g tg) (hb : RunsS K W fx b tb) : RunsS K W fx (wsFor wi g b) (tFor ti tg tb) := by
  intro σ H Fr Hf env E x D s c hw e hx
  refine hi σ H Fr Hf env [] _ x _ s c hw (fun l env' J Hf' H' hk sm c' s' ok => ?_) hx.x
  refine ⟨fun i m σ1 H1 => m = l.length - i ∧ i ≤ l.length ∧ ∃ env1 Hf1, Same Hf' Hf1 ∧ FixS fx σ σ1 ∧ Cov σ1 env1 ∧ St K Fr Hf1 H1 (slots σ1 env1) ∧ forL g b x (l.drop i) env1 E, ⟨l.length, by simp, Nat.zero_le _, env', Hf', Same.refl _, FixS.refl, c', s', hk⟩, ?_⟩
  rintro i m σ1 H1 ⟨rfl, hi, env1, Hf1, sm1, f1, c1, s1, h1⟩
  have e1 := e.mono (sm.trans sm1) f1
  have x1 := hx.mono (sm.trans sm1) f1
  by_cases hlt : i < l.length
  · rw [List.drop_eq_getElem_cons hlt] at h1
    refine .inr ⟨ok.go i H1 (sm1.trans s1.ex) hlt, fun σ' H' => (i + 1 ≤ l.length ∧ ∃ env1 Hf1, Same Hf' Hf1 ∧ FixS fx σ σ1 ∧ FixS fx σ σ' ∧ Cov σ' env1 ∧ St K Fr Hf1 H' (slots σ' env1) ∧ forL g b x (l.drop (i + 1)) env1 E), ?_, ?_⟩
    · rintro σ' H2 ⟨h2, e2, Hf2, a1, _, a2, a3, a4, a5⟩
      exact ⟨l.length - (i + 1), by omega, rfl, h2, e2, Hf2, a1, a2, a3, a4, a5⟩
    · intro v H2 y
      obtain ⟨Hf2, sm2, s2⟩ := ok.yld i H1 v H2 l[i] Fr Hf1 _ sm1 s1 y (by simp [hlt])
      refine hg σ1 H2 Fr Hf2 env1 [] _ v _ _ s2 c1 h1 fun env3 σ3 k3 o3 c3 s3 => ?_
      have f3 : FixS fx σ1 σ3 := o3.fix hd
      refine hb σ3 H2 Fr Hf2 env3 _ x _ s3 c3 k3 ⟨fun env4 σ4 Hf4 H4 k4 f4 sm4 c4 s4 => ?_, fun env4 σ4 Hf4 H4 k4 f4 sm4 c4 s4 => ?_, fun env4 σ4 Hf4 H4 k4 f4 sm4 c4 s4 => ?_, fun n env4 σ4 v Hf4 H4 k4 f4 sm4 c4 s4 => ?_⟩ (x1.mono sm2 f3)
      · exact ⟨hlt, env4, Hf4, (sm1.trans sm2).trans sm4, f1, (f1.trans f3).trans f4, c4, s4, k4⟩
      · exact e1.nx env4 σ4 Hf4 H4 k4 (f3.trans f4) (sm2.trans sm4) c4 s4
      · exact ⟨hlt, env4, Hf4, (sm1.trans sm2).trans sm4, f1, (f1.trans f3).trans f4, c4, s4, k4⟩
      · exact e1.rt n env4 σ4 v Hf4 H4 k4 (f3.trans f4) (sm2.trans sm4) c4 s4
  · have hE : i = l.length := by omega
    subst hE
    rw [List.drop_length] at h1
    exact .inl ⟨ok.stop H1 (sm1.trans s1.ex), e1.nx env1 σ1 Hf1 H1 h1 FixS.refl (Same.refl _) c1 s1⟩
theorem psd_for {ch : List Nat} {tg iter : Expr} {body : List Stmt} {wi : WI} {g : GT} {b : WS} {pos : Pos} (hp : PassesOwn (model X.prog X.w) X.A X.env X.xe) (hc : X.calm = true) (hi : PID X W tg iter wi) (hg : PGD X ch tg g) (hb : PSsD X W fx body b) (hd : ∀ i ∈ ch, i ∉ fx := by decide)
    (hs : ∀ x, foldedSetIterable iter X.env x = pure x := by intro _; rfl) : PSD X W fx (.For tg iter body [] pos) (wsFor wi g b) := by
  obtain ⟨ti, a1, a2⟩ := hi
  obtain ⟨tg', b1, b2⟩ := hg
  obtain ⟨tb, c1, c2⟩ := hb
  exact ⟨_, ps_for hp hc a1 b1 c1 hs, runs_sFor hd a2 b2 c2⟩
end

/-! ### the reading that a word determines -/
section
variable (K : PySem.W.Frag) (W : WX)
def teOf (w : WE) : TE := fun σ H Q => ∃ Fr Hf env ts k x, St K Fr Hf H (ts ++ slots σ env) ∧ Cov σ env ∧ w env k x ∧
  (∀ n env' v Hf' H', k n env' → Same Hf Hf' → Cov σ env' → St K Fr Hf' H' ((v, n) :: (ts ++ slots σ env')) → Q v H') ∧ RunX K W Fr Hf σ ts x
def ttOf (w : WT) : TT := fun σ H Q => ∃ Fr Hf env ts k x, St K Fr Hf H (ts ++ slots σ env) ∧ Cov σ env ∧ w env k x ∧
  (∀ b env' Hf' H', k b env' → Same Hf Hf' → Cov σ env' → St K Fr Hf' H' (ts ++ slots σ env') → Q b H') ∧ RunX K W Fr Hf σ ts x
def tgOf (ch : List Nat) (g : GT) : TG := fun v σ H Q => ∃ Fr Hf env ts n k, St K Fr Hf H ((v, n) :: (ts ++ slots σ env)) ∧ Cov σ env ∧ g n env k ∧
  (∀ env' σ', k env' → OnlyS ch σ σ' → Cov σ' env' → St K Fr Hf H (ts ++ slots σ' env') → Q σ' H)
def tiOf (wi : WI) : TI := fun σ H R => ∃ Fr Hf env ts k x, St K Fr Hf H (ts ++ slots σ env) ∧ Cov σ env ∧ wi env k x ∧
  (∀ l env' J Hf' H', k l env' → Same Hf Hf' → Cov σ env' → St K Fr Hf' H' (ts ++ slots σ env') → ItOk K Hf' J l → R J H') ∧ RunX K W Fr Hf σ ts x
end
section
variable {K : PySem.W.Frag} {W : WX} {X : Cx}
theorem runs_teOf {w : WE} : Runs K W w (teOf K W w) := fun _ _ Fr Hf env ts k x _ s c hw q hx => ⟨Fr, Hf, env, ts, k, x, s, c, hw, q, hx⟩
theorem runs_ttOf {w : WT} : RunsT K W w (ttOf K W w) := fun _ _ Fr Hf env ts k x _ s c hw q hx => ⟨Fr, Hf, env, ts, k, x, s, c, hw, q, hx⟩
theorem runs_tgOf {ch : List Nat} {g : GT} : RunsG K ch g (tgOf K ch g) := fun _ _ Fr Hf env ts n _ k _ s c hw q => ⟨Fr, Hf, env, ts, n, k, s, c, hw, q⟩
theorem runs_tiOf {wi : WI} : RunsI K W wi (tiOf K W wi) := fun _ _ Fr Hf env ts k x _ s c hw q hx => ⟨Fr, Hf, env, ts, k, x, s, c, hw, q, hx⟩
theorem PD.pe {e : Expr} {w : WE} (h : PD X W e w) : PE X e (teOf X.K W w) := by
  obtain ⟨te, h1, h2⟩ := h
  exact ⟨fun pins s σ H Q I ⟨Fr, Hf, env, ts, k, x, st, c, hw, q, hx⟩ => h1.run pins s σ H Q I (h2 σ H Fr Hf env ts k x Q st c hw q hx)⟩
theorem PTD.pt {e : Expr} {w : WT} (h : PTD X W e w) : PT X e (ttOf X.K W w) := by
  obtain ⟨te, h1, h2⟩ := h
  exact ⟨fun pins s σ H Q I ⟨Fr, Hf, env, ts, k, x, st, c, hw, q, hx⟩ => h1.run pins s σ H Q I (h2 σ H Fr Hf env ts k x Q st c hw q hx)⟩
theorem PGD.pg {ch : List Nat} {e : Expr} {g : GT} (h : PGD X ch e g) : PG X e (tgOf X.K ch g) := by
  obtain ⟨t, h1, h2⟩ := h
  exact ⟨fun pins s σ H v u Q I r ⟨Fr, Hf, env, ts, n, k, st, c, hw, q⟩ => h1.run pins s σ H v u Q I r (h2 σ H Fr Hf env ts n v k Q st c hw q)⟩
theorem PID.pi {tg e : Expr} {wi : WI} (h : PID X W tg e wi) : PI X tg e (tiOf X.K W wi) := by
  obtain ⟨ti, h1, h2⟩ := h
  exact ⟨fun pins s σ H R I ⟨Fr, Hf, env, ts, k, x, st, c, hw, q, hx⟩ => h1.run pins s σ H R I (h2 σ H Fr Hf env ts k x R st c hw q hx)⟩
end
/-! ### list comprehensions -/
def noX : XP := fun _ _ => False
theorem runX_no {K : PySem.W.Frag} {W : WX} {Fr Hf : Hp} {σ : L2.St} {ts : List (V × N)} : RunX K W Fr Hf σ ts noX := fun _ _ _ _ _ _ h => h.elim
def wipeN (e : Env) : List Nat → Env
  | [] => e
  | v :: vs => (wipeN e vs).set v none
def lcL (g : GT) (t : WT) (w : WE) (own : List Nat) : List D → List N → Env → (List N → Env → Prop) → Prop
  | [], acc, e, k => k acc e
  | d :: l, acc, e, k => g (.d d) (wipeN e own) fun e1 => t e1 (fun b e2 => if b = true then w e2 (fun n e3 => acc.length < sizeLine ∧ lcL g t w own l (acc ++ [n]) e3 k) noX else lcL g t w own l acc e2 k) noX
def wLc (wi : WI) (g : GT) (t : WT) (w : WE) (own : List Nat) : WE := fun env k x => wi env (fun l e => lcL g t w own l [] e (fun acc e2 => k (.lst acc) (wipeN e2 own))) x
def wYes : WT := fun env k _ => k true env
section
variable {K : PySem.W.Frag} {W : WX} {X : Cx} {Fr Hf H : Hp}
theorem runsT_yes : RunsT K W wYes tYes := fun σ H Fr Hf env ts k x Q s c hw q _ => q true env Hf H hw (Same.refl _) c s
/-- the block's names are forgotten -/
theorem St.wiped {σ : L2.St} {env : Env} {ts : List (V × N)} (s : St K Fr Hf H (ts ++ slots σ env)) (c : Cov σ env) : ∀ vs : List Nat, St K Fr Hf H (ts ++ slots (wipe σ vs) (wipeN env vs)) ∧ Cov (wipe σ vs) (wipeN env vs)
  | [] => ⟨s, c⟩
  | v :: vs => by
    obtain ⟨s1, c1⟩ := St.wiped s c vs
    have s2 := s1.slotOut c1 v
    rw [← slots_none (wipe σ vs) (wipeN env vs) v none] at s2
    refine ⟨s2, ?_⟩
    unfold wipe wipeN
    refine ⟨by rw [List.length_set, List.length_set]; exact c1.len, fun j n h => ?_⟩
    by_cases e : v = j
    · subst e
      have hi := lt_of_get h
      rw [List.length_set] at hi
      rw [List.getElem?_set_self hi] at h
      cases h
    · rw [List.getElem?_set_ne e] at h
      rw [List.getElem?_set_ne e]
      exact c1.has j n h
theorem slots_wiped (σ : L2.St) (env : Env) : ∀ vs : List Nat, slots (wipe σ vs) (wipeN env vs) = slots σ (wipeN env vs)
  | [] => rfl
  | v :: vs => by
    show slots ((wipe σ vs).set v none) ((wipeN env vs).set v none) = slots σ ((wipeN env vs).set v none)
    rw [slots_none]
    have key : ∀ (vs : List Nat) (e : Env), (∀ (j : Nat) (n : N), e[j]? = some (some n) → (wipeN env vs)[j]? = some (some n)) → slots (wipe σ vs) e = slots σ e := by
      intro vs
      induction vs with
      | nil => intro e _; rfl
      | cons u us ih =>
        intro e he
        show slots ((wipe σ us).set u none) e = slots σ e
        have hn : e.set u none = e := by
          cases q : e[u]? with
          | none => exact List.set_eq_of_length_le (List.getElem?_eq_none_iff.mp q)
          | some o =>
            cases o with
            | none => exact set_self q
            | some n =>
              have z := he u n q
              have z2 : ((wipeN env us).set u none)[u]? = some (some n) := z
              have hi := lt_of_get z2
              rw [List.length_set] at hi
              rw [List.getElem?_set_self hi] at z2
              cases z2
        have e1 := slots_none (wipe σ us) e u none
        rw [hn] at e1
        rw [e1]
        refine ih e fun j n h => ?_
        have z : ((wipeN env us).set u none)[j]? = some (some n) := he j n h
        by_cases c : u = j
        · subst c
          have hi := lt_of_get z
          rw [List.length_set] at hi
          rw [List.getElem?_set_self hi] at z
          cases z
        · rw [List.getElem?_set_ne c] at z
          exact z
    refine key vs _ fun j n h => ?_
    by_cases c : v = j
    · subst c
      have hi := lt_of_get h
      rw [List.length_set] at hi
      rw [List.getElem?_set_self hi] at h
      cases h
    · rw [List.getElem?_set_ne c] at h
      exact h
theorem cov_wiped {σ : L2.St} {env : Env} {vs : List Nat} (c : Cov (wipe σ vs) (wipeN env vs)) : Cov σ (wipeN env vs) := by
  refine ⟨by rw [← c.len, wipe_length], fun i n h => ?_⟩
  obtain ⟨v, hv⟩ := c.has i n h
  exact ⟨v, (wipe_some hv).1⟩
theorem wipe_in {σ : L2.St} {i : Nat} : ∀ {vs : List Nat}, i ∈ vs → i < σ.length → (wipe σ vs)[i]? = some none
  | [], h, _ => absurd h List.not_mem_nil
  | v :: vs, h, hl => by
    unfold wipe
    by_cases e : v = i
    · subst e
      rw [List.getElem?_set_self (by rw [wipe_length]; exact hl)]
    · rw [List.getElem?_set_ne e]
      exact wipe_in ((List.mem_cons.mp h).resolve_left fun z => e z.symm) hl
theorem wipe_same {σ σ2 : L2.St} {vs ch : List Nat} (sub : ∀ i ∈ ch, i ∈ vs) (o : OnlyS ch (wipe σ vs) σ2) : wipe σ2 vs = wipe σ vs := by
  have hl : σ2.length = σ.length := o.1.trans (wipe_length σ vs)
  refine List.ext_getElem? fun i => ?_
  by_cases hi : i ∈ vs
  · by_cases hl2 : i < σ.length
    · rw [wipe_in hi hl2, wipe_in hi (by omega)]
    · rw [List.getElem?_eq_none (by rw [wipe_length]; omega), List.getElem?_eq_none (by rw [wipe_length]; omega)]
  · rw [wipe_out hi, o.2 i fun z => hi (sub i z)]
theorem repNs_append {Hf H : Hp} : ∀ {l m : List N} {vs ws : List V} {A B : List Addr}, RepNs K Hf H l vs A → RepNs K Hf H m ws B → RepNs K Hf H (l ++ m) (vs ++ ws) (A ++ B)
  | [], m, vs, ws, A, B, h, h2 => by
    unfold RepNs at h
    rw [h.1, h.2]
    exact h2
  | n :: l, m, vs, ws, A, B, h, h2 => by
    unfold RepNs at h
    obtain ⟨v, us, A1, A2, e1, e2, e3, e4⟩ := h
    rw [e1, e2, List.cons_append, List.cons_append, List.append_assoc]
    unfold RepNs
    exact ⟨v, us ++ ws, A1, A2 ++ B, rfl, rfl, e3, repNs_append e4 h2⟩
/-- what is held goes behind a list that is held -/
theorem St.app {p : Addr} {ns : List N} {v : V} {n : N} {qs : List (V × N)} (s : St K Fr Hf H ((.ref p, .lst ns) :: (v, n) :: qs)) :
    ∃ vs, H p = some (.lst vs) ∧ vs.length = ns.length ∧ St K Fr Hf (upd H p (.lst (vs ++ [v]))) ((.ref p, .lst (ns ++ [n])) :: qs) := by
  obtain ⟨A, r, nd, d⟩ := s.own
  unfold RepPs at r
  obtain ⟨A1, A2, eA, r1, r2⟩ := r
  unfold RepPs at r2
  obtain ⟨A3, A4, eA2, r3, r4⟩ := r2
  unfold RepN at r1
  obtain ⟨q, vs, B, e1, e2, e3, e4⟩ := r1
  cases e1
  have hA : A = p :: (B ++ A3 ++ A4) := by rw [eA, e2, eA2]; simp
  rw [hA] at nd d
  have np := (List.nodup_cons.mp nd).1
  have dp := d p List.mem_cons_self
  have kF : ∀ {G : Hp} {b : Addr} {u : HO}, G p = none → G b = some u → b ≠ p := fun {G b u} g h z => by rw [z, g] at h; cases h
  have st : ∀ a ∈ B ++ A3 ++ A4, (upd H p (.lst (vs ++ [v]))) a = H a := fun a ha => upd_ne fun z => np (by rw [← z]; exact ha)
  refine ⟨vs, e3, e4.length, ⟨fun b u h => by rw [upd_ne (kF dp.1 h)]; exact s.ex b u h, fun b u h => by rw [upd_ne (kF dp.2 h)]; exact s.fr b u h, s.dj, p :: (B ++ A3 ++ A4), ?_, nd, d⟩⟩
  unfold RepPs
  refine ⟨p :: (B ++ A3), A4, rfl, ?_, r4.stay (Same.refl _) fun a ha => st a (List.mem_append_right _ ha)⟩
  unfold RepN
  refine ⟨p, vs ++ [v], B ++ A3, rfl, rfl, upd_same, repNs_append (RepNs.stay (Same.refl _) ns vs B e4 fun a ha => st a (List.mem_append_left _ (List.mem_append_left _ ha))) ?_⟩
  unfold RepNs
  refine ⟨v, [], A3, [], rfl, by simp, RepN.stay (Same.refl _) n v A3 r3 fun a ha => st a (List.mem_append_left _ (List.mem_append_right _ ha)), ?_⟩
  unfold RepNs
  exact ⟨rfl, rfl⟩
theorem runs_wLc {W1 W2 : WX} {ch own : List Nat} {wi : WI} {g : GT} {t : WT} {w : WE} {ti : TI} {tg : TG} {tt : TT} {te : TE} (sub : ∀ i ∈ ch, i ∈ own) (hi : RunsI K W wi ti) (hg : RunsG K ch g tg) (ht : RunsT K W1 t tt) (he : Runs K W2 w te) : Runs K W (wLc wi g t w own) (tLc ti tg tt te own) := by
  intro σ H Fr Hf env ts k x Q s c hw q hx
  refine hi σ H Fr Hf env ts _ x _ s c hw (fun l env' J Hf' H' hk sm c' s' ok => ?_) hx
  intro D hD
  have s0 : St K Fr Hf' (upd H' D (.lst [])) ((.ref D, .lst []) :: (ts ++ slots σ env')) := s'.newL (l := []) hD (by unfold Reps; rfl)
  refine ⟨fun i m H1 => m = l.length - i ∧ i ≤ l.length ∧ ∃ env1 Hf1 acc σ1, wipe σ1 own = wipe σ own ∧ Same Hf' Hf1 ∧ Cov σ1 env1 ∧ St K Fr Hf1 H1 ((.ref D, .lst acc) :: (ts ++ slots σ1 env1)) ∧ lcL g t w own (l.drop i) acc env1 (fun acc e2 => k (.lst acc) (wipeN e2 own)),
    ⟨l.length, by simp, Nat.zero_le _, env', Hf', [], σ, rfl, Same.refl _, c', s0, hk⟩, ?_⟩
  rintro i m H1 ⟨rfl, hi, env1, Hf1, acc, σ1, ew, sm1, c1, s1, h1⟩
  have s1w := (St.wiped (ts := (.ref D, .lst acc) :: ts) s1 c1 own)
  rw [ew] at s1w
  obtain ⟨s2, c2⟩ := s1w
  by_cases hlt : i < l.length
  · rw [List.drop_eq_getElem_cons hlt] at h1
    refine .inr ⟨ok.go i H1 (sm1.trans s1.ex) hlt, fun H' => (i + 1 ≤ l.length ∧ ∃ env1 Hf1 acc σ1, wipe σ1 own = wipe σ own ∧ Same Hf' Hf1 ∧ Cov σ1 env1 ∧ St K Fr Hf1 H' ((.ref D, .lst acc) :: (ts ++ slots σ1 env1)) ∧ lcL g t w own (l.drop (i + 1)) acc env1 (fun acc e2 => k (.lst acc) (wipeN e2 own))), ?_, ?_⟩
    · rintro H2 ⟨h2, z⟩
      exact ⟨l.length - (i + 1), by omega, rfl, h2, z⟩
    · intro v H2 y
      obtain ⟨Hf2, sm2, s3⟩ := ok.yld i H1 v H2 l[i] Fr Hf1 _ sm1 s2 y (by simp [hlt])
      refine hg (wipe σ own) H2 Fr Hf2 _ ((.ref D, .lst acc) :: ts) _ v _ _ s3 c2 h1 fun env3 σ3 k3 o3 c3 s4 => ⟨wipe_same sub o3, ?_⟩
      have ew3 : wipe σ3 own = wipe σ own := wipe_same sub o3
      refine ht σ3 H2 Fr Hf2 env3 ((.ref D, .lst acc) :: ts) _ noX _ s4 c3 k3 (fun b env4 Hf4 H4 k4 sm4 c4 s5 => ?_) runX_no
      cases b with
      | false =>
        rw [if_neg Bool.false_ne_true] at k4 ⊢
        exact ⟨hlt, env4, Hf4, acc, σ3, ew3, (sm1.trans sm2).trans sm4, c4, s5, k4⟩
      | true =>
        rw [if_pos rfl] at k4 ⊢
        refine he σ3 H4 Fr Hf4 env4 ((.ref D, .lst acc) :: ts) _ noX _ s5 c4 k4 (fun n env5 u Hf5 H5 k5 sm5 c5 s6 => ?_) runX_no
        obtain ⟨vs, e1, e2, s7⟩ := St.app (s6.perm (List.Perm.swap _ _ _))
        exact ⟨vs, e1, by rw [e2]; exact k5.1, hlt, env5, Hf5, _, σ3, ew3, ((sm1.trans sm2).trans sm4).trans sm5, c5, s7, k5.2⟩
  · have hE : i = l.length := by omega
    subst hE
    rw [List.drop_length] at h1
    refine .inl ⟨ok.stop H1 (sm1.trans s1.ex), q _ _ (.ref D) Hf1 H1 h1 (sm.trans sm1) ?_ ?_⟩
    · have := (St.wiped (ts := (.ref D, .lst acc) :: ts) s1 c1 own).2
      rw [ew] at this
      exact cov_wiped this
    · have z : slots (wipe σ1 own) (wipeN env1 own) = slots σ (wipeN env1 own) := by rw [ew]; exact slots_wiped σ env1 own
      have := (St.wiped (ts := (.ref D, .lst acc) :: ts) s1 c1 own).1
      rw [z] at this
      exact this
end

/-! ### comprehensions, as derivations -/
abbrev W0 : WX := fun _ _ _ _ => False
section
variable {X : Cx} {W : WX}
theorem pd_lc0 {ch : List Nat} {own : List (Str × Nat)} {elt tg iter : Expr} {scope : Scope} {pos : Pos} {wi : WI} {g : GT} {w : WE} (hc : X.calm = true) (hN : X.N.Nodup) (hi : PID X W tg iter wi) (ok : BlkOk X.N X.env.scope scope own)
    (hg : ∀ (s : Shared) (H : Hp) (C : Addr) (cl : List (Str × Addr)) (fp : List Addr), PGD (X.blk s H scope (compEnvC scope cl C X.env) fp) ch tg g)
    (he : ∀ (s : Shared) (H : Hp) (C : Addr) (cl : List (Str × Addr)) (fp : List Addr), PD (X.blk s H scope (compEnvC scope cl C X.env) fp) W0 elt w) (sub : ∀ i ∈ ch, i ∈ own.map (·.2) := by decide) (hs : ∀ x, foldedSetIterable iter X.env x = pure x := by intro _; rfl) :
    PD X W (.ListComp elt [⟨tg, iter, [], 0⟩] scope pos) (wLc wi g wYes w (own.map (·.2))) :=
  ⟨_, pe_lc hc hN hi.pi ok (fun s H C cl fp => (hg s H C cl fp).pg) (fun s H C cl fp => pts_nil) (fun s H C cl fp => (he s H C cl fp).pe) hs, runs_wLc (W := W) sub runs_tiOf runs_tgOf (runsT_yes (W := W0)) runs_teOf⟩
theorem pd_lc1 {ch : List Nat} {own : List (Str × Nat)} {elt tg iter cond : Expr} {scope : Scope} {pos : Pos} {wi : WI} {g : GT} {t : WT} {w : WE} (hc : X.calm = true) (hN : X.N.Nodup) (hi : PID X W tg iter wi) (ok : BlkOk X.N X.env.scope scope own)
    (hg : ∀ (s : Shared) (H : Hp) (C : Addr) (cl : List (Str × Addr)) (fp : List Addr), PGD (X.blk s H scope (compEnvC scope cl C X.env) fp) ch tg g)
    (ht : ∀ (s : Shared) (H : Hp) (C : Addr) (cl : List (Str × Addr)) (fp : List Addr), PTD (X.blk s H scope (compEnvC scope cl C X.env) fp) W0 cond t)
    (he : ∀ (s : Shared) (H : Hp) (C : Addr) (cl : List (Str × Addr)) (fp : List Addr), PD (X.blk s H scope (compEnvC scope cl C X.env) fp) W0 elt w) (sub : ∀ i ∈ ch, i ∈ own.map (·.2) := by decide) (hs : ∀ x, foldedSetIterable iter X.env x = pure x := by intro _; rfl) :
    PD X W (.ListComp elt [⟨tg, iter, [cond], 0⟩] scope pos) (wLc wi g t w (own.map (·.2))) :=
  ⟨_, pe_lc hc hN hi.pi ok (fun s H C cl fp => (hg s H C cl fp).pg) (fun s H C cl fp => pts_one (ht s H C cl fp).pt) (fun s H C cl fp => (he s H C cl fp).pe) hs, runs_wLc (W := W) sub runs_tiOf runs_tgOf runs_ttOf runs_teOf⟩
/-- name = [..] on one line -/
theorem psd_setLc0 {fx ch : List Nat} {i : Nat} {y : Str} {py spos : Pos} {own : List (Str × Nat)} {elt tg iter : Expr} {scope : Scope} {pos : Pos} {wi : WI} {g : GT} {w : WE} (hc : X.calm = true) (hN : X.N.Nodup) (hi : PID X W tg iter wi) (ok : BlkOk X.N X.env.scope scope own)
    (hg : ∀ (s : Shared) (H : Hp) (C : Addr) (cl : List (Str × Addr)) (fp : List Addr), PGD (X.blk s H scope (compEnvC scope cl C X.env) fp) ch tg g)
    (he : ∀ (s : Shared) (H : Hp) (C : Addr) (cl : List (Str × Addr)) (fp : List Addr), PD (X.blk s H scope (compEnvC scope cl C X.env) fp) W0 elt w) (hy : X.N[i]? = some y := by rfl) (hyl : X.env.scope.names.lookup y = some .local := by rfl)
    (hsw : swapsWith (.ListComp elt [⟨tg, iter, [], 0⟩] scope pos) (some (.Name y py)) spos.line X.env = pure true := by rfl) (hf : i ∉ fx := by decide) (sub : ∀ i ∈ ch, i ∈ own.map (·.2) := by decide) (hs : ∀ x, foldedSetIterable iter X.env x = pure x := by intro _; rfl) :
    PSD X W fx (.Assign [.Name y py] (.ListComp elt [⟨tg, iter, [], 0⟩] scope pos) spos) (wsSet i (wLc wi g wYes w (own.map (·.2)))) :=
  ⟨_, ps_setLc hc hN hy hyl hsw hi.pi ok (fun s H C cl fp => (hg s H C cl fp).pg) (fun s H C cl fp => pts_nil) (fun s H C cl fp => (he s H C cl fp).pe) hs, runs_sSet hf (runs_wLc (W := W) sub runs_tiOf runs_tgOf (runsT_yes (W := W0)) runs_teOf)⟩
theorem psd_setLc1 {fx ch : List Nat} {i : Nat} {y : Str} {py spos : Pos} {own : List (Str × Nat)} {elt tg iter cond : Expr} {scope : Scope} {pos : Pos} {wi : WI} {g : GT} {t : WT} {w : WE} (hc : X.calm = true) (hN : X.N.Nodup) (hi : PID X W tg iter wi) (ok : BlkOk X.N X.env.scope scope own)
    (hg : ∀ (s : Shared) (H : Hp) (C : Addr) (cl : List (Str × Addr)) (fp : List Addr), PGD (X.blk s H scope (compEnvC scope cl C X.env) fp) ch tg g)
    (ht : ∀ (s : Shared) (H : Hp) (C : Addr) (cl : List (Str × Addr)) (fp : List Addr), PTD (X.blk s H scope (compEnvC scope cl C X.env) fp) W0 cond t)
    (he : ∀ (s : Shared) (H : Hp) (C : Addr) (cl : List (Str × Addr)) (fp : List Addr), PD (X.blk s H scope (compEnvC scope cl C X.env) fp) W0 elt w) (hy : X.N[i]? = some y := by rfl) (hyl : X.env.scope.names.lookup y = some .local := by rfl)
    (hsw : swapsWith (.ListComp elt [⟨tg, iter, [cond], 0⟩] scope pos) (some (.Name y py)) spos.line X.env = pure true := by rfl) (hf : i ∉ fx := by decide) (sub : ∀ i ∈ ch, i ∈ own.map (·.2) := by decide) (hs : ∀ x, foldedSetIterable iter X.env x = pure x := by intro _; rfl) :
    PSD X W fx (.Assign [.Name y py] (.ListComp elt [⟨tg, iter, [cond], 0⟩] scope pos) spos) (wsSet i (wLc wi g t w (own.map (·.2)))) :=
  ⟨_, ps_setLc hc hN hy hyl hsw hi.pi ok (fun s H C cl fp => (hg s H C cl fp).pg) (fun s H C cl fp => pts_one (ht s H C cl fp).pt) (fun s H C cl fp => (he s H C cl fp).pe) hs, runs_sSet hf (runs_wLc (W := W) sub runs_tiOf runs_tgOf runs_ttOf runs_teOf)⟩
end
/-! ### the contract of a def, over trees -/
abbrev FS := List N → (N → Env → Prop) → XP → Prop
def spOf (K : PySem.W.Frag) (np : Nat) (fs : FS) : Sp := fun vs H Q E => vs.length = np ∧ ∃ Fr Hf ns k x, ns.length = np ∧ St K Fr Hf H (vs.zip ns) ∧ fs ns k x ∧
  (∀ r outs v Hf' H', k r outs → outs.length = np → Same Hf Hf' → St K Fr Hf' H' ((v, r) :: slots (vs.map some) outs) → Q v H') ∧
  (∀ ex outs Hf' H' cls d, x ex outs → outs.length = np → Same Hf Hf' → St K Fr Hf' H' (slots (vs.map some) outs) → ExnRep K Hf' H' (vs.map some) ex cls d → E cls d H')
/-- what is given: own trees leave their slots, data stays -/
def takeAll : Env → List Val → Option (List N × Env)
  | e, [] => some ([], e)
  | e, .t n :: l => (takeAll e l).map fun p => (n :: p.1, p.2)
  | e, .s i :: l => match (e[i]?).join with
    | none => none
    | some (.d x) => (takeAll e l).map fun p => (.d x :: p.1, p.2)
    | some n => (takeAll (e.set i none) l).map fun p => (n :: p.1, p.2)
def putBack : Env → List Val → Env → Env
  | e, .s i :: l, o :: os => match (e[i]?).join with
    | none => putBack (e.set i o) l os
    | some _ => putBack e l os
  | e, .t _ :: l, _ :: os => putBack e l os
  | e, _, _ => e
def upX (vals : List Val) : XV → Option XV
  | .d x => some (.d x)
  | .sl i => match vals[i]? with
    | some (.s j) => some (.sl j)
    | some (.t (.d x)) => some (.d x)
    | _ => none
def exUp (vals : List Val) (ex : Exn) : Option Exn := (ex.xs.mapM (upX vals)).map fun xs => { ex with xs := xs }
def pick {α : Type} (p : List Nat) (l : List α) : List α := p.filterMap fun i => l[i]?
def wCall (np : Nat) (fs : FS) (a : WA) : WE := fun env k x => a env (fun vals e => vals.length = np ∧ onS (takeAll e vals) fun p => fs p.1 (fun r outs => k r (putBack p.2 vals outs)) (fun ex outs => onS (exUp vals ex) fun ex' => x ex' (putBack p.2 vals outs))) x
section
variable {K : PySem.W.Frag} {W : WX} {X : Cx} {Fr Hf H : Hp} {σ : L2.St}
theorem set_none_self {env : Env} {i : Nat} (h : (env[i]?).join = none) : env.set i none = env := by
  cases q : env[i]? with
  | none => exact List.set_eq_of_length_le (List.getElem?_eq_none_iff.mp q)
  | some o =>
    cases o with
    | none => exact set_self q
    | some n => rw [q] at h; cases h
theorem takeAll_st : ∀ {vals : List Val} {vs : List V} {e : Env} {ns : List N} {e' : Env} {ts : List (V × N)}, Paired (SlotOk σ) vals vs → takeAll e vals = some (ns, e') → St K Fr Hf H (tmps vals vs ++ (ts ++ slots σ e)) → Cov σ e →
    St K Fr Hf H (vs.zip ns ++ (ts ++ slots σ e')) ∧ Cov σ e' ∧ vs.length = ns.length
  | [], _, e, ns, e', ts, .nil, g, s, c => by cases g; exact ⟨s, c, rfl⟩
  | .t n :: l, v :: vs, e, ns, e', ts, .cons so r, g, s, c => by
    unfold takeAll at g
    cases q : takeAll e l with
    | none => rw [q] at g; cases g
    | some p =>
      rw [q] at g; cases g
      have s1 : St K Fr Hf H (tmps l vs ++ (((v, n) :: ts) ++ slots σ e)) := (show St K Fr Hf H ((v, n) :: (tmps l vs ++ (ts ++ slots σ e))) from s).swapB
      obtain ⟨s2, c2, hl⟩ := takeAll_st r (show takeAll e l = some (p.1, p.2) from q) s1 c
      exact ⟨(show St K Fr Hf H (vs.zip p.1 ++ ((v, n) :: (ts ++ slots σ p.2))) from s2).swapT, c2, by rw [List.length_cons, List.length_cons, hl]⟩
  | .s i :: l, v :: vs, e, ns, e', ts, .cons so r, g, s, c => by
    have hv : σ[i]? = some (some v) := so i rfl
    have s : St K Fr Hf H (tmps l vs ++ (ts ++ slots σ e)) := s
    unfold takeAll at g
    cases q : (e[i]?).join with
    | none => rw [q] at g; cases g
    | some n =>
      rw [q] at g
      have hn := join_some q
      have own : ∀ p, takeAll (e.set i none) l = some p → St K Fr Hf H ((v :: vs).zip (n :: p.1) ++ (ts ++ slots σ p.2)) ∧ Cov σ p.2 ∧ (v :: vs).length = (n :: p.1).length := by
        intro p q2
        have s1 : St K Fr Hf H (tmps l vs ++ (((v, n) :: ts) ++ slots σ (e.set i none))) := s.perm (List.Perm.append_left _ (((slots_take hv hn).append_left ts).trans List.perm_middle))
        obtain ⟨s2, c2, hl⟩ := takeAll_st r (show takeAll (e.set i none) l = some (p.1, p.2) from q2) s1 (c.drop i)
        exact ⟨(show St K Fr Hf H (vs.zip p.1 ++ ((v, n) :: (ts ++ slots σ p.2))) from s2).swapT, c2, by rw [List.length_cons, List.length_cons, hl]⟩
      cases n with
      | d x =>
        cases q2 : takeAll e l with
        | none => rw [q2] at g; cases g
        | some p =>
          rw [q2] at g; cases g
          have hm : (v, N.d x) ∈ tmps l vs ++ (ts ++ slots σ e) := List.mem_append_right _ (List.mem_append_right _ (slots_mem hv hn))
          have s1 : St K Fr Hf H (tmps l vs ++ (((v, .d x) :: ts) ++ slots σ e)) := (s.addD (s.memD hm)).swapB
          obtain ⟨s2, c2, hl⟩ := takeAll_st r (show takeAll e l = some (p.1, p.2) from q2) s1 c
          exact ⟨(show St K Fr Hf H (vs.zip p.1 ++ ((v, .d x) :: (ts ++ slots σ p.2))) from s2).swapT, c2, by rw [List.length_cons, List.length_cons, hl]⟩
      | lst m =>
        cases q2 : takeAll (e.set i none) l with
        | none => rw [q2] at g; cases g
        | some p => rw [q2] at g; cases g; exact own p q2
      | tup m =>
        cases q2 : takeAll (e.set i none) l with
        | none => rw [q2] at g; cases g
        | some p => rw [q2] at g; cases g; exact own p q2
      | dic ks m =>
        cases q2 : takeAll (e.set i none) l with
        | none => rw [q2] at g; cases g
        | some p => rw [q2] at g; cases g; exact own p q2
      | obj cc fs m =>
        cases q2 : takeAll (e.set i none) l with
        | none => rw [q2] at g; cases g
        | some p => rw [q2] at g; cases g; exact own p q2
      | ext m =>
        cases q2 : takeAll (e.set i none) l with
        | none => rw [q2] at g; cases g
        | some p => rw [q2] at g; cases g; exact own p q2
theorem putBack_st : ∀ {vals : List Val} {vs : List V} {e outs : Env} {ts : List (V × N)}, Paired (SlotOk σ) vals vs → St K Fr Hf H (slots (vs.map some) outs ++ (ts ++ slots σ e)) → Cov σ e → outs.length = vs.length →
    St K Fr Hf H (ts ++ slots σ (putBack e vals outs)) ∧ Cov σ (putBack e vals outs)
  | [], _, e, outs, ts, .nil, s, c, hl => by
    cases outs with
    | nil => exact ⟨s, c⟩
    | cons _ _ => simp at hl
  | w :: l, v :: vs, e, [], ts, .cons so r, s, c, hl => by simp at hl
  | .t n :: l, v :: vs, e, o :: os, ts, .cons so r, s, c, hl => by
    have s1 : St K Fr Hf H (slots (vs.map some) os ++ (ts ++ slots σ e)) := by
      cases o with
      | none => exact s
      | some m => exact St.tail (p := (v, m)) s
    unfold putBack
    exact putBack_st r s1 c (by simpa using hl)
  | .s i :: l, v :: vs, e, o :: os, ts, .cons so r, s, c, hl => by
    have hv : σ[i]? = some (some v) := so i rfl
    have s1 : St K Fr Hf H (slots (vs.map some) os ++ (ts ++ slots σ e)) := by
      cases o with
      | none => exact s
      | some m => exact St.tail (p := (v, m)) s
    unfold putBack
    cases q : (e[i]?).join with
    | some m => exact putBack_st r s1 c (by simpa using hl)
    | none =>
      have hi : i < e.length := by rw [← c.len]; exact lt_of_get hv
      cases o with
      | none =>
        show St K Fr Hf H (ts ++ slots σ (putBack (e.set i none) l os)) ∧ Cov σ (putBack (e.set i none) l os)
        rw [set_none_self q]
        exact putBack_st r s1 c (by simpa using hl)
      | some m =>
        have s2 : St K Fr Hf H ((v, m) :: ((slots (vs.map some) os ++ ts) ++ slots σ e)) := by
          rw [List.append_assoc]
          exact s
        have s3 := s2.put c i
        rw [set_self hv, List.append_assoc] at s3
        have c3 := c.set i v (some m)
        rw [set_self hv] at c3
        exact putBack_st r s3 c3 (by simpa using hl)
theorem paired_get {α β : Type} {R : α → β → Prop} : ∀ {l : List α} {m : List β} {i : Nat} {b : β}, Paired R l m → m[i]? = some b → ∃ a, l[i]? = some a ∧ R a b
  | [], _, _, _, .nil, h => by simp at h
  | _ :: _, _ :: _, 0, _, .cons a r, h => by
    simp at h
    subst h
    exact ⟨_, rfl, a⟩
  | _ :: l, _ :: m, i + 1, b, .cons _ r, h => by
    obtain ⟨a, h1, h2⟩ := paired_get (i := i) r (by simpa using h)
    exact ⟨a, by simpa using h1, h2⟩
theorem takeAll_data : ∀ {vals : List Val} {e : Env} {ns : List N} {e' : Env} {i : Nat} {x : D}, takeAll e vals = some (ns, e') → vals[i]? = some (.t (.d x)) → ns[i]? = some (.d x)
  | [], _, _, _, _, _, _, h => by simp at h
  | .t n :: l, e, ns, e', i, x, g, h => by
    unfold takeAll at g
    cases q : takeAll e l with
    | none => rw [q] at g; cases g
    | some p =>
      rw [q] at g; cases g
      cases i with
      | zero => simp at h; simp [h]
      | succ i => simpa using takeAll_data (show takeAll e l = some (p.1, p.2) from q) (by simpa using h)
  | .s j :: l, e, ns, e', i, x, g, h => by
    cases i with
    | zero => simp at h
    | succ i =>
      have h : l[i]? = some (.t (.d x)) := by simpa using h
      unfold takeAll at g
      split at g
      · cases g
      · cases q : takeAll e l with
        | none => rw [q] at g; cases g
        | some p =>
          rw [q] at g; cases g
          simpa using takeAll_data (show takeAll e l = some (p.1, p.2) from q) h
      · cases q : takeAll (e.set j none) l with
        | none => rw [q] at g; cases g
        | some p =>
          rw [q] at g; cases g
          simpa using takeAll_data (show takeAll (e.set j none) l = some (p.1, p.2) from q) h
theorem exUp_rep {vals : List Val} {vs : List V} {Hf1 Hf2 : Hp} (so : Paired (SlotOk σ) vals vs) (hd : ∀ (i : Nat) x v, vals[i]? = some (.t (.d x)) → vs[i]? = some v → Rep K Hf2 x v) :
    ∀ {xs ys : List XV} {us : List V}, (xs.mapM (upX vals)) = some ys →
      Paired (XRep K Hf2 (vs.map some)) xs us → Paired (XRep K Hf2 σ) ys us
  | [], ys, us, h, p => by
    simp at h
    subst h
    cases p
    exact .nil
  | a :: xs, ys, us, h, p => by
    cases p with
    | cons a1 r =>
      rename_i u us
      rw [List.mapM_cons] at h
      cases q : upX vals a with
      | none => rw [q] at h; cases h
      | some b =>
        rw [q] at h
        cases q2 : (xs.mapM (upX vals)) with
        | none => rw [q2] at h; cases h
        | some bs =>
          rw [q2] at h
          cases h
          refine .cons ?_ (exUp_rep (Hf1 := Hf1) so hd q2 r)
          cases a with
          | d x => cases q; exact a1
          | sl i =>
            have hu : vs[i]? = some u := by
              have z : (vs.map some)[i]? = some (some u) := a1
              rw [List.getElem?_map] at z
              cases e : vs[i]? with
              | none => rw [e] at z; cases z
              | some w => rw [e] at z; cases z; rfl
            obtain ⟨val, h1, h2⟩ := paired_get so hu
            unfold upX at q
            dsimp only at q
            rw [h1] at q
            cases val with
            | s j => cases q; exact h2 j rfl
            | t n =>
              cases n with
              | d x => cases q; exact hd i x u h1 hu
              | _ => cases q
/-- from what a call gives back -/
theorem runs_call {sp : Sp} {np : Nat} {fs : FS} {a : WA} {ta : TA} (hsp : ∀ vs H Q E, spOf K np fs vs H Q E → sp vs H Q E) (h : RunsA K W a ta) :
    Runs K W (wCall np fs a) (tCallS sp (L2.WE W) ta) := by
  intro σ H Fr Hf env ts k x Q s c hw q hx
  refine h σ H Fr Hf env ts _ x _ s c hw (fun vals e vs Hf1 H1 hk sm c1 so s1 => ?_) hx
  obtain ⟨hlen, hk⟩ := hk
  obtain ⟨⟨ns, e'⟩, g, hk⟩ := onS_elim hk
  rw [List.append_assoc] at s1
  obtain ⟨s2, c2, hl⟩ := takeAll_st so g s1 c1
  have hlv : vs.length = np := by rw [← so.length]; exact hlen
  obtain ⟨Fr', s3, back⟩ := s2.focus
  refine hsp vs H1 Q _ ⟨hlv, Fr', Hf1, ns, _, _, by rw [← hl]; exact hlv, s3, hk, ?_, ?_⟩
  · intro r outs v Hf2 H2 hk2 ho sm2 st2
    have s4 := back Hf2 H2 _ sm2 st2
    have s5 : St K Fr Hf2 H2 (slots (vs.map some) outs ++ (((v, r) :: ts) ++ slots σ e')) := (show St K Fr Hf2 H2 ((v, r) :: (slots (vs.map some) outs ++ (ts ++ slots σ e'))) from s4).swapB
    obtain ⟨s6, c6⟩ := putBack_st so s5 c2 (by rw [ho, hlv])
    exact q r _ v Hf2 H2 hk2 (sm.trans sm2) c6 s6
  · intro ex outs Hf2 H2 cls d hx2 ho sm2 st2 rr
    have s4 := back Hf2 H2 _ sm2 st2
    obtain ⟨s6, c6⟩ := putBack_st so s4 c2 (by rw [ho, hlv])
    obtain ⟨ex', he, hx3⟩ := onS_elim hx2
    refine hx ex' _ Hf2 H2 cls d hx3 (sm.trans sm2) c6 s6 ?_
    unfold exUp at he
    obtain ⟨r1, aa, fv, r2, r3, r4, r5⟩ := rr
    cases e1 : (ex.xs.mapM (upX vals)) with
    | none => rw [e1] at he; cases he
    | some ys =>
      rw [e1] at he
      cases he
      refine ⟨r1, aa, fv, r2, r3, r4, exUp_rep (Hf1 := Hf1) so (fun i y v h1 h2 => ?_) e1 r5⟩
      have h3 := takeAll_data g h1
      have hm : (v, N.d y) ∈ vs.zip ns := by
        have : (vs.zip ns)[i]? = some (v, .d y) := by rw [List.getElem?_zip_eq_some]; exact ⟨h2, h3⟩
        exact List.mem_of_getElem? this
      exact Rep.mono sm2 _ _ (s3.memD hm)
end

/-! ### room, and no guard -/
structure RoomG (k : Nat) (A : Around) : Prop where
  r : Room k A
  g : A.guards = some []
theorem RoomG.mono {j k : Nat} {A : Around} (r : RoomG k A) (h : j ≤ k) : RoomG j A := ⟨r.r.mono h, r.g⟩
theorem RoomG.deeper {k : Nat} {A : Around} (r : RoomG (k + 1) A) (en : PySem.Env) : RoomG k (A.deeper en) := ⟨r.r.deeper en, r.g⟩
theorem RoomG.in1 {k : Nat} {A : Around} (r : RoomG (k + 1) A) : RoomG k A.in1 := ⟨r.r.in1, r.g⟩
theorem RoomG.make {k : Nat} {A : Around} (r : RoomG (k + 1) A) (C : Addr) (us : List Value) (kw : List (Str × Value)) : RoomG k (A.under (.builtin "type.__call__" ⟨.ref C :: us, kw⟩)) :=
  ⟨r.r.make C us kw, by
    have := r.g
    first
      | exact this
      | (simpa [Around.under, Code.guards, Code.isGuard, pushGuards, guardIds] using this)⟩
/-- the promise of a def of the text -/
structure FnG (P : Program) (w : World) (K : PySem.W.Frag) (mg : Str → Option Value) (base : Heap) (k : Nat) (f : Addr) (fd : FuncData) (ps : List Str) (sp : Sp) : Prop where
  len : ∀ vs H Q E, sp vs H Q E → vs.length = ps.length
  run : ∀ (A : Around) (outer : List PySem.Env) (s : Shared) (H : Hp) (args : Args) (us : List Value) (vs : List V) (Q : VK) (E : XK), RoomG k A → Env0 P w K mg base A outer s H → BindsTo s fd args (ps.zip us) → Vals vs us → sp vs H Q E →
    codeAny (model P w) A (.call (.ref f) args) (CR (L2.CX P w) outer P w H s Q E) s
theorem FnG.mono {P : Program} {w : World} {K : PySem.W.Frag} {mg : Str → Option Value} {base : Heap} {j k : Nat} {f : Addr} {fd : FuncData} {ps : List Str} {sp : Sp} (F : FnG P w K mg base j f fd ps sp) (h : j ≤ k) : FnG P w K mg base k f fd ps sp :=
  ⟨F.len, fun A outer s H args us vs Q E hr => F.run A outer s H args us vs Q E (hr.mono h)⟩
theorem fn_g {P : Program} {w : World} {K : PySem.W.Frag} {mg : Str → Option Value} {base : Heap} {k : Nat} {f : Addr} {nm qual : Str} {params : Arguments} {body : List Stmt} {scope : Scope} {dV kV doc pm cdv ct oc : Value} {an od : Option Addr}
    {osl : Array (Option Value)} {Ns ps : List Str} {sp : Sp} (lk : K.lookup f = some ⟨oc, od, .func (PySem.W.fnOf nm qual params body scope dV kV doc pm an cdv ct), osl⟩) (hcd : PySem.W.codeIn K cdv qual = true) (S : FnScope Ns ps scope) (len : ∀ vs H Q E, sp vs H Q E → vs.length = ps.length)
    (hb : ∀ (A : Around) (outer : List PySem.Env) (s : Shared) (H : Hp) (vs : List V) (Q : VK) (E : XK), RoomG k (A.deeper (envOfC qual scope s.heap.objs.size f cdv)) → sp vs H Q E → ∃ t, PSs (cxOf (L2.CX P w) P w K mg base Ns qual scope f cdv A outer s H E) body t ∧ t { nx := fun _ H' => Q .non H', rt := Q } (L2.start Ns vs) H) :
    FnG P w K mg base (k + 1) f (PySem.W.fnOf nm qual params body scope dV kV doc pm an cdv ct) ps sp := by
  refine ⟨len, fun A outer sh Hq args us vs Q E hr e0 bd rv hsp => ?_⟩
  have up : ∀ b o, base.get? b = some o → sh.heap.get? b = some o := fun b o e => (e0.bs b o e).1
  have hkind : ∀ y ∈ ps.zip us, scope.names.lookup y.1 = some .local ∨ (scope.names.lookup y.1 = some .cell ∧ ((cellsFrom (sh.heap.objs.size + 1) scope.names []).lookup y.1).isSome = true) := fun ⟨n, v⟩ hy =>
    (S.par n (List.of_mem_zip hy).1).elim .inl fun q => .inr ⟨q, PySem.W.cellsFrom_some _ _ _ (.inl q)⟩
  have KX := e0.mod.kin.keeps up
  refine codeAny_call_function hr.r.depth (KX _ _ lk) rfl S.co S.gen rfl (PySem.W.codeRec_of KX hcd) (bd _ _ _ _ (wpAny_newFunctionEnv_cells S.kind hkind fun env he s1 x => ?_))
  subst he
  obtain ⟨t, ht, hq⟩ := hb A outer sh Hq vs Q E (hr.deeper _) hsp
  refine ⟨(e0.mod.nolimit.keeps up).keeps x.toInCall.keep, codeAny_func (wpAny_mono (ht.run [] s1 (L2.start Ns vs) Hq _ (inv_start S hr.r.hd e0 (len _ _ _ _ hsp) rv x) hq) (fun fl s' hs => ?_) fun e s' hs => hs)⟩
  cases fl with
  | ret u =>
    obtain ⟨v, σ', H', J, r2, q⟩ := hs
    exact ⟨v, H', J.os, J.bare, J.base, J.hok, r2, q⟩
  | next =>
    obtain ⟨σ', H', J, q⟩ := hs
    exact ⟨.non, H', J.os, J.bare, J.base, J.hok, rfl, q⟩
  | brk =>
    obtain ⟨_, _, _, q⟩ := hs
    exact q.elim
  | cont =>
    obtain ⟨_, _, _, q⟩ := hs
    exact q.elim
theorem run_fnP {X : Cx} {k : Nat} {f : Addr} {fd : FuncData} {ps : List Str} {sp : Sp} {E : L2.St → XK} {pins : List (Addr × Obj)} {σ : L2.St} {H : Hp} {s : Shared} {Q : VK} {us : List Value} {vs : List V} (F : FnG X.prog X.w X.K X.mg X.base k f fd ps sp) (hr : RoomG k X.A) (hb : Binds X.K fd ps []) (hx : PassesAt (L2.CX X.prog X.w) X σ (E σ))
    (I : Inv X pins σ H s) (r : Vals vs us) (h : sp vs H Q (E σ)) : wpAny (model X.prog X.w) X.A (call (.ref f) us) (EP X pins σ Q) X.xe s := by
  have bd := hb s us I.kIn (by rw [List.append_nil, ← r.length]; exact F.len _ _ _ _ h)
  rw [List.append_nil] at bd
  refine wpAny_call (codeAny_mono (F.run X.A X.stack s H ⟨us, []⟩ us vs Q (E σ) hr I.env0 bd r h) fun res s' hq => ?_)
  cases res with
  | error er => exact hx pins H s er s' I hq
  | ok fl =>
    cases fl with
    | ret u => exact I.after hq
    | next => exact hq.elim
    | brk => exact hq.elim
    | cont => exact hq.elim
theorem pe_callP {X : Cx} {k : Nat} {f : Addr} {fd : FuncData} {ps : List Str} {sp : Sp} {E : L2.St → XK} {x : Str} {p pos : Pos} {e : Expr} {es : List Expr} {t : TA} (F : FnG X.prog X.w X.K X.mg X.base k f fd ps sp) (hr : RoomG k X.A) (hg : Gl X x) (hm : X.mg x = some (.ref f)) (hk : PySem.W.keepIn X.K (.ref f) = true) (hb : Binds X.K fd ps []) (hx : ∀ σ, PassesAt (L2.CX X.prog X.w) X σ (E σ))
    (ha : PA X (e :: es) t) (hdb : (x == ("__debug__" : Str)) = false) (he : starEach (e :: es) X.env = (false, eval e X.env) :: starEach es X.env) (hpl : (backTo pos (starEach es X.env)).any (·.1) = false) : PE X (.Call (.Name x p) (e :: es) [] pos) (tCallS sp E t) := by
  refine ⟨fun pins sh sl Hp Q I hw => wpAny_Call_Name_kw (ld_glob I hg hm ?_ hdb)⟩
  exact PySem.W.callWith_K (h₀ := X.base) I.ok.mod.kin hk (thn (ha.run pos pins sh sl Hp _ I hw) fun us s1 ⟨vs, H1, I1, r, q⟩ => ⟨I1.kIn, run_fnP F hr hb (hx sl) I1 r q⟩) he hpl
/-! ### calls of the text's own defs -/
def aApp (a b : WA) : WA := fun env k x => a env (fun vals e => b e (fun vals2 e2 => k (vals ++ vals2) e2) x) x
def aPick (p : List Nat) (a : WA) : WA := fun env k x => a env (fun vals e => p.Perm (List.range vals.length) ∧ k (pick p vals) e) x
def tApp (a b : TA) : TA := fun σ H Q => a σ H fun vs H1 => b σ H1 fun ws H2 => Q (vs ++ ws) H2
def tPick (p : List Nat) (a : TA) : TA := fun σ H Q => a σ H fun vs H1 => Q (pick p vs) H1
def PKD (X : Cx) (W : WX) (kws : List Keyword) (a : WA) : Prop := ∃ ta, PK X kws ta ∧ RunsA X.K W a ta
/-- the parameters, from the n positional values and the values of the keywords ks, by places p -/
def KB (K : PySem.W.Frag) (fd : FuncData) (ps : List Str) (n : Nat) (ks : List Str) (p : List Nat) : Prop :=
  ∀ (s : Shared) (us ws : List Value), K.In s.heap → us.length = n → ws.length = ks.length → BindsTo s fd ⟨us, ks.zip ws⟩ (ps.zip (pick p (us ++ ws)))
section
variable {K : PySem.W.Frag} {W : WX} {X : Cx}
theorem paired_app {α β : Type} {R : α → β → Prop} : ∀ {a b : List α} {c d : List β}, Paired R a c → Paired R b d → Paired R (a ++ b) (c ++ d)
  | [], _, _, _, .nil, h => h
  | _ :: _, _, _ :: _, _, .cons x r, h => .cons x (paired_app r h)
theorem tmps_app : ∀ {a b : List Val} {c d : List V}, a.length = c.length → tmps (a ++ b) (c ++ d) = tmps a c ++ tmps b d
  | [], _, [], _, _ => rfl
  | [], _, _ :: _, _, h => by simp at h
  | _ :: _, _, [], _, h => by simp at h
  | w :: l, b, v :: vs, d, h => by
    rw [List.cons_append, List.cons_append, tmps_cons, tmps_cons, tmps_app (by simpa using h), List.append_assoc]
theorem runs_aApp {a b : WA} {ta tb : TA} (h1 : RunsA K W a ta) (h2 : RunsA K W b tb) : RunsA K W (aApp a b) (tApp ta tb) := by
  intro σ H Fr Hf env ts k x Q s c hw q hx
  refine h1 σ H Fr Hf env ts _ x _ s c hw (fun vals e vs Hf1 H1 hk sm c1 so s1 => ?_) hx
  refine h2 σ H1 Fr Hf1 e (tmps vals vs ++ ts) _ x _ s1 c1 hk (fun vals2 e2 vs2 Hf2 H2 hk2 sm2 c2 so2 s2 => ?_) ((hx.mono sm).more _)
  refine q (vals ++ vals2) e2 (vs ++ vs2) Hf2 H2 hk2 (sm.trans sm2) c2 (paired_app so so2) ?_
  rw [tmps_app so.length]
  refine s2.perm (List.Perm.append_right _ ?_)
  rw [← List.append_assoc]
  exact List.Perm.append_right _ List.perm_append_comm
theorem pick_zip {α β : Type} {l : List α} {m : List β} (h : l.length = m.length) : ∀ p : List Nat, (pick p l).zip (pick p m) = pick p (l.zip m)
  | [] => rfl
  | i :: p => by
    have ih := pick_zip h p
    unfold pick at ih ⊢
    rw [List.filterMap_cons, List.filterMap_cons, List.filterMap_cons]
    by_cases hi : i < l.length
    · have hm : i < m.length := by omega
      have e1 : l[i]? = some l[i] := by simp [hi]
      have e2 : m[i]? = some m[i] := by simp [hm]
      have e3 : (l.zip m)[i]? = some (l[i], m[i]) := by rw [List.getElem?_zip_eq_some]; exact ⟨e1, e2⟩
      rw [e1, e2, e3]
      show (l[i], m[i]) :: (List.filterMap _ p).zip (List.filterMap _ p) = _
      rw [ih]
    · have e1 : l[i]? = none := List.getElem?_eq_none (by omega)
      have e2 : m[i]? = none := List.getElem?_eq_none (by omega)
      have e3 : (l.zip m)[i]? = none := List.getElem?_eq_none (by rw [List.length_zip]; omega)
      rw [e1, e2, e3]
      exact ih
theorem pick_range {α : Type} (l : List α) : pick (List.range l.length) l = l := by
  unfold pick
  refine List.ext_getElem? fun i => ?_
  have : (List.range l.length).filterMap (fun i => l[i]?) = (List.range l.length).attach.map (fun i => l[i.1]'(List.mem_range.mp i.2)) := by
    rw [← List.filterMap_eq_map]
    conv => lhs; rw [← List.attach_map_subtype_val (List.range l.length), List.filterMap_map]
    congr 1
    funext i
    have := List.mem_range.mp i.2
    simp [this]
  rw [this, List.getElem?_map]
  by_cases hi : i < l.length
  · simp [hi]
  · simp [hi]
theorem paired_pick {α β : Type} {R : α → β → Prop} {l : List α} {m : List β} (h : Paired R l m) : ∀ p : List Nat, Paired R (pick p l) (pick p m)
  | [] => .nil
  | i :: p => by
    have ih := paired_pick h p
    unfold pick at ih ⊢
    rw [List.filterMap_cons, List.filterMap_cons]
    cases e : m[i]? with
    | some b =>
      obtain ⟨a, e1, e2⟩ := paired_get h e
      rw [e1]
      exact .cons e2 ih
    | none =>
      have hl := h.length
      have : l[i]? = none := List.getElem?_eq_none (by have := List.getElem?_eq_none_iff.mp e; omega)
      rw [this]
      exact ih
def heldP (p : Val × V) : List (V × N) := held p.2 p.1
theorem tmps_flat : ∀ {vals : List Val} {vs : List V}, vals.length = vs.length → tmps vals vs = (vals.zip vs).flatMap heldP
  | [], [], _ => rfl
  | [], _ :: _, h => by simp at h
  | _ :: _, [], h => by simp at h
  | w :: l, v :: vs, h => by rw [tmps_cons, List.zip_cons_cons, List.flatMap_cons, tmps_flat (by simpa using h)]; rfl
theorem runs_aPick {p : List Nat} {a : WA} {ta : TA} (h : RunsA K W a ta) : RunsA K W (aPick p a) (tPick p ta) := by
  intro σ H Fr Hf env ts k x Q s c hw q hx
  refine h σ H Fr Hf env ts _ x _ s c hw (fun vals e vs Hf1 H1 hk sm c1 so s1 => ?_) hx
  have hl := so.length
  refine q (pick p vals) e (pick p vs) Hf1 H1 hk.2 sm c1 (paired_pick so p) (s1.perm ?_)
  refine List.Perm.append_right _ (List.Perm.append_right _ ?_)
  rw [tmps_flat hl, tmps_flat (paired_pick so p).length, pick_zip hl]
  refine List.Perm.flatMap_right _ ?_
  have e1 : pick (List.range (vals.zip vs).length) (vals.zip vs) = vals.zip vs := pick_range _
  have e2 : (vals.zip vs).length = vals.length := by rw [List.length_zip]; omega
  rw [e2] at e1
  conv => lhs; rw [← e1]
  exact List.Perm.filterMap _ hk.1.symm
theorem pkd_nil : PKD X W [] aNil := ⟨_, pk_nil, runs_aNil⟩
theorem pkd_cons {e : Expr} {nm : Option Str} {kpos : Pos} {kws : List Keyword} {o : WO} {a : WA} (h1 : PDO X W e o) (h2 : PKD X W kws a) : PKD X W (⟨nm, e, kpos⟩ :: kws) (aCons o a) := by
  obtain ⟨te, a1, a2⟩ := h1
  obtain ⟨ta, b1, b2⟩ := h2
  exact ⟨_, pk_cons a1 b1, runs_aCons a2 b2⟩
variable {k n np : Nat} {f C : Addr} {fd : FuncData} {ps ks : List Str} {sp : Sp} {fs : FS} {x : Str} {p pos : Pos} {e : Expr} {es : List Expr} {kws : List Keyword} {a b : WA} {pm : List Nat}
theorem pd_call (F : FnG X.prog X.w X.K X.mg X.base k f fd ps (spOf X.K np fs)) (hr : RoomG k X.A) (hg : Gl X x) (hm : X.mg x = some (.ref f)) (hk : PySem.W.keepIn X.K (.ref f) = true) (hb : Binds X.K fd ps []) (tk : Takes X W)
    (ha : PAD X W (e :: es) a) (hdb : (x == ("__debug__" : Str)) = false := by decide) (he : starEach (e :: es) X.env = (false, eval e X.env) :: starEach es X.env := by rfl) (hpl : (backTo pos (starEach es X.env)).any (·.1) = false := by rfl) :
    PD X W (.Call (.Name x p) (e :: es) [] pos) (wCall np fs a) := by
  obtain ⟨ta, a1, a2⟩ := ha
  exact ⟨_, pe_callP F hr hg hm hk hb (fun σ => passAt tk σ) a1 hdb he hpl, runs_call (fun _ _ _ _ z => z) a2⟩
/-- with keywords -/
def tCallG (sp : Sp) (n : Nat) (ks : List Str) (pm : List Nat) (E : L2.St → XK) (t tk : TA) : TE := fun σ H Q => t σ H fun vs H1 => tk σ H1 fun zs H2 => (vs.length = n ∧ zs.length = ks.length) ∧ sp (pick pm (vs ++ zs)) H2 Q (E σ)
theorem vals_pick {vs : List V} {us : List Value} (h : Vals vs us) : ∀ p : List Nat, Vals (pick p vs) (pick p us)
  | [] => .nil
  | i :: p => by
    have ih := vals_pick h p
    unfold pick at ih ⊢
    rw [List.filterMap_cons, List.filterMap_cons]
    cases e : vs[i]? with
    | some v =>
      obtain ⟨u, e1, e2⟩ := h.get e
      rw [e1]
      exact .cons e2 ih
    | none =>
      have hl := h.length
      have : us[i]? = none := List.getElem?_eq_none (by have := List.getElem?_eq_none_iff.mp e; omega)
      rw [this]
      exact ih
theorem run_fnG {pins : List (Addr × Obj)} {σ : L2.St} {H : Hp} {s : Shared} {Q : VK} {E : L2.St → XK} {us ws : List Value} {vs zs : List V} (F : FnG X.prog X.w X.K X.mg X.base k f fd ps sp) (hr : RoomG k X.A) (hb : KB X.K fd ps n ks pm) (hx : PassesAt (L2.CX X.prog X.w) X σ (E σ))
    (I : Inv X pins σ H s) (r : Vals vs us) (rz : Vals zs ws) (hl : vs.length = n ∧ zs.length = ks.length) (h : sp (pick pm (vs ++ zs)) H Q (E σ)) : wpAny (model X.prog X.w) X.A (call (.ref f) us (ks.zip ws)) (EP X pins σ Q) X.xe s := by
  have bd := hb s us ws I.kIn (by rw [← r.length]; exact hl.1) (by rw [← rz.length]; exact hl.2)
  refine wpAny_call (codeAny_mono (F.run X.A X.stack s H _ _ _ Q (E σ) hr I.env0 bd (vals_pick (r.append rz) pm) h) fun res s' hq => ?_)
  cases res with
  | error er => exact hx pins H s er s' I hq
  | ok fl =>
    cases fl with
    | ret u => exact I.after hq
    | next => exact hq.elim
    | brk => exact hq.elim
    | cont => exact hq.elim
theorem pe_callG {t tk : TA} {E : L2.St → XK} (F : FnG X.prog X.w X.K X.mg X.base k f fd ps sp) (hr : RoomG k X.A) (hg : Gl X x) (hm : X.mg x = some (.ref f)) (hk : PySem.W.keepIn X.K (.ref f) = true) (hb : KB X.K fd ps n ks pm) (hx : ∀ σ, PassesAt (L2.CX X.prog X.w) X σ (E σ))
    (ha : PA X (e :: es) t) (hkw : PK X kws tk) (hall : (backToKw pos (keywordEach kws X.env)).all (·.1.isSome) = true) (hks : (backToKw pos (keywordEach kws X.env)).filterMap (·.1) = ks)
    (hdb : (x == ("__debug__" : Str)) = false) (he : starEach (e :: es) X.env = (false, eval e X.env) :: starEach es X.env)
    (hpl : ((backTo pos (starEach (e :: es) X.env)).any (·.1) || (backToKw pos (keywordEach kws X.env)).any (·.1.isNone)) = false) : PE X (.Call (.Name x p) (e :: es) kws pos) (tCallG sp n ks pm E t tk) := by
  refine ⟨fun pins sh sl Hp Q I hw => wpAny_Call_Name_kw (ld_glob I hg hm ?_ hdb)⟩
  refine PySem.W.callWith_KW (h₀ := X.base) I.ok.mod.kin hk hall (thn (ha.run pos pins sh sl Hp _ I hw) fun us s1 ⟨vs, H1, I1, r, q⟩ => ?_) hpl he
  refine thn (hkw.run pos pins s1 sl H1 _ I1 q) fun ws s2 ⟨zs, H2, I2, rz, hl, q2⟩ => ⟨I2.kIn, ?_⟩
  rw [hks]
  exact run_fnG F hr hb (hx sl) I2 r rz hl q2
theorem pe_callG0 {tk : TA} {E : L2.St → XK} (F : FnG X.prog X.w X.K X.mg X.base k f fd ps sp) (hr : RoomG k X.A) (hg : Gl X x) (hm : X.mg x = some (.ref f)) (hk : PySem.W.keepIn X.K (.ref f) = true) (hb : KB X.K fd ps 0 ks pm) (hx : ∀ σ, PassesAt (L2.CX X.prog X.w) X σ (E σ))
    (hkw : PK X kws tk) (hall : (backToKw pos (keywordEach kws X.env)).all (·.1.isSome) = true) (hks : (backToKw pos (keywordEach kws X.env)).filterMap (·.1) = ks)
    (hdb : (x == ("__debug__" : Str)) = false) (hpl : ((backTo pos (starEach [] X.env)).any (·.1) || (backToKw pos (keywordEach kws X.env)).any (·.1.isNone)) = false) : PE X (.Call (.Name x p) [] kws pos) (tCallG sp 0 ks pm E tNil tk) := by
  refine ⟨fun pins sh sl Hp Q I hw => wpAny_Call_Name_kw (ld_glob I hg hm ?_ hdb)⟩
  refine PySem.W.callWith_KW0 (h₀ := X.base) I.ok.mod.kin hk hall ?_ hpl
  refine thn (hkw.run pos pins sh sl Hp _ I hw) fun ws s2 ⟨zs, H2, I2, rz, hl, q2⟩ => ⟨I2.kIn, ?_⟩
  rw [hks]
  exact run_fnG (us := []) (vs := []) F hr hb (hx sl) I2 .nil rz hl q2
/-- the words of a call with keywords: n positional values, then those of the keywords -/
def aKw (n m : Nat) (pm : List Nat) (a b : WA) : WA := fun env k x => a env (fun vals e => b e (fun vals2 e2 => (vals.length = n ∧ vals2.length = m) ∧ pm.Perm (List.range (vals ++ vals2).length) ∧ k (pick pm (vals ++ vals2)) e2) x) x
theorem runs_callG {ta tb : TA} (hb : RunsA K W b tb) (ha : RunsA K W a ta) : Runs K W (wCall np fs (aKw n ks.length pm a b)) (tCallG (spOf K np fs) n ks pm (L2.WE W) ta tb) := by
  have ra : RunsA K W (aKw n ks.length pm a b) (fun σ H Q => ta σ H fun vs H1 => tb σ H1 fun zs H2 => (vs.length = n ∧ zs.length = ks.length) ∧ Q (pick pm (vs ++ zs)) H2) := by
    intro σ H Fr Hf env ts k x Q s c hw q hx
    refine ha σ H Fr Hf env ts _ x _ s c hw (fun vals e vs Hf1 H1 hk sm c1 so s1 => ?_) hx
    refine hb σ H1 Fr Hf1 e (tmps vals vs ++ ts) _ x _ s1 c1 hk (fun vals2 e2 vs2 Hf2 H2 hk2 sm2 c2 so2 s2 => ?_) ((hx.mono sm).more _)
    obtain ⟨⟨l1, l2⟩, hp, hk2⟩ := hk2
    have so3 := paired_app so so2
    have hl := so3.length
    refine ⟨⟨by rw [← so.length]; exact l1, by rw [← so2.length]; exact l2⟩, q _ e2 _ Hf2 H2 hk2 (sm.trans sm2) c2 (paired_pick so3 pm) (s2.perm ?_)⟩
    refine List.Perm.append_right _ ?_
    rw [← List.append_assoc]
    refine List.Perm.append_right _ (List.perm_append_comm.trans ?_)
    rw [← tmps_app so.length, tmps_flat hl, tmps_flat (paired_pick so3 pm).length, pick_zip hl]
    refine List.Perm.flatMap_right _ ?_
    have e1 : pick (List.range ((vals ++ vals2).zip (vs ++ vs2)).length) ((vals ++ vals2).zip (vs ++ vs2)) = (vals ++ vals2).zip (vs ++ vs2) := pick_range _
    have e2 : ((vals ++ vals2).zip (vs ++ vs2)).length = (vals ++ vals2).length := by rw [List.length_zip]; omega
    rw [e2] at e1
    conv => lhs; rw [← e1]
    exact List.Perm.filterMap _ hp.symm
  have r := runs_call (sp := spOf K np fs) (fun _ _ _ _ z => z) ra
  intro σ H Fr Hf env ts k x Q s c hw q hx
  exact r σ H Fr Hf env ts k x Q s c hw q hx
theorem pd_callK (F : FnG X.prog X.w X.K X.mg X.base k f fd ps (spOf X.K np fs)) (hr : RoomG k X.A) (hg : Gl X x) (hm : X.mg x = some (.ref f)) (hk : PySem.W.keepIn X.K (.ref f) = true) (hb : KB X.K fd ps n ks pm) (tk : Takes X W)
    (ha : PAD X W (e :: es) a) (hkw : PKD X W kws b) (hall : (backToKw pos (keywordEach kws X.env)).all (·.1.isSome) = true := by rfl) (hks : (backToKw pos (keywordEach kws X.env)).filterMap (·.1) = ks := by rfl)
    (hdb : (x == ("__debug__" : Str)) = false := by decide) (he : starEach (e :: es) X.env = (false, eval e X.env) :: starEach es X.env := by rfl)
    (hpl : ((backTo pos (starEach (e :: es) X.env)).any (·.1) || (backToKw pos (keywordEach kws X.env)).any (·.1.isNone)) = false := by rfl) : PD X W (.Call (.Name x p) (e :: es) kws pos) (wCall np fs (aKw n ks.length pm a b)) := by
  obtain ⟨ta, a1, a2⟩ := ha
  obtain ⟨tb, b1, b2⟩ := hkw
  exact ⟨_, pe_callG F hr hg hm hk hb (fun σ => passAt tk σ) a1 b1 hall hks hdb he hpl, runs_callG b2 a2⟩
theorem pd_callK0 (F : FnG X.prog X.w X.K X.mg X.base k f fd ps (spOf X.K np fs)) (hr : RoomG k X.A) (hg : Gl X x) (hm : X.mg x = some (.ref f)) (hk : PySem.W.keepIn X.K (.ref f) = true) (hb : KB X.K fd ps 0 ks pm) (tk : Takes X W)
    (hkw : PKD X W kws b) (hall : (backToKw pos (keywordEach kws X.env)).all (·.1.isSome) = true := by rfl) (hks : (backToKw pos (keywordEach kws X.env)).filterMap (·.1) = ks := by rfl)
    (hdb : (x == ("__debug__" : Str)) = false := by decide) (hpl : ((backTo pos (starEach [] X.env)).any (·.1) || (backToKw pos (keywordEach kws X.env)).any (·.1.isNone)) = false := by rfl) : PD X W (.Call (.Name x p) [] kws pos) (wCall np fs (aKw 0 ks.length pm aNil b)) := by
  obtain ⟨tb, b1, b2⟩ := hkw
  exact ⟨_, pe_callG0 F hr hg hm hk hb (fun σ => passAt tk σ) b1 hall hks hdb hpl, runs_callG b2 runs_aNil⟩
end
section
variable {K : PySem.W.Frag} {x qual : Str} {params : Arguments} {body : List Stmt} {scope : Scope} {kws : List (Str × V)} {f : Addr} {fd : FuncData} {ps ks : List Str} {n : Nat} {pm : List Nat}
/-- no defaults: all is written -/
theorem kb_of (F : FunD K x qual params body scope [] kws f fd)
    (h : ∀ (kV doc pm' : Value) (an : Option Addr) (cdv ct : Value) (us ws : List Value), us.length = n → ws.length = ks.length → bindArgs (PySem.W.fnOf x qual params body scope .none kV doc pm' an cdv ct) ⟨us, ks.zip ws⟩ = pure (ps.zip (pick pm (us ++ ws)))) : KB K fd ps n ks pm := by
  obtain ⟨oc, od, dV, kV, doc, pm', an, cdv, ct, osl, rfl, lk, hcd, hD, hK⟩ := F.ex
  rcases hD with ⟨_, rfl⟩ | ⟨e, _⟩
  · exact fun s us ws _ h1 h2 => .of_eq (h kV doc pm' an cdv ct us ws h1 h2)
  · exact absurd rfl e
end
/-! ### a def keeps its contract -/
def startE (Ns : List Str) (ns : List N) : Env := ns.map some ++ List.replicate (Ns.length - ns.length) none
def xFix (np : Nat) (ex : Exn) : Bool := ex.xs.all fun | .sl i => decide (i < np) | .d _ => true
def endsOf (np : Nat) (k : N → Env → Prop) : ED := ⟨fun e => k (.d .non) (e.take np), fun r e => k r (e.take np), fun _ => False, fun _ => False⟩
def xOf (np : Nat) (x : XP) : XP := fun ex e => xFix np ex = true ∧ x ex (e.take np)
section
variable {K : PySem.W.Frag} {P : Program} {w : World} {mg : Str → Option Value} {base : Heap}
theorem slots_start : ∀ {vs : List V} {ns : List N} (m j : Nat), vs.length = ns.length → slots (vs.map some ++ List.replicate m none) (ns.map some ++ List.replicate j none) = vs.zip ns
  | [], [], m, j, _ => by
    show slots (List.replicate m none) (List.replicate j none) = []
    induction m generalizing j with
    | zero => rfl
    | succ m ih =>
      cases j with
      | zero => rfl
      | succ j => exact ih j
  | [], _ :: _, _, _, h => by simp at h
  | _ :: _, [], _, _, h => by simp at h
  | v :: vs, n :: ns, m, j, h => by
    exact congrArg ((v, n) :: ·) (slots_start (vs := vs) (ns := ns) m j (by simpa using h))
theorem slots_take_of : ∀ {σ : L2.St} {env : Env} {vs : List V}, (∀ i, i < vs.length → σ[i]? = (vs[i]?).map some) → ∃ qs, (slots σ env).Perm (slots (vs.map some) (env.take vs.length) ++ qs)
  | σ, env, [], h => ⟨slots σ env, by cases env <;> exact .refl _⟩
  | [], env, v :: vs, h => by simpa using h 0 (by simp)
  | x :: σ, [], v :: vs, h => ⟨[], by cases x <;> exact .refl _⟩
  | x :: σ, o :: env, v :: vs, h => by
    have hx : x = some v := by simpa using h 0 (by simp)
    subst hx
    obtain ⟨qs, hq⟩ := slots_take_of (σ := σ) (env := env) (vs := vs) fun i hi => by simpa using h (i + 1) (by simpa using hi)
    refine ⟨qs, ?_⟩
    cases o with
    | none => exact hq
    | some n => exact hq.cons (v, n)
theorem fix_len {σ : L2.St} {vs : List V} (h : ∀ i, i < vs.length → σ[i]? = (vs[i]?).map some) : vs.length ≤ σ.length := by
  cases e : vs.length with
  | zero => exact Nat.zero_le _
  | succ n =>
    have hn : n < vs.length := by omega
    have z := h n hn
    rw [show vs[n]? = some vs[n] by simp [hn]] at z
    have := lt_of_get z
    omega
theorem exn_fix {Hf H : Hp} {σ : L2.St} {vs : List V} {ex : Exn} {cls : Value} {d : Option Addr} (hf : ∀ i, i < vs.length → σ[i]? = (vs[i]?).map some) (hx : xFix vs.length ex = true) (r : ExnRep K Hf H σ ex cls d) : ExnRep K Hf H (vs.map some) ex cls d := by
  obtain ⟨r1, a, fv, r2, r3, r4, r5⟩ := r
  refine ⟨r1, a, fv, r2, r3, r4, ?_⟩
  unfold xFix at hx
  clear r4 r3
  have go : ∀ {xs : List XV} {us : List V}, (xs.all fun | .sl i => decide (i < vs.length) | .d _ => true) = true → Paired (XRep K Hf σ) xs us → Paired (XRep K Hf (vs.map some)) xs us := by
    intro xs
    induction xs with
    | nil => intro us _ p; cases p; exact .nil
    | cons y ys ih =>
      intro us c p
      rw [List.all_cons, Bool.and_eq_true] at c
      cases p with
      | cons a1 r =>
        refine .cons ?_ (ih c.2 r)
        cases y with
        | d z => exact a1
        | sl i =>
          have hi : i < vs.length := by simpa using c.1
          have z : σ[i]? = some (some _) := a1
          rw [hf i hi] at z
          show (vs.map some)[i]? = some (some _)
          rw [List.getElem?_map]
          exact z
  exact go hx r5
/-- THE RULE -/
theorem fn_d {x qual : Str} {params : Arguments} {body : List Stmt} {scope : Scope} {dvs : List V} {kws : List (Str × V)} {f : Addr} {fd : FuncData} {Ns ps : List Str} {k np : Nat} {fs : FS} {ws : WS} (F : FunD K x qual params body scope dvs kws f fd) (S : FnScope Ns ps scope) (hnp : ps.length = np)
    (hb : ∀ (cdv : Value) (A : Around) (outer : List PySem.Env) (s : Shared) (H : Hp) (E : XK), RoomG k (A.deeper (envOfC qual scope s.heap.objs.size f cdv)) →
      PSsD (cxOf (L2.CX P w) P w K mg base Ns qual scope f cdv A outer s H E) (fun cls d _ H => E cls d H) (List.range np) body ws)
    (hs : ∀ ns k x, fs ns k x → ns.length = np → ws (startE Ns ns) (endsOf np k) (xOf np x)) : FnG P w K mg base (k + 1) f fd ps (spOf K np fs) := by
  obtain ⟨oc, od, dV, kV, doc, pm, an, cdv, ct, osl, rfl, lk, hcd, _, _⟩ := F.ex
  refine fn_g lk hcd S (fun vs H Q E h => by rw [hnp]; exact h.1) fun A outer s H vs Q E hr hsp => ?_
  obtain ⟨t, h1, h2⟩ := hb cdv A outer s H E hr
  obtain ⟨hl, Fr, Hf, ns, kk, xx, hn, st, hfs, hq, hx⟩ := hsp
  have hpl : np ≤ Ns.length := by have := congrArg List.length S.pre; rw [List.length_take, hnp] at this; omega
  have hlen : (L2.start Ns vs).length = (startE Ns ns).length := by unfold L2.start startE; simp; omega
  have fixv : ∀ {σ' : L2.St}, FixS (List.range np) (L2.start Ns vs) σ' → ∀ i, i < vs.length → σ'[i]? = (vs[i]?).map some := fun f i hi => by
    rw [f i (List.mem_range.mpr (by omega))]
    unfold L2.start
    rw [List.getElem?_append_left (by simpa using hi), List.getElem?_map]
  have lenO : ∀ {σ' : L2.St} {env' : Env}, FixS (List.range np) (L2.start Ns vs) σ' → Cov σ' env' → (env'.take np).length = np := fun {σ' env'} f c => by
    have z := fix_len (fixv f)
    have := c.len
    rw [List.length_take]
    omega
  have outS : ∀ {σ' : L2.St} {env' : Env} {Hf' H' : Hp} {ts : List (V × N)}, FixS (List.range np) (L2.start Ns vs) σ' → St K Fr Hf' H' (ts ++ slots σ' env') → St K Fr Hf' H' (ts ++ slots (vs.map some) (env'.take np)) := fun {σ' env' Hf' H' ts} f s' => by
    obtain ⟨qs, hp⟩ := slots_take_of (env := env') (fixv f)
    rw [hl] at hp
    have := s'.perm (List.Perm.append_left ts hp)
    rw [← List.append_assoc] at this
    exact this.left
  refine ⟨t, h1, h2 (L2.start Ns vs) H Fr Hf (startE Ns ns) (endsOf np kk) (xOf np xx) _ ?_ ⟨hlen, fun i n h => ?_⟩ (hs ns kk xx hfs hn) ⟨fun env' σ' Hf' H' hk f sm c s' => ?_, fun _ _ _ _ h => h.elim, fun _ _ _ _ h => h.elim, fun n env' σ' v Hf' H' hk f sm c s' => ?_⟩ fun σ' ex env' Hf' H' cls d f hxx sm c s' r => ?_⟩
  · unfold L2.start startE
    rw [slots_start _ _ (by omega)]
    exact st
  · unfold startE at h
    have hi : i < ns.length := by
      by_cases hi : i < ns.length
      · exact hi
      · rw [List.getElem?_append_right (by simpa using hi), List.getElem?_replicate] at h
        split at h <;> cases h
    have hv : i < vs.length := by omega
    refine ⟨vs[i], ?_⟩
    unfold L2.start
    rw [List.getElem?_append_left (by simpa using hv), List.getElem?_map]
    simp [hv]
  · exact hq (.d .non) (env'.take np) .non Hf' H' hk (lenO f c) sm ((outS (ts := []) f s').addD rep_non)
  · exact hq n (env'.take np) v Hf' H' hk (lenO f c) sm (outS (ts := [(v, n)]) f s')
  · refine hx ex (env'.take np) Hf' H' cls d hxx.2 (lenO f c) sm (outS (ts := []) f s') ?_
    exact exn_fix (fixv f) (by rw [hl]; exact hxx.1) r
end

/-! ### isinstance, of built-in types -/
def isaB : D → String → Bool
  | .non, n => n == "NoneType"
  | .bl _, n => n == "bool" || n == "int"
  | .int _, n => n == "int"
  | .str _, n => n == "str"
  | .lst _, n => n == "list"
  | .tup _, n => n == "tuple"
  | .dic _ _, n => n == "dict"
  | .scr _, n => n == "list"
  | .obj _ _ _, _ => false
  | .ext _, _ => false
def isaOk : D → Bool
  | .obj _ _ _ => false
  | .ext _ => false
  | _ => true
def known (n : String) : Bool := n == "int" || n == "bool" || n == "str" || n == "list" || n == "tuple" || n == "dict"
def tyS : D → String
  | .non => "NoneType"
  | .bl _ => "bool"
  | .int _ => "int"
  | .str _ => "str"
  | .lst _ => "list"
  | .tup _ => "tuple"
  | .dic _ _ => "dict"
  | .scr _ => "list"
  | .obj _ _ _ => "object"
  | .ext _ => "object"
theorem kit_tab : ∀ t ∈ ["NoneType", "bool", "int", "str", "list", "tuple", "dict"], ∀ n ∈ ["int", "bool", "str", "list", "tuple", "dict"], kitB t n = some (n == t || (t == "bool" && n == "int")) := by decide +kernel
theorem known_mem {n : String} (h : known n = true) : n ∈ ["int", "bool", "str", "list", "tuple", "dict"] := by
  unfold known at h
  simp only [Bool.or_eq_true, beq_iff_eq] at h
  simp only [List.mem_cons, List.not_mem_nil, or_false]
  rcases h with ((((h | h) | h) | h) | h) | h <;> simp [h]
theorem kit_d {d : D} {n : String} (ho : isaOk d = true) (hn : known n = true) : kitB (tyS d) n = some (isaB d n) := by
  have m := known_mem hn
  have nn : n ≠ "NoneType" := by
    intro e
    rw [e] at hn
    exact absurd hn (by decide)
  cases d with
  | non => rw [kit_tab _ (by simp [tyS]) n m]; simp [tyS, isaB]
  | bl b => rw [kit_tab _ (by simp [tyS]) n m]; simp [tyS, isaB]
  | int i => rw [kit_tab _ (by simp [tyS]) n m]; simp [tyS, isaB]
  | str z => rw [kit_tab _ (by simp [tyS]) n m]; simp [tyS, isaB]
  | lst l => rw [kit_tab _ (by simp [tyS]) n m]; simp [tyS, isaB]
  | tup l => rw [kit_tab _ (by simp [tyS]) n m]; simp [tyS, isaB]
  | dic ks l => rw [kit_tab _ (by simp [tyS]) n m]; simp [tyS, isaB]
  | scr l => rw [kit_tab _ (by simp [tyS]) n m]; simp [tyS, isaB]
  | obj c fs l => cases ho
  | ext _ => cases ho
def wIsi (o : WO) (ns : List String) : WE := fun env k x => o env (fun a e => onS ((a.get e).bind flat) fun d => isaOk d = true ∧ k (.d (.bl (ns.any (isaB d)))) e) x
section
variable {K : PySem.W.Frag} {W : WX} {X : Cx}
theorem tyX_top {Hf H : Hp} {d : D} {v : V} (ho : isaOk d = true) (h : Top K Hf H d v) : TyX K H v (.type (tyS d)) := by
  cases d with
  | non => rw [top_non h]; exact .base .non
  | bl b => rw [top_bl h]; exact .base (.bl b)
  | int b => rw [top_int h]; exact .base (.int b)
  | str b => rw [top_str h]; exact .base (.str b)
  | lst l => obtain ⟨p, vs, rfl, e, _⟩ := h; exact .base (.lst e)
  | tup l => obtain ⟨p, vs, rfl, e, _⟩ := h; exact .base (.tup e)
  | dic ks l => obtain ⟨p, es, rfl, e, _⟩ := h; exact .base (.dK e)
  | obj c fs l => cases ho
  | ext _ => cases ho
  | scr l =>
    obtain ⟨p, rfl, e⟩ := h
    rcases e with e | ⟨o, its, n, e1, e2, _⟩
    · rcases e with e | ⟨o, e⟩
      · exact .base (.lst e)
      · exact .base (.frz e)
    · exact .kList e1 e2
theorem kitAny_d {d : D} (ho : isaOk d = true) : ∀ {ns : List String}, (∀ n ∈ ns, known n = true) → PySem.W.kitAny K (.type (tyS d)) (ns.map Value.type) = some (ns.any (isaB d))
  | [], _ => rfl
  | n :: ns, h => by
    rw [List.map_cons]
    refine kitAny_cons (b := isaB d n) (kit_ty (kit_d ho (h n List.mem_cons_self))) (fun e => ?_) fun e => by rw [List.any_cons, e]; rfl
    rw [List.any_cons, e, Bool.false_or]
    exact kitAny_d ho fun m hm => h m (List.mem_cons_of_mem _ hm)
def taTys : List String → TA
  | [] => tNil
  | n :: ns => tCons (tC (.ty n)) (taTys ns)
theorem taTys_run {σ : L2.St} {H : Hp} : ∀ {ns : List String} {Q : List V → Hp → Prop}, Q (ns.map V.ty) H → taTys ns σ H Q
  | [], _, h => h
  | n :: ns, Q, h => taTys_run (ns := ns) (Q := fun xs H2 => Q (V.ty n :: xs) H2) h
theorem paired_ty : ∀ ns : List String, Paired ClsV (ns.map V.ty) (ns.map Value.type)
  | [] => .nil
  | n :: ns => .cons (.ty n) (paired_ty ns)
theorem val_flat {Fr Hf H : Hp} {σ : L2.St} {env : Env} {ts : List (V × N)} {v : V} {val : Val} {d : D} (vi : ValIs K Fr Hf H σ env ts v val) (hd : (val.get env).bind flat = some d) : Top K Hf H d v := by
  cases g : val.get env with
  | none => rw [g] at hd; cases hd
  | some n =>
    rw [g, Option.bind_some] at hd
    exact vi.st.top (get_mem vi.slot (fun n e => List.mem_append_left _ (held_mem n e)) g) hd
theorem ValIs.rest {Fr Hf H : Hp} {σ : L2.St} {env : Env} {ts : List (V × N)} {v : V} {val : Val} (vi : ValIs K Fr Hf H σ env ts v val) : St K Fr Hf H (ts ++ slots σ env) := by
  have s := vi.st
  rw [List.append_assoc] at s
  exact s.right
theorem runs_isi1 {o : WO} {te : TE} {n : String} (hn : known n = true) (h : RunsO K W o te) : Runs K W (wIsi o [n]) (tCB (rIsi K) (tCons te (tCons (tC (.ty n)) tNil))) := by
  intro σ H Fr Hf env ts k x Q s c hw q hx
  refine h σ H Fr Hf env ts _ x _ s c hw (fun val e v Hf' H' hk sm c' vi => ?_) hx
  obtain ⟨d, hd, ho, hk⟩ := onS_elim hk
  refine ⟨v, .ty n, .type (tyS d), .type n, isaB d n, rfl, .ty n, tyX_top ho (val_flat vi hd), kit_ty (kit_d ho hn), ?_⟩
  exact q _ e _ Hf' H' (by simpa using hk) sm c' (vi.rest.addD rep_bl)
theorem runs_isiT {o : WO} {te : TE} {ns : List String} (hn : ∀ n ∈ ns, known n = true) (hl : ns.length ≤ sizeLine) (h : RunsO K W o te) : Runs K W (wIsi o ns) (tCB (rIsiT K) (tCons te (tCons (tTup (taTys ns)) tNil))) := by
  intro σ H Fr Hf env ts k x Q s c hw q hx
  refine h σ H Fr Hf env ts _ x _ s c hw (fun val e v Hf' H' hk sm c' vi => ?_) hx
  obtain ⟨d, hd, ho, hk⟩ := onS_elim hk
  refine taTys_run ⟨by rw [List.length_map]; exact hl, fun p hp => ?_⟩
  have t := val_flat vi hd
  have t2 : Top K Hf' (upd H' p (.tup (ns.map V.ty))) d v := by
    have g : ∀ b u, H' b = some u → (upd H' p (.tup (ns.map V.ty))) b = some u := fun b u e => by rw [upd_ne (ne_of_none e hp)]; exact e
    cases d with
    | lst l => obtain ⟨a, vs, e1, e2, e3⟩ := t; exact ⟨a, vs, e1, g _ _ e2, e3⟩
    | tup l => obtain ⟨a, vs, e1, e2, e3⟩ := t; exact ⟨a, vs, e1, g _ _ e2, e3⟩
    | dic ks l => obtain ⟨a, vs, e1, e2, e3⟩ := t; exact ⟨a, vs, e1, g _ _ e2, e3⟩
    | scr l => obtain ⟨a, e1, e2⟩ := t; exact ⟨a, e1, same_seq g e2⟩
    | obj cc fs l => cases ho
    | ext _ => cases ho
    | non => exact t
    | bl b => exact t
    | int b => exact t
    | str b => exact t
  refine ⟨v, p, ns.map V.ty, .type (tyS d), ns.map Value.type, ns.any (isaB d), rfl, upd_same, paired_ty ns, tyX_top ho t2, kitAny_d ho hn, ?_⟩
  exact q _ e _ Hf' _ hk sm c' ((vi.rest.grow hp).addD rep_bl)
theorem pe_tyn {n : Str} {T : String} {pos : Pos} (hg : Gl X n) (hm : X.mg n = none) (hv : bootBuiltins n = some (.type T)) (hn : n ≠ "__name__" := by decide) (hd : (n == ("__debug__" : Str)) = false := by decide) : PE X (.Name n pos) (tC (.ty T)) := pe_bltn hg hm hv rfl hn hd
theorem pd_isi1 {e : Expr} {o : WO} {n : Str} {T : String} {p p2 pos : Pos} (hg : Gl X "isinstance") (hm : X.mg "isinstance" = none) (h : PDO X W e o) (ht : PE X (.Name n p2) (tC (.ty T))) (hk : known T = true := by decide)
    (hs1 : starEach [e, .Name n p2] X.env = (false, eval e X.env) :: starEach [.Name n p2] X.env := by rfl) (hs2 : starEach [.Name n p2] X.env = (false, eval (.Name n p2) X.env) :: starEach [] X.env := by rfl) (hpl : (backTo pos (starEach [.Name n p2] X.env)).any (·.1) = false := by rfl) :
    PD X W (.Call (.Name "isinstance" p) [e, .Name n p2] [] pos) (wIsi o [T]) := by
  obtain ⟨te, a1, a2⟩ := h
  exact ⟨_, pe_callB call_isi hg hm PyProof.Rows.boot_isinstance (L2.pa_cons a1 (L2.pa_cons ht L2.pa_nil hs2) hs1) (by decide) (by decide) hs1 hpl, runs_isi1 hk a2⟩
theorem pd_isi2 {e : Expr} {o : WO} {n m : Str} {T U : String} {p p2 p3 tp pos : Pos} {kk : Nat} (hg : Gl X "isinstance") (hm : X.mg "isinstance" = none) (h : PDO X W e o) (ht : PE X (.Name n p2) (tC (.ty T))) (hu : PE X (.Name m p3) (tC (.ty U))) (hk : known T = true := by decide) (hk2 : known U = true := by decide)
    (hs1 : starEach [e, .Tuple [.Name n p2, .Name m p3] kk tp] X.env = (false, eval e X.env) :: starEach [.Tuple [.Name n p2, .Name m p3] kk tp] X.env := by rfl)
    (hs2 : starEach [.Tuple [.Name n p2, .Name m p3] kk tp] X.env = (false, eval (.Tuple [.Name n p2, .Name m p3] kk tp) X.env) :: starEach [] X.env := by rfl)
    (hs3 : starEach [.Name n p2, .Name m p3] X.env = (false, eval (.Name n p2) X.env) :: starEach [.Name m p3] X.env := by rfl) (hs4 : starEach [.Name m p3] X.env = (false, eval (.Name m p3) X.env) :: starEach [] X.env := by rfl)
    (hpl : (backTo pos (starEach [.Tuple [.Name n p2, .Name m p3] kk tp] X.env)).any (·.1) = false := by rfl) :
    PD X W (.Call (.Name "isinstance" p) [e, .Tuple [.Name n p2, .Name m p3] kk tp] [] pos) (wIsi o [T, U]) := by
  obtain ⟨te, a1, a2⟩ := h
  refine ⟨_, pe_callB call_isiT hg hm PyProof.Rows.boot_isinstance (L2.pa_cons a1 (L2.pa_cons (L2.pe_tup (L2.pa_cons ht (L2.pa_cons hu L2.pa_nil hs4) hs3)) L2.pa_nil hs2) hs1) (by decide) (by decide) hs1 hpl, runs_isiT (ns := [T, U]) (fun z hz => ?_) (by show 2 ≤ sizeLine; rw [sizeLine_eq]; omega) a2⟩
  simp only [List.mem_cons, List.not_mem_nil, or_false] at hz
  rcases hz with rfl | rfl
  · exact hk
  · exact hk2
end
/-! ### subscripts -/
def gIx : G2
  | .lst l, .int i => (atI l i).map N.d
  | .tup l, .int i => (atI l i).map N.d
  | .scr l, .int i => (atI l i).map fun n => N.d (.int n)
  | .str z, .int i => if z.length ≤ sizeLine then (atI z.cps.toList i).map fun c => .d (.str ⟨#[c]⟩) else none
  | _, _ => none
section
variable {K : PySem.W.Frag} {W : WX} {X : Cx}
theorem reps_at {Hf : Hp} {l : List D} {vs : List V} {i : Int} {d : D} (h : Reps K Hf l vs) (e : atI l i = some d) : ∃ v, atI vs i = some v ∧ Rep K Hf d v := by
  unfold atI at e ⊢
  rw [h.length]
  cases q : ixN l.length i with
  | none => rw [q] at e; cases e
  | some j =>
    rw [q, Option.bind_some] at e
    rw [Option.bind_some]
    exact h.get e
theorem sd_ix : Sd2 K (rIx K) gIx := by
  intro Fr Hf H ps v w x y m Q s h1 h2 hg q
  unfold gIx at hg
  split at hg
  · rename_i l i
    cases e : atI l i with
    | none => rw [e] at hg; cases hg
    | some d =>
      rw [e] at hg; cases hg
      obtain ⟨p, vs, rfl, e1, r⟩ := h1
      obtain ⟨u, e2, e3⟩ := reps_at r e
      exact .inl ⟨p, vs, i, u, rfl, top_int h2, SqL.of e1, e2, q.d s e3⟩
  · rename_i l i
    cases e : atI l i with
    | none => rw [e] at hg; cases hg
    | some d =>
      rw [e] at hg; cases hg
      obtain ⟨p, vs, rfl, e1, r⟩ := h1
      obtain ⟨u, e2, e3⟩ := reps_at r e
      exact .inr (.inl ⟨p, vs, i, u, rfl, top_int h2, SqT.of e1, e2, q.d s e3⟩)
  · rename_i l i
    cases e : atI l i with
    | none => rw [e] at hg; cases hg
    | some d =>
      rw [e] at hg; cases hg
      obtain ⟨p, rfl, e1⟩ := h1
      refine .inl ⟨p, _, i, .int d, rfl, top_int h2, e1, ?_, q.int s⟩
      unfold atI at e ⊢
      rw [List.length_map]
      cases z : ixN l.length i with
      | none => rw [z] at e; cases e
      | some j =>
        rw [z, Option.bind_some] at e
        rw [Option.bind_some, List.getElem?_map, e]
        rfl
  · rename_i z i
    split at hg
    · rename_i hz
      cases e : atI z.cps.toList i with
      | none => rw [e] at hg; cases hg
      | some d =>
        rw [e] at hg; cases hg
        exact .inr (.inr ⟨z, i, d, top_str h1, top_int h2, hz, e, q.str s⟩)
    · cases hg
  · cases hg
theorem pd_sub' {a b : Expr} {o1 o2 : WO} {pos : Pos} (h1 : PDO X W a o1) (h2 : PDO X W b o2) (hs : PlainIx b := by intro _ _; rfl) : PD X W (.Subscript a b pos) (wOp2 (up2 gIx) o1 o2) := pd_ix ix_seq sd_ix.snd hs h1 h2
end
/-! ### slices -/
def WP := Env → (Option Int → Env → Prop) → XP → Prop
def RunsP (K : PySem.W.Frag) (W : WX) (p : WP) (t : TO) : Prop := ∀ (σ : L2.St) (H Fr Hf : Hp) (env : Env) (ts : List (V × N)) (k : Option Int → Env → Prop) (x : XP) (Q : Option Int → Hp → Prop),
  St K Fr Hf H (ts ++ slots σ env) → Cov σ env → p env k x → (∀ o env' Hf' H', k o env' → Same Hf Hf' → Cov σ env' → St K Fr Hf' H' (ts ++ slots σ env') → Q o H') → RunX K W Fr Hf σ ts x → t σ H Q
def PPD (X : Cx) (W : WX) (e : Option Expr) (p : WP) : Prop := ∃ t, PO X e t ∧ RunsP X.K W p t
def pNo : WP := fun env k _ => k none env
def pSome (w : WE) : WP := fun env k x => w env (fun n e => match n with
  | .d (.int i) => k (some i) e
  | _ => False) x
def cutD {α : Type} (xs : List α) (lo hi : Option Int) : List α := (xs.drop (HT.sIx xs.length 0 lo)).take (HT.sIx xs.length xs.length hi - HT.sIx xs.length 0 lo)
def gSl (d : D) (lo hi : Option Int) : Option N := match d with
  | .lst l => some (.lst ((cutD l lo hi).map N.d))
  | .scr l => some (.lst (((cutD l lo hi).map D.int).map N.d))
  | .str z => if z.length ≤ sizeLine then some (.d (.str (cutS z lo hi))) else none
  | .tup l => if HT.sIx l.length 0 lo = 0 ∧ HT.sIx l.length l.length hi = l.length then none else some (.tup ((cutD l lo hi).map N.d))
  | _ => none
def wSl (o : WO) (lo hi : WP) : WE := fun env k x => o env (fun a e => lo e (fun l e1 => hi e1 (fun h e2 => onS ((a.get e2).bind flat) fun d => onS (gSl d l h) fun r => k r e2) x) x) x
def rSlAll (K : PySem.W.Frag) : V → Option Int → Option Int → Hp → VK → Prop := fun x lo hi H Q => rSlL K x lo hi H Q ∨ rSlS x lo hi H Q ∨ rSlT K x lo hi H Q
section
variable {K : PySem.W.Frag} {W : WX} {X : Cx}
theorem sl_all : SlR X (rSlAll X.K) := SlR.or sl_list (SlR.or sl_str sl_tup)
theorem runs_pNo : RunsP K W pNo tNoPart := fun σ H Fr Hf env ts k x Q s c hw q _ => q none env Hf H hw (Same.refl _) c s
theorem runs_pSome {w : WE} {te : TE} (h : Runs K W w te) : RunsP K W (pSome w) (tPart te) := by
  intro σ H Fr Hf env ts k x Q s c hw q hx
  refine h σ H Fr Hf env ts _ x _ s c hw (fun n e v Hf' H' hk sm c' s' => ?_) hx
  split at hk
  · rename_i i
    have := s'.memD List.mem_cons_self
    unfold Rep at this
    exact ⟨i, this, q (some i) e Hf' H' hk sm c' s'.tail⟩
  · exact hk.elim
theorem reps_cut {Hf : Hp} {l : List D} {vs : List V} (h : Reps K Hf l vs) (lo hi : Option Int) : Reps K Hf (cutD l lo hi) (cutV vs lo hi) := by
  unfold cutD cutV
  rw [h.length]
  exact (h.drop _).take _
theorem runs_wSl {o : WO} {te : TE} {lo hi : WP} {tl th : TO} (h : RunsO K W o te) (h1 : RunsP K W lo tl) (h2 : RunsP K W hi th) : Runs K W (wSl o lo hi) (tSl (rSlAll K) te tl th) := by
  intro σ H Fr Hf env ts k x Q s c hw q hx
  refine h σ H Fr Hf env ts _ x _ s c hw (fun a e1 v Hf1 H1 hk sm1 c1 vi => ?_) hx
  refine h1 σ H1 Fr Hf1 e1 (held v a ++ ts) _ x _ vi.st c1 hk (fun l e2 Hf2 H2 hk sm2 c2 s2 => ?_) ((hx.mono sm1).more _)
  refine h2 σ H2 Fr Hf2 e2 (held v a ++ ts) _ x _ s2 c2 hk (fun u e3 Hf3 H3 hk sm3 c3 s3 => ?_) ((hx.mono (sm1.trans sm2)).more _)
  obtain ⟨d, hd, hk⟩ := onS_elim hk
  obtain ⟨r, hr, hk⟩ := onS_elim hk
  have t : Top K Hf3 H3 d v := by
    cases g : a.get e3 with
    | none => rw [g] at hd; cases hd
    | some n =>
      rw [g, Option.bind_some] at hd
      exact s3.top (get_mem vi.slot (fun n e => List.mem_append_left _ (held_mem n e)) g) hd
  have s4 : St K Fr Hf3 H3 (ts ++ slots σ e3) := by
    rw [List.append_assoc] at s3
    exact s3.right
  have sm := (sm1.trans sm2).trans sm3
  unfold gSl at hr
  split at hr
  · cases hr
    obtain ⟨p, vs, rfl, e1, r1⟩ := t
    exact .inl ⟨p, vs, rfl, SqL.of e1, fun b hb => q _ e3 _ Hf3 _ hk sm c3 (s4.newL hb (reps_cut r1 _ _))⟩
  · rename_i ns
    cases hr
    obtain ⟨p, rfl, e1⟩ := t
    refine .inl ⟨p, _, rfl, e1, fun b hb => q _ e3 _ Hf3 _ hk sm c3 (s4.newL hb ?_)⟩
    have := reps_cut (reps_ints (K := K) (Hf := Hf3) ns) l u
    unfold cutD at this ⊢
    rw [List.length_map, ← List.map_drop, ← List.map_take] at this
    exact this
  · split at hr
    · cases hr
      exact .inr (.inl ⟨_, top_str t, by assumption, q _ e3 _ Hf3 H3 hk sm c3 (s4.addD rep_str)⟩)
    · cases hr
  · split at hr
    · cases hr
    · rename_i hw
      cases hr
      obtain ⟨p, vs, rfl, e1, r1⟩ := t
      exact .inr (.inr ⟨p, vs, rfl, SqT.of e1, by rw [r1.length]; exact hw, fun b hb => q _ e3 _ Hf3 _ hk sm c3 (s4.newT hb (reps_cut r1 _ _))⟩)
  · cases hr
theorem ppd_no : PPD X W none pNo := ⟨_, po_none, runs_pNo⟩
theorem ppd_some {e : Expr} {w : WE} (h : PD X W e w) : PPD X W (some e) (pSome w) := by
  obtain ⟨t, a1, a2⟩ := h
  exact ⟨_, po_some a1, runs_pSome a2⟩
theorem pd_slice {e : Expr} {o : WO} {lo hi : Option Expr} {p q : WP} {p2 pos : Pos} (h : PDO X W e o) (h1 : PPD X W lo p) (h2 : PPD X W hi q) : PD X W (.Subscript e (.Slice lo hi none p2) pos) (wSl o p q) := by
  obtain ⟨te, a1, a2⟩ := h
  obtain ⟨tl, b1, b2⟩ := h1
  obtain ⟨th, c1, c2⟩ := h2
  exact ⟨_, pe_slice sl_all a1 b1 c1, runs_wSl a2 b2 c2⟩
end
/-! ### in, not in -/
def scV : D → Option V
  | .non => some .non
  | .bl b => some (.bl b)
  | .int i => some (.int i)
  | .str z => some (.str z)
  | _ => none
def scVs (l : List D) : Option (List V) := l.mapM scV
def inD (a : D) : D → Option Bool
  | .lst l => (scV a).bind fun v => (scVs l).map fun vs => inV v vs
  | .tup l => (scV a).bind fun v => (scVs l).map fun vs => inV v vs
  | .str z => match a with
    | .str y => if y.length = 1 then some (decide (y.cps.getD 0 0 ∈ z.cps.toList)) else none
    | _ => none
  | _ => none
def gIn : G2 := fun a b => (inD a b).map fun k => .d (.bl k)
def gNotIn : G2 := fun a b => (inD a b).map fun k => .d (.bl !k)
section
variable {K : PySem.W.Frag} {W : WX} {X : Cx}
theorem top_sc {Hf H : Hp} {d : D} {v u : V} (h : Top K Hf H d v) (e : scV d = some u) : v = u ∧ flatV u = true := by
  cases d with
  | non => cases e; exact ⟨top_non h, rfl⟩
  | bl b => cases e; exact ⟨top_bl h, rfl⟩
  | int b => cases e; exact ⟨top_int h, rfl⟩
  | str b => cases e; exact ⟨top_str h, rfl⟩
  | _ => cases e
theorem rep_sc {Hf : Hp} {d : D} {v u : V} (h : Rep K Hf d v) (e : scV d = some u) : v = u ∧ flatV u = true := by
  cases d with
  | non => cases e; unfold Rep at h; exact ⟨h, rfl⟩
  | bl b => cases e; unfold Rep at h; exact ⟨h, rfl⟩
  | int b => cases e; unfold Rep at h; exact ⟨h, rfl⟩
  | str b => cases e; unfold Rep at h; exact ⟨h, rfl⟩
  | _ => cases e
theorem reps_sc {Hf : Hp} : ∀ {l : List D} {vs us : List V}, Reps K Hf l vs → scVs l = some us → vs = us ∧ us.all flatV = true
  | [], vs, us, h, e => by
    unfold Reps at h
    simp [scVs] at e
    subst e
    exact ⟨h, rfl⟩
  | d :: l, vs, us, h, e => by
    unfold Reps at h
    obtain ⟨v, ws, e1, e2, e3⟩ := h
    unfold scVs at e
    rw [List.mapM_cons] at e
    cases q : scV d with
    | none => rw [q] at e; cases e
    | some u =>
      rw [q] at e
      cases q2 : l.mapM scV with
      | none => rw [q2] at e; cases e
      | some zs =>
        rw [q2] at e
        cases e
        obtain ⟨r1, r2⟩ := rep_sc e2 q
        obtain ⟨r3, r4⟩ := reps_sc e3 (show scVs l = some zs from q2)
        exact ⟨by rw [e1, r1, r3], by rw [List.all_cons, r2, r4]; rfl⟩
def rInAll (K : PySem.W.Frag) (neg : Bool) : R2 := fun x y H Q => rIn K neg x y H Q ∨ ∃ (c : Nat) (z : Str), x = .str ⟨#[c]⟩ ∧ y = .str z ∧ Q (.bl (if neg then !decide (c ∈ z.cps.toList) else decide (c ∈ z.cps.toList))) H
theorem op_inAll : OpR X (compareOp .In) (rInAll X.K false) := OpR.or op_in_seq op_in_sign
theorem op_notInAll : OpR X (compareOp .NotIn) (rInAll X.K true) := OpR.or op_notIn_seq op_notIn_sign
theorem inD_cases {Hf H : Hp} {x y : D} {v w : V} {k : Bool} (h1 : Top K Hf H x v) (h2 : Top K Hf H y w) (h : inD x y = some k) :
    (∃ p xs, w = .ref p ∧ (SqL K H p xs ∨ SqT K H p xs) ∧ flatV v = true ∧ xs.all flatV = true ∧ inV v xs = k) ∨ ∃ (c : Nat) (z : Str), v = .str ⟨#[c]⟩ ∧ w = .str z ∧ decide (c ∈ z.cps.toList) = k := by
  unfold inD at h
  split at h
  · rename_i l
    cases q : scV x with
    | none => rw [q] at h; cases h
    | some u =>
      cases q2 : scVs l with
      | none => rw [q, q2] at h; cases h
      | some us =>
        rw [q, q2] at h
        cases h
        obtain ⟨rfl, f1⟩ := top_sc h1 q
        obtain ⟨p, vs, rfl, e, r⟩ := h2
        obtain ⟨rfl, f2⟩ := reps_sc r q2
        exact .inl ⟨p, vs, rfl, .inl (SqL.of e), f1, f2, rfl⟩
  · rename_i l
    cases q : scV x with
    | none => rw [q] at h; cases h
    | some u =>
      cases q2 : scVs l with
      | none => rw [q, q2] at h; cases h
      | some us =>
        rw [q, q2] at h
        cases h
        obtain ⟨rfl, f1⟩ := top_sc h1 q
        obtain ⟨p, vs, rfl, e, r⟩ := h2
        obtain ⟨rfl, f2⟩ := reps_sc r q2
        exact .inl ⟨p, vs, rfl, .inr (SqT.of e), f1, f2, rfl⟩
  · rename_i z
    split at h
    · rename_i y
      split at h
      · rename_i hl
        cases h
        rw [top_str h1, top_str h2]
        refine .inr ⟨y.cps.getD 0 0, z, ?_, rfl, rfl⟩
        have hs : y.cps.size = 1 := hl
        obtain ⟨cs⟩ := y
        have : cs = #[cs.getD 0 0] := by
          refine Array.ext (by simpa using hs) fun i h1 h2 => ?_
          have hi : i = 0 := by simp at h2; omega
          subst hi
          simp [Array.getD, h1]
        rw [← this]
      · cases h
    · cases h
  · cases h
theorem sd_in : Sd2 K (rInAll K false) gIn := by
  intro Fr Hf H ps v w x y m Q s h1 h2 hg q
  unfold gIn at hg
  cases e : inD x y with
  | none => rw [e] at hg; cases hg
  | some k =>
    rw [e] at hg; cases hg
    rcases inD_cases h1 h2 e with ⟨p, xs, z1, z2, z3, z4, z5⟩ | ⟨c, z, z1, z2, z3⟩
    · exact .inl ⟨p, xs, z1, z2, z3, z4, by rw [if_neg Bool.false_ne_true, z5]; exact q.bl s⟩
    · exact .inr ⟨c, z, z1, z2, by rw [if_neg Bool.false_ne_true, z3]; exact q.bl s⟩
theorem sd_notIn : Sd2 K (rInAll K true) gNotIn := by
  intro Fr Hf H ps v w x y m Q s h1 h2 hg q
  unfold gNotIn at hg
  cases e : inD x y with
  | none => rw [e] at hg; cases hg
  | some k =>
    rw [e] at hg; cases hg
    rcases inD_cases h1 h2 e with ⟨p, xs, z1, z2, z3, z4, z5⟩ | ⟨c, z, z1, z2, z3⟩
    · exact .inl ⟨p, xs, z1, z2, z3, z4, by rw [if_pos rfl, z5]; exact q.bl s⟩
    · exact .inr ⟨c, z, z1, z2, by rw [if_pos rfl, z3]; exact q.bl s⟩
theorem pd_in {a b : Expr} {o1 o2 : WO} {pos : Pos} (h1 : PDO X W a o1) (h2 : PDO X W b o2) (hm : behindInMarks .In b = false := by rfl) : PD X W (.Compare a [.In] [b] pos) (wOp2 (up2 gIn) o1 o2) := pd_cmp op_inAll sd_in.snd hm h1 h2
theorem pd_notIn {a b : Expr} {o1 o2 : WO} {pos : Pos} (h1 : PDO X W a o1) (h2 : PDO X W b o2) (hm : behindInMarks .NotIn b = false := by rfl) : PD X W (.Compare a [.NotIn] [b] pos) (wOp2 (up2 gNotIn) o1 o2) := pd_cmp op_notInAll sd_notIn.snd hm h1 h2
end

/-! ### starred items -/
def aStar (w : WE) (a : WA) : WA := fun env k x => w env (fun n e => onS (seqOf n.view) fun l => a e (fun vals e2 => k (l.map (fun d => Val.t (.d d)) ++ vals) e2) x) x
section
variable {K : PySem.W.Frag} {W : WX} {X : Cx}
theorem slotOk_data {σ : L2.St} : ∀ {l : List D} {vs : List V}, vs.length = l.length → Paired (SlotOk σ) (l.map fun d => Val.t (.d d)) vs
  | [], [], _ => .nil
  | [], _ :: _, h => by simp at h
  | _ :: _, [], h => by simp at h
  | d :: l, v :: vs, h => .cons (fun i e => by cases e) (slotOk_data (by simpa using h))
theorem St.addDs {Fr Hf H : Hp} {ps : List (V × N)} (s : St K Fr Hf H ps) : ∀ {l : List D} {vs : List V}, Reps K Hf l vs → St K Fr Hf H (tmps (l.map fun d => Val.t (.d d)) vs ++ ps)
  | [], vs, h => by unfold Reps at h; rw [h]; exact s
  | d :: l, vs, h => by
    unfold Reps at h
    obtain ⟨v, ws, e1, e2, e3⟩ := h
    rw [e1]
    exact (St.addDs s e3).addD e2
theorem runs_aStar {w : WE} {te : TE} {a : WA} {ta : TA} (h : Runs K W w te) (h2 : RunsA K W a ta) : RunsA K W (aStar w a) (StX.tStar K te ta) := by
  intro σ H Fr Hf env ts k x Q s c hw q hx
  refine h σ H Fr Hf env ts _ x _ s c hw (fun n e v Hf1 H1 hk sm c1 s1 => ?_) hx
  obtain ⟨l, hl, hk⟩ := onS_elim hk
  obtain ⟨Hf2, sm2, s2⟩ := s1.frz
  obtain ⟨p, vs, rfl, hs, rs⟩ := rep_seq (s2.memD List.mem_cons_self) hl
  refine ⟨p, vs, rfl, ?_, ?_⟩
  · rcases hs with hs | hs
    · exact .inr (same_seq s2.ex hs)
    · exact .inl (sqT_mono s2.ex hs)
  · refine h2 σ H1 Fr Hf2 e ts _ x _ s2.tail c1 hk (fun vals e2 ws Hf3 H3 hk3 sm3 c3 so s3 => ?_) (hx.mono (sm.trans sm2))
    have rs3 := Reps.mono sm3 _ _ rs
    refine q _ e2 _ Hf3 H3 hk3 ((sm.trans sm2).trans sm3) c3 (paired_app (slotOk_data rs.length) so) ?_
    rw [tmps_app (by rw [List.length_map, rs.length])]
    have := s3.addDs rs3
    rw [← List.append_assoc, ← List.append_assoc] at this
    exact this
theorem pa_dstar {e : Expr} {es : List Expr} {w : WE} {a : WA} {p : Pos} (h : PD X W e w) (h2 : PAD X W es a) (hs : starEach (.Starred e p :: es) X.env = (true, eval e X.env) :: starEach es X.env := by rfl) : PAD X W (.Starred e p :: es) (aStar w a) := by
  obtain ⟨t, a1, a2⟩ := h
  obtain ⟨u, b1, b2⟩ := h2
  exact ⟨_, StX.pa_star a1 b1 hs, runs_aStar a2 b2⟩
end
/-! ### attributes -/
def AtOk (K : PySem.W.Frag) (at_ : Str → Str → Bool) : Prop := ∀ c f, at_ c f = true → Cls K (He.ga K c) ∧ NoAttr K (He.ga K c) f
def gFld (at_ : Str → Str → Bool) (f : Str) : G1
  | .obj c fs l => if at_ c f = true then ((fs.zip l).lookup f).map N.d else none
  | _ => none
def rFld (K : PySem.W.Frag) (f : Str) : V → Hp → VK → Prop := fun x H1 Q => ∃ a C dx fs v, x = .ref a ∧ H1 a = some (.ins C dx fs) ∧ Cls K C ∧ NoAttr K C f ∧ fs.lookup f = some v ∧ Q v H1
def putO (f : Str) (n : N) (fs : List Str) (l : List N) : Option N → Option (List Str × List N) := fun _ => if f ∈ fs then none else some (fs ++ [f], l ++ [n])
/-- a new attribute of what is being made -/
def wsFld (at_ : Str → Str → Bool) (i : Nat) (f : Str) (w : WE) : WS := fun env E x => w env (fun n e => match (e[i]?).join with
  | some (.obj c fs l) => at_ c f = true ∧ f ∉ fs ∧ fs.length < 1000 ∧ E.nx (e.set i (some (.obj c (fs ++ [f]) (l ++ [n]))))
  | _ => False) x
section
variable {K : PySem.W.Frag} {W : WX} {X : Cx}
theorem reps_lookup {Hf : Hp} {f : Str} : ∀ {l : List D} {fv : List (Str × V)} {d : D}, Reps K Hf l (fv.map (·.2)) → ((fv.map (·.1)).zip l).lookup f = some d → ∃ v, fv.lookup f = some v ∧ Rep K Hf d v
  | _, [], d, _, e => by simp at e
  | [], p :: fv, d, h, _ => by
    unfold Reps at h
    simp at h
  | y :: l, (g, u) :: fv, d, h, e => by
    unfold Reps at h
    obtain ⟨v, ws, e1, e2, e3⟩ := h
    rw [List.map_cons] at e1
    cases e1
    rw [List.map_cons, List.zip_cons_cons, List.lookup_cons] at e
    rw [List.lookup_cons]
    cases q : f == g with
    | true =>
      rw [q] at e
      cases e
      exact ⟨u, rfl, e2⟩
    | false =>
      rw [q] at e
      exact reps_lookup e3 e
theorem sd_fld {at_ : Str → Str → Bool} (ha : AtOk K at_) {f : Str} : Sd1 K (rFld K f) (gFld at_ f) := by
  intro Fr Hf H ps v y m Q s h1 hg q
  unfold gFld at hg
  split at hg
  · rename_i c fs l
    split at hg
    · rename_i hat
      cases e : (fs.zip l).lookup f with
      | none => rw [e] at hg; cases hg
      | some d =>
        rw [e] at hg; cases hg
        obtain ⟨p, dx, fv, rfl, e1, e2, r⟩ := h1
        rw [← e2] at e
        obtain ⟨u, e3, e4⟩ := reps_lookup r e
        obtain ⟨a1, a2⟩ := ha _ _ hat
        exact ⟨p, _, dx, fv, u, rfl, e1, a1, a2, e3, q.d s e4⟩
    · cases hg
  · cases hg
theorem pd_fld {at_ : Str → Str → Bool} {e : Expr} {f : Str} {o : WO} {pos : Pos} (ha : AtOk X.K at_) (h : PDO X W e o) (hb : attributeBase e f X.env (eval e X.env) = eval e X.env := by rfl) : PD X W (.Attribute e f pos) (wOp1 (up1 (gFld at_ f)) o) := by
  obtain ⟨t, a1, a2⟩ := h
  exact ⟨_, pe_fld a1 hb, runs_op1 (sd_fld ha).snd a2⟩
theorem putF_new {f : Str} {v : V} : ∀ {fs : List (Str × V)}, f ∉ fs.map (·.1) → putF f v fs = fs ++ [(f, v)] := by
  intro fs h
  induction fs with
  | nil => rfl
  | cons p fs ih =>
    obtain ⟨g, u⟩ := p
    rw [List.map_cons, List.mem_cons, not_or] at h
    unfold putF
    rw [if_neg fun z => h.1 z.symm, ih h.2]
    rfl
/-- an attribute is put to an object that is held -/
theorem St.fld {Fr Hf H : Hp} {p : V} {c : Str} {fs : List Str} {ns : List N} {v : V} {n : N} {f : Str} {qs : List (V × N)} (s : St K Fr Hf H ((p, .obj c fs ns) :: (v, n) :: qs)) :
    ∃ a dx fv, p = .ref a ∧ H a = some (.ins (He.ga K c) dx fv) ∧ fv.map (·.1) = fs ∧ St K Fr Hf (upd H a (.ins (He.ga K c) dx (fv ++ [(f, v)]))) ((p, .obj c (fs ++ [f]) (ns ++ [n])) :: qs) := by
  obtain ⟨A, r, nd, d⟩ := s.own
  unfold RepPs at r
  obtain ⟨A1, A2, eA, r1, r2⟩ := r
  unfold RepPs at r2
  obtain ⟨A3, A4, eA2, r3, r4⟩ := r2
  unfold RepN at r1
  obtain ⟨q, dx, fv, B, e1, e2, e3, e5, e4⟩ := r1
  have hA : A = q :: (B ++ A3 ++ A4) := by rw [eA, e2, eA2]; simp
  rw [hA] at nd d
  have np := (List.nodup_cons.mp nd).1
  have dp := d q List.mem_cons_self
  have kF : ∀ {G : Hp} {b : Addr} {u : HO}, G q = none → G b = some u → b ≠ q := fun {G b u} g h z => by rw [z, g] at h; cases h
  have st : ∀ a ∈ B ++ A3 ++ A4, (upd H q (.ins (He.ga K c) dx (fv ++ [(f, v)]))) a = H a := fun a ha => upd_ne fun z => np (by rw [← z]; exact ha)
  refine ⟨q, dx, fv, e1, e3, e5, ⟨fun b u h => by rw [upd_ne (kF dp.1 h)]; exact s.ex b u h, fun b u h => by rw [upd_ne (kF dp.2 h)]; exact s.fr b u h, s.dj, q :: (B ++ A3 ++ A4), ?_, nd, d⟩⟩
  unfold RepPs
  refine ⟨q :: (B ++ A3), A4, rfl, ?_, r4.stay (Same.refl _) fun a ha => st a (List.mem_append_right _ ha)⟩
  unfold RepN
  refine ⟨q, dx, fv ++ [(f, v)], B ++ A3, e1, rfl, upd_same, by rw [List.map_append, e5]; rfl, ?_⟩
  rw [List.map_append]
  refine repNs_append (RepNs.stay (Same.refl _) ns _ B e4 fun a ha => st a (List.mem_append_left _ (List.mem_append_left _ ha))) ?_
  unfold RepNs
  refine ⟨v, [], A3, [], rfl, by simp, RepN.stay (Same.refl _) n v A3 r3 fun a ha => st a (List.mem_append_left _ (List.mem_append_right _ ha)), ?_⟩
  unfold RepNs
  exact ⟨rfl, rfl⟩
theorem runs_sFld {fx : List Nat} {at_ : Str → Str → Bool} (ha : AtOk K at_) {i : Nat} {f : Str} {w : WE} {te : TE} (h : Runs K W w te) : RunsS K W fx (wsFld at_ i f w) (sFld K (tVar i) te f) := by
  intro σ H Fr Hf env E x D s c hw e hx
  refine h σ H Fr Hf env [] _ x _ s c hw (fun n env' v Hf' H' hk sm c' s' => ?_) hx.x
  split at hk
  · rename_i cc fs l hj
    obtain ⟨h1, h2, h3, hk⟩ := hk
    have hj := join_some hj
    obtain ⟨p, hp⟩ := c'.has i _ hj
    have s1 : St K Fr Hf' H' ((p, .obj cc fs l) :: (v, n) :: slots σ (env'.set i none)) := (s'.perm (List.Perm.cons _ (slots_take hp hj))).perm (List.Perm.swap _ _ _)
    obtain ⟨a, dx, fv, rfl, e1, e2, s2⟩ := St.fld (f := f) s1
    obtain ⟨a1, a2⟩ := ha _ _ h1
    refine ⟨.ref a, hp, a, _, dx, fv, rfl, e1, a1, a2, ?_, ?_⟩
    · have := congrArg List.length e2
      rw [List.length_map] at this
      omega
    · rw [putF_new (by rw [e2]; exact h2)]
      refine e.nx _ σ Hf' _ hk FixS.refl sm (c'.tree _ hj) ?_
      exact s2.perm (slots_put (lt_of_get hj) hp).symm
  · exact hk.elim
theorem psd_fld {fx : List Nat} {at_ : Str → Str → Bool} (i : Nat) {x f : Str} {value : Expr} {w : WE} {np pos' pos : Pos} (ha : AtOk X.K at_) (hv : PD X W value w) (hN : X.N[i]? = some x := by rfl) (hvis : Vis X.env.scope x := by first | exact Or.inl rfl | exact Or.inr (Or.inl rfl) | exact Or.inr (Or.inr rfl))
    (hd : (x == ("__debug__" : Str)) = false := by decide) (hcd : (x == ("__classdict__" : Str)) = false := by decide) (hs : swapsWith value (some (.Attribute (.Name x np) f pos')) pos.line X.env = pure false := by rfl) :
    PSD X W fx (.Assign [.Attribute (.Name x np) f pos'] value pos) (wsFld at_ i f w) := by
  obtain ⟨t, a1, a2⟩ := hv
  exact ⟨_, ps_fld (pe_var hN hvis hd hcd) a1 hs, runs_sFld ha a2⟩
end
/-! ### append, and a list's place set -/
def isL : N → Bool
  | .lst _ => true
  | _ => false
def wApp (i : Nat) (w : WE) : WE := fun env k x => onS ((env[i]?).join) fun m => isL m = true ∧ w env (fun n e => match (e[i]?).join with
  | some (.lst ns) => ns.length < sizeLine ∧ k (.d .non) (e.set i (some (.lst (ns ++ [n]))))
  | _ => False) x
section
variable {K : PySem.W.Frag} {W : WX} {X : Cx}
theorem St.isL {Fr Hf H : Hp} {ps : List (V × N)} {v : V} {m : N} (s : St K Fr Hf H ps) (h : (v, m) ∈ ps) (e : isL m = true) : ∃ p vs, v = .ref p ∧ H p = some (.lst vs) := by
  cases m with
  | lst ns =>
    obtain ⟨A, r, _⟩ := s.mem h
    unfold RepN at r
    obtain ⟨p, vs, B, e1, e2, e3, e4⟩ := r
    exact ⟨p, vs, e1, e3⟩
  | _ => cases e
theorem runs_wApp {i : Nat} {w : WE} {te : TE} (h : Runs K W w te) : Runs K W (wApp i w) (tBM K "list" rAppend (tVar i) (tCons te tNil)) := by
  intro σ H Fr Hf env ts k x Q s c hw q hx
  obtain ⟨m, hm, hl, hw⟩ := onS_elim hw
  have hm := join_some hm
  obtain ⟨v0, hv0⟩ := c.has i m hm
  obtain ⟨p0, vs0, rfl, hp0⟩ := s.isL (List.mem_append_right _ (slots_mem hv0 hm)) hl
  refine ⟨.ref p0, hv0, .inl ⟨rfl, vs0, SqL.of hp0⟩, ?_⟩
  refine h σ H Fr Hf env ts _ x _ s c hw (fun n e v Hf1 H1 hk sm c1 s1 => ?_) hx
  split at hk
  · rename_i ns hj
    obtain ⟨hz, hk⟩ := hk
    have hj := join_some hj
    have s2 : St K Fr Hf1 H1 ((.ref p0, .lst ns) :: (v, n) :: (ts ++ slots σ (e.set i none))) := by
      have s3 := s1.perm (List.Perm.cons (v, n) (List.Perm.append_left ts (slots_take hv0 hj)))
      exact (s3.perm (List.Perm.cons _ List.perm_middle)).perm (List.Perm.swap _ _ _)
    obtain ⟨vs, e1, e2, s4⟩ := s2.app
    refine ⟨p0, vs, v, rfl, rfl, e1, by rw [e2]; exact hz, ?_⟩
    refine q _ _ .non Hf1 _ hk sm (c1.tree _ hj) (St.addD ?_ rep_non)
    exact s4.swapB.perm (List.Perm.append_left ts (slots_put (lt_of_get hj) hv0).symm)
  · exact hk.elim
theorem pd_app (i : Nat) {x : Str} {e : Expr} {w : WE} {np apos cpos : Pos} (h : PD X W e w) (hN : X.N[i]? = some x := by rfl) (hvis : Vis X.env.scope x := by first | exact Or.inl rfl | exact Or.inr (Or.inl rfl) | exact Or.inr (Or.inr rfl))
    (hd : (x == ("__debug__" : Str)) = false := by decide) (hcd : (x == ("__classdict__" : Str)) = false := by decide) (hbase : attributeBase (.Name x np) "append" X.env (eval (.Name x np) X.env) = eval (.Name x np) X.env := by rfl)
    (hfew : ((backTo cpos (starEach [e] X.env)).all (fun x => !x.1) && (backToKw cpos (keywordEach [] X.env)).all (fun x => x.1.isSome) && decide (([e] : List Expr).length + ([] : List Keyword).length + (if ([] : List Keyword).isEmpty then 0 else 1) < 30)) = true := by rfl)
    (hline : (apos.endLine == cpos.line) = true := by rfl) (hs : starEach [e] X.env = (false, eval e X.env) :: starEach [] X.env := by rfl) :
    PD X W (.Call (.Attribute (.Name x np) "append" apos) [e] [] cpos) (wApp i w) := by
  obtain ⟨t, a1, a2⟩ := h
  exact ⟨_, pe_bm F.plainAttrs_list F.slot_list_append F.type_list_append mt_append (pe_var hN hvis hd hcd) (L2.pa_cons a1 L2.pa_nil hs) hbase hfew hline hs, runs_wApp a2⟩
end

/-! ### sorted, of a list or a tuple of ints -/
def seqI : D → Option (List Int)
  | .lst l => allI l
  | .tup l => allI l
  | .scr l => some l
  | _ => none
@[simp] theorem seqI_lst (l : List D) : seqI (.lst l) = allI l := rfl
@[simp] theorem seqI_tup (l : List D) : seqI (.tup l) = allI l := rfl
@[simp] theorem seqI_scr (l : List Int) : seqI (.scr l) = some l := rfl
def gSortA : GL
  | [d] => (seqI d).map fun ns => .lst (((sortI ns).map D.int).map N.d)
  | _ => none
def rSortedA (K : PySem.W.Frag) : List V → Hp → VK → Prop := fun vs H Q => ∃ (a : Addr) (ns : List Int), vs = [V.ref a] ∧ (SqL K H a (ns.map V.int) ∨ SqT K H a (ns.map V.int)) ∧
  ∀ (ms : List Int) (p : Addr), ms.Perm ns → ms.Pairwise (· ≤ ·) → H p = none → Q (.ref p) (upd H p (.lst (ms.map V.int)))
section
variable {K : PySem.W.Frag} {W : WX} {X : Cx}
theorem seqI_top {Hf H : Hp} {d : D} {v : V} {ns : List Int} (h : Top K Hf H d v) (e : seqI d = some ns) : ∃ a, v = .ref a ∧ (SqL K H a (ns.map V.int) ∨ SqT K H a (ns.map V.int)) := by
  unfold seqI at e
  split at e
  · obtain ⟨p, vs, rfl, e1, r⟩ := h
    rw [reps_I r e] at e1
    exact ⟨p, rfl, .inl (SqL.of e1)⟩
  · obtain ⟨p, vs, rfl, e1, r⟩ := h
    rw [reps_I r e] at e1
    exact ⟨p, rfl, .inr (SqT.of e1)⟩
  · cases e
    obtain ⟨p, rfl, e1⟩ := h
    exact ⟨p, rfl, .inl e1⟩
  · cases e
theorem cr_sortedA : CallR X (.builtin "sorted") (rSortedA X.K) := by
  intro pins sh sl Hp vs us Q I r hw
  obtain ⟨a, ns, rfl, hs, q⟩ := hw
  rw [Vals.ref1 r]
  have src : ∃ (T : String) (o : Obj) (its : List Value) (n : Nat), (T = "list" ∨ T = "tuple") ∧ sh.heap.get? a = some o ∧ o.cls = .type T ∧ o.data = .seq its.toArray n ∧ Vals (ns.map V.int) its ∧ (ns.map V.int).length ≤ sizeLine := by
    rcases hs with hs | hs
    · obtain ⟨its, rv, pl, hz⟩ := I.list hs
      obtain ⟨o, e1, e2, n, e3⟩ := pl.isList
      exact ⟨"list", o, its, n, .inl rfl, e1, e2, e3, rv, hz⟩
    · obtain ⟨its, rv, ⟨o, e1, e2, n, e3⟩, hz⟩ := I.tuple hs
      exact ⟨"tuple", o, its, n, .inr rfl, e1, e2, e3, rv, hz⟩
  obtain ⟨T, o, its, n, hT, e1, e2, e3, rv, hz⟩ := src
  have hi := rv.ints
  have hzi : its.length ≤ sizeLine := by rw [← rv.length]; exact hz
  refine Calls.call_function_entry kind_sorted plain_sorted entry_sorted (args_sorted1 _) ?_
  unfold Builtin.«sorted»
  refine wpAny_bind (m := checkCount "sorted" 1 1 _) (wpAny_pure (wpAny_bind (wpAny_collect_seq a hT e1 e2 e3 (fun h' hk => ?_) (by rw [List.size_toArray]; exact hzi))))
  have I1 : Inv X pins sl Hp { sh with heap := h' } := I.kept (t' := sh.toks) hk
  have el : its.toArray.toList = its := by simp
  rw [el]
  refine wpAny_bind (wpAny_newList ?_ hzi)
  have hoL : (h'.push (seqObj "list" its.toArray 0)).get? h'.objs.size = some (seqObj "list" its.toArray 0) := Heap.get?_push_size _ rfl
  refine wpAny_bind (wpAny_holding (wpAny_call_entry PyProof.Rows.slot_list_sort ⟨_, hoL, rfl⟩ PyProof.Rows.entry_list_sort (SrtO.list_sort_ord SrtO.swo_int hoL hzi (fun h2 => SrtO.ints_sortable hi h2) fun out h1 h2 => ⟨_, rfl, ?_⟩) (PyProof.Rows.args_list_sort _)))
  obtain ⟨k1, k2, k3⟩ := SrtO.ints_out hi h1 h2
  obtain ⟨c, hc⟩ := sortedHeap_at (vs := its) (out := out.toArray) hoL
  have fresh : Hp h'.objs.size = none := I1.hok.fresh (Nat.le_refl _)
  have hlen : ((out.map SrtO.iv).map V.int).length ≤ sizeLine := by
    rw [List.length_map, k2.length_eq, ← List.length_map (f := V.int)]
    exact hz
  have keep : ∀ b u, h'.get? b = some u → (sortedHeap (h'.push (seqObj "list" its.toArray 0)) h'.objs.size its out.toArray).get? b = some u := fun b u e => by
    have hlt := Heap.lt_size e
    rw [sortedHeap_old (Nat.ne_of_lt hlt) (by rw [size_push']; exact Nat.lt_succ_of_lt hlt)]
    exact Heap.get?_push_of_some _ e
  exact wpAny_pure ⟨_, rfl, .ref h'.objs.size, upd Hp h'.objs.size (.lst ((out.map SrtO.iv).map V.int)), I1.laid (t' := sh.toks) keep (Nat.le_refl _) ⟨hlen, out, c, vals_of_ints k1, hc⟩, rfl, q _ _ k2 k3 fresh⟩
theorem sd_sortA : SdL X.K (rSortedA X.K) gSortA := by
  intro Fr Hf H ps vs xs m Q s ht hg q
  unfold gSortA at hg
  split at hg
  · obtain ⟨v, rfl, t⟩ := one_top ht
    rename_i d
    cases g : seqI d with
    | none => rw [g] at hg; cases hg
    | some ns =>
      rw [g] at hg; cases hg
      obtain ⟨a, rfl, hs⟩ := seqI_top t g
      refine ⟨a, ns, rfl, hs, fun ms p hp hs hn => ?_⟩
      rw [sortI_eq hp hs]
      exact q.lst s (reps_ints _) hn
  · cases hg
end
/-! ### len(set(..)), ints -/
def ddp : List Int → List Int
  | [] => []
  | a :: l => if a ∈ l then ddp l else a :: ddp l
theorem mem_ddp {k : Int} : ∀ {l : List Int}, k ∈ ddp l ↔ k ∈ l
  | [] => Iff.rfl
  | a :: l => by
    have ih := mem_ddp (k := k) (l := l)
    unfold ddp
    split
    · rename_i h
      rw [ih, List.mem_cons]
      exact ⟨.inr, fun z => z.elim (fun e => by rw [e]; exact h) id⟩
    · rw [List.mem_cons, List.mem_cons, ih]
theorem nodup_ddp : ∀ l : List Int, (ddp l).Nodup
  | [] => List.nodup_nil
  | a :: l => by
    unfold ddp
    split
    · exact nodup_ddp l
    · rename_i h
      exact List.nodup_cons.mpr ⟨fun z => h (mem_ddp.mp z), nodup_ddp l⟩
theorem ddp_len {l m : List Int} (h : m.Nodup) (e : ∀ k, k ∈ m ↔ k ∈ l) : m.length = (ddp l).length :=
  ((List.perm_ext_iff_of_nodup h (nodup_ddp l)).mpr fun k => (e k).trans mem_ddp.symm).length_eq
theorem ddp_le : ∀ l : List Int, (ddp l).length ≤ l.length
  | [] => Nat.le_refl _
  | a :: l => by
    unfold ddp
    have := ddp_le l
    split
    · rw [List.length_cons]; omega
    · rw [List.length_cons, List.length_cons]; omega
theorem ddp_eq : ∀ {l : List Int}, (ddp l).length = l.length ↔ l.Nodup
  | [] => ⟨fun _ => List.nodup_nil, fun _ => rfl⟩
  | a :: l => by
    have ih := ddp_eq (l := l)
    have := ddp_le l
    unfold ddp
    rw [List.nodup_cons]
    split
    · rename_i h
      rw [List.length_cons]
      exact ⟨fun e => by omega, fun z => absurd h z.1⟩
    · rename_i h
      rw [List.length_cons, List.length_cons, ← ih]
      exact ⟨fun e => ⟨h, by omega⟩, fun z => by omega⟩
theorem nodup_firstMet (val : Nat → Int) : ∀ i, (PyProof.Rows.firstMet val i).Nodup
  | 0 => by rw [PyProof.Rows.firstMet_zero]; exact List.nodup_nil
  | i + 1 => by
    have ih := nodup_firstMet val i
    rw [PyProof.Rows.firstMet_succ]
    unfold PyProof.Rows.step_dedup
    split
    · exact ih
    · rename_i h
      refine List.nodup_append.mpr ⟨ih, by simp, fun a ha b hb e => h ?_⟩
      rw [List.mem_singleton] at hb
      exact List.any_eq_true.mpr ⟨a, ha, by rw [e, hb]; exact beq_self_eq_true _⟩
def wLenSet (o : WO) : WE := fun env k x => o env (fun a e => onS ((a.get e).bind flat) fun d => onS (seqI d) fun ns => ns.length < 4000 ∧ k (.d (.int ((ddp ns).length : Nat))) e) x
def tLenSetA (K : PySem.W.Frag) (ta : TE) : TE := fun σ H Q => ta σ H fun x H1 => ∃ (l : Addr) (ns : List Int), x = .ref l ∧ (SqL K H1 l (ns.map V.int) ∨ SqT K H1 l (ns.map V.int)) ∧ ns.length < 4000 ∧ Q (.int ((ddp ns).length : Nat)) H1
section
variable {K : PySem.W.Frag} {W : WX} {X : Cx}
theorem pe_lenSetA {a : Expr} {ta : TE} {p p2 q pos : Pos} (hc : X.calm = true) (hg : Gl X "len") (hm : X.mg "len" = none) (hg2 : Gl X "set") (hm2 : X.mg "set" = none) (ha : PE X a ta)
    (na : starEach [a] X.env = (false, eval a X.env) :: starEach [] X.env) : PE X (.Call (.Name "len" p) [.Call (.Name "set" p2) [a] [] q] [] pos) (tLenSetA X.K ta) := by
  refine ⟨fun pins sh sl Hp Q I hw => Call_ (ld_blt I hg hm PySem.boot_len (PyProof.Rows.callWith_builtin1 (PyProof.Rows.args_cons ?_ rfl) rfl rfl))⟩
  refine Call_ (ld_blt I hg2 hm2 PyProof.Rows.boot_set (PyProof.Rows.callWith_type1 (PyProof.Rows.args_cons (thn (ha.run pins sh sl Hp _ I hw) fun v s1 ⟨x, H1, I1, r1, q1⟩ => PyProof.Rows.args_nil ?_) na) na rfl))
  obtain ⟨l, ns, rfl, hs, h1, q1⟩ := q1
  cases r1
  rcases hs with hs | hs
  · obtain ⟨its, rv, pl, hz⟩ := I1.list hs
    have hl : its.toArray.size = ns.length := by rw [List.size_toArray, ← rv.length, List.length_map]
    refine call_set_list (I1.ok.hd hc) pl.isList (ns := ns) (by simpa using rv.ints) (by unfold scanBound; omega) fun h' tk hS hk => PyProof.Rows.args_nil ?_
    obtain ⟨o, es, ep, t, ho, hex, hd, _, _, _, hf, hn⟩ := hS
    have I2 : Inv X pins sl H1 { s1 with heap := h', toks := tk } := I1.kept fun b o e => hk b o (Heap.lt_size e) e
    have he : es.size = (ddp ns).length := by
      rw [hn, hl]
      refine ddp_len (nodup_firstMet _ _) fun k => ?_
      have := firstMet_any (fun i => ns.getD i 0) ns.length k
      have e2 : (List.range ns.length).map (fun i => ns.getD i 0) = ns := by
        refine List.ext_getElem (by simp) fun i h1 h2 => ?_
        simp [List.getD_eq_getElem?_getD, h2]
      rw [e2] at this
      constructor
      · intro hk
        have z : (PyProof.Rows.firstMet (fun i => ns.getD i 0) ns.length).any (· == k) = true := List.any_eq_true.mpr ⟨k, hk, beq_self_eq_true k⟩
        rw [this] at z
        obtain ⟨y, hy, e⟩ := List.any_eq_true.mp z
        rw [← beq_iff_eq.mp e]
        exact hy
      · intro hk
        have z : ns.any (· == k) = true := List.any_eq_true.mpr ⟨k, hk, beq_self_eq_true k⟩
        rw [← this] at z
        obtain ⟨y, hy, e⟩ := List.any_eq_true.mp z
        rw [← beq_iff_eq.mp e]
        exact hy
    have hle := ddp_le ns
    exact call_len_set ho hex hd hf (by rw [he]; omega) ⟨.int ((ddp ns).length : Nat), H1, I2.tok _, ⟨_, by rw [he]⟩, q1⟩
  · obtain ⟨its, rv, pl, hz⟩ := I1.tuple hs
    refine call_set_tupI ns (I1.ok.hd hc) (show s1.heap.IsTuple l its.toArray from pl) (by simpa using rv.ints) (by unfold scanBound; omega) fun h' tk c hS hc2 hk => PyProof.Rows.args_nil ?_
    obtain ⟨o, es, ep, t, ho, hex, hd, _, hnd, hmem, _, hf, hn, _, _⟩ := hS
    have I2 : Inv X pins sl H1 { s1 with heap := h', toks := tk } := I1.kept fun b o e => hk b o e
    have he : es.size = (ddp ns).length := by
      rw [← ddp_len hnd fun k => by rw [← hmem k, decide_eq_true_eq], List.length_map, Array.length_toList]
    have hle := ddp_le ns
    exact call_len_set ho hex hd hf (by rw [he]; omega) ⟨.int ((ddp ns).length : Nat), H1, I2.tok _, ⟨_, by rw [he]⟩, q1⟩
theorem runs_lenSet {o : WO} {te : TE} (h : RunsO K W o te) : Runs K W (wLenSet o) (tLenSetA K te) := by
  intro σ H Fr Hf env ts k x Q s c hw q hx
  refine h σ H Fr Hf env ts _ x _ s c hw (fun val e v Hf' H' hk sm c' vi => ?_) hx
  obtain ⟨d, hd, hk⟩ := onS_elim hk
  obtain ⟨ns, hn, hl, hk⟩ := onS_elim hk
  obtain ⟨a, rfl, hs⟩ := seqI_top (val_flat vi hd) hn
  exact ⟨a, ns, rfl, hs, hl, q _ e _ Hf' H' hk sm c' (vi.rest.addD rep_int)⟩
theorem pd_lenSet {a : Expr} {o : WO} {p p2 q pos : Pos} (hc : X.calm = true) (hg : Gl X "len") (hm : X.mg "len" = none) (hg2 : Gl X "set") (hm2 : X.mg "set" = none) (ha : PDO X W a o)
    (na : starEach [a] X.env = (false, eval a X.env) :: starEach [] X.env := by rfl) : PD X W (.Call (.Name "len" p) [.Call (.Name "set" p2) [a] [] q] [] pos) (wLenSet o) := by
  obtain ⟨t, a1, a2⟩ := ha
  exact ⟨_, pe_lenSetA hc hg hm hg2 hm2 a1 na, runs_lenSet a2⟩
/-! ### list(range(..)) -/
def WR := Env → (Int → Int → Env → Prop) → XP → Prop
def wRg1 (w : WE) : WR := fun env k x => w env (fun n e => match n with
  | .d (.int j) => k 0 j e
  | _ => False) x
def wRg2 (w u : WE) : WR := fun env k x => w env (fun n e => u e (fun m e2 => match n, m with
  | .d (.int i), .d (.int j) => k i j e2
  | _, _ => False) x) x
def wLRg (r : WR) : WE := fun env k x => r env (fun a b e => RgOk a b ∧ k (.lst ((rangeD a (b - a).toNat).map N.d)) e) x
theorem reps_rg {Hf : Hp} (a b : Int) : Reps K Hf (rangeD a (b - a).toNat) (rgV a b) := by
  unfold rangeD rgV
  have : ∀ l : List Nat, Reps K Hf (l.map fun i => D.int (a + (i : Nat))) (l.map fun i => V.int (a + (i : Nat))) := by
    intro l
    induction l with
    | nil => unfold Reps; rfl
    | cons i l ih => rw [List.map_cons, List.map_cons]; unfold Reps; exact ⟨_, _, rfl, rep_int, ih⟩
  exact this _
theorem pd_listRg1 {e : Expr} {w : WE} {p1 p2 q1 q2 : Pos} (hc : X.calm = true) (hg : Gl X "list") (hm : X.mg "list" = none) (hg2 : Gl X "range") (hm2 : X.mg "range" = none) (h : PD X W e w)
    (na : starEach [e] X.env = (false, eval e X.env) :: starEach [] X.env := by rfl) (nb : starEach [.Call (.Name "range" p2) [e] [] q2] X.env = (false, eval (.Call (.Name "range" p2) [e] [] q2) X.env) :: starEach [] X.env := by rfl) :
    PD X W (.Call (.Name "list" p1) [.Call (.Name "range" p2) [e] [] q2] [] q1) (wLRg (wRg1 w)) := by
  obtain ⟨t, a1, a2⟩ := h
  refine ⟨_, pe_listRg hc hg hm (prg_1 hg2 hm2 a1 na) nb, ?_⟩
  intro σ H Fr Hf env ts k x Q s c hw q hx
  refine a2 σ H Fr Hf env ts _ x _ s c hw (fun n e v Hf' H' hk sm c' s' => ?_) hx
  split at hk
  · rename_i j
    have r := s'.memD List.mem_cons_self
    unfold Rep at r
    exact ⟨j, r, hk.1, fun b hb => q _ e _ Hf' _ hk.2 sm c' (s'.tail.newL hb (reps_rg _ _))⟩
  · exact hk.elim
theorem pd_listRg2 {e f : Expr} {w u : WE} {p1 p2 q1 q2 : Pos} (hc : X.calm = true) (hg : Gl X "list") (hm : X.mg "list" = none) (hg2 : Gl X "range") (hm2 : X.mg "range" = none) (h : PD X W e w) (h2 : PD X W f u)
    (na : starEach [e, f] X.env = (false, eval e X.env) :: starEach [f] X.env := by rfl) (nf : starEach [f] X.env = (false, eval f X.env) :: starEach [] X.env := by rfl) (hp : (backTo q2 (starEach [f] X.env)).any (·.1) = false := by rfl)
    (nb : starEach [.Call (.Name "range" p2) [e, f] [] q2] X.env = (false, eval (.Call (.Name "range" p2) [e, f] [] q2) X.env) :: starEach [] X.env := by rfl) :
    PD X W (.Call (.Name "list" p1) [.Call (.Name "range" p2) [e, f] [] q2] [] q1) (wLRg (wRg2 w u)) := by
  obtain ⟨t, a1, a2⟩ := h
  obtain ⟨t2, b1, b2⟩ := h2
  refine ⟨_, pe_listRg hc hg hm (prg_2 hg2 hm2 a1 b1 na nf hp) nb, ?_⟩
  intro σ H Fr Hf env ts k x Q s c hw q hx
  refine a2 σ H Fr Hf env ts _ x _ s c hw (fun n e v Hf' H' hk sm c' s' => ?_) hx
  refine b2 σ H' Fr Hf' e ((v, n) :: ts) _ x _ s' c' hk (fun m e2 u2 Hf2 H2 hk2 sm2 c2 s2 => ?_) ((hx.mono sm).more [(v, n)])
  split at hk2
  · rename_i i j
    have r1 := s2.memD (x := .int j) List.mem_cons_self
    have r2 := s2.memD (x := .int i) (v := v) (List.mem_cons_of_mem _ List.mem_cons_self)
    unfold Rep at r1 r2
    exact ⟨i, j, r2, r1, hk2.1, fun b hb => q _ e2 _ Hf2 _ hk2.2 (sm.trans sm2) c2 (s2.tail.tail.newL hb (reps_rg _ _))⟩
  · exact hk2.elim
end

/-! ### a list's place is set -/
section
variable {K : PySem.W.Frag} {W : WX} {X : Cx}
theorem repNs_set {Hf H : Hp} : ∀ {l : List N} {vs : List V} {A B : List Addr} {j : Nat} {n : N} {v : V}, RepNs K Hf H l vs A → RepN K Hf H n v B → j < l.length → ∃ C, C.Sublist A ∧ ∃ D, RepNs K Hf H (l.set j n) (vs.set j v) D ∧ D.Perm (B ++ C)
  | [], _, _, _, _, _, _, _, _, h => by simp at h
  | m :: l, vs, A, B, 0, n, v, h, hn, _ => by
    unfold RepNs at h
    obtain ⟨u, us, A1, A2, e1, e2, e3, e4⟩ := h
    rw [e1, e2]
    refine ⟨A2, List.sublist_append_right _ _, B ++ A2, ?_, List.Perm.refl _⟩
    rw [List.set_cons_zero, List.set_cons_zero]
    unfold RepNs
    exact ⟨v, us, B, A2, rfl, rfl, hn, e4⟩
  | m :: l, vs, A, B, j + 1, n, v, h, hn, hj => by
    unfold RepNs at h
    obtain ⟨u, us, A1, A2, e1, e2, e3, e4⟩ := h
    obtain ⟨C, hC, D, hD, hp⟩ := repNs_set (j := j) e4 hn (by simpa using hj)
    rw [e1, e2]
    refine ⟨A1 ++ C, (List.Sublist.refl _).append hC, A1 ++ D, ?_, ?_⟩
    · rw [List.set_cons_succ, List.set_cons_succ]
      unfold RepNs
      exact ⟨u, us.set j v, A1, D, rfl, rfl, e3, hD⟩
    · refine (hp.append_left A1).trans ?_
      rw [← List.append_assoc, ← List.append_assoc]
      exact List.Perm.append_right _ List.perm_append_comm
/-- the new root at p over the new children, made of the old ones and of what was held -/
theorem St.redo {Fr Hf H : Hp} {p : Addr} {o : HO} {n m : N} {v : V} {k : N} {qs : List (V × N)} (s : St K Fr Hf H ((.ref p, n) :: (v, k) :: qs))
    (h : ∀ B A3, RepN K Hf H n (.ref p) (p :: B) → p ∉ B ++ A3 → RepN K Hf H k v A3 → ∃ D, RepN K Hf (upd H p o) m (.ref p) (p :: D) ∧ ∃ C, D.Perm C ∧ C.Sublist (B ++ A3)) (hr : ∀ A, RepN K Hf H n (.ref p) A → ∃ B, A = p :: B) :
    St K Fr Hf (upd H p o) ((.ref p, m) :: qs) := by
  obtain ⟨A, r, nd, d⟩ := s.own
  unfold RepPs at r
  obtain ⟨A1, A2, eA, r1, r2⟩ := r
  unfold RepPs at r2
  obtain ⟨A3, A4, eA2, r3, r4⟩ := r2
  obtain ⟨B, rfl⟩ := hr A1 r1
  have hA : A = p :: ((B ++ A3) ++ A4) := by rw [eA, eA2]; simp
  rw [hA] at nd d
  have np := (List.nodup_cons.mp nd).1
  have nd2 := (List.nodup_cons.mp nd).2
  have dp := d p List.mem_cons_self
  have kF : ∀ {G : Hp} {b : Addr} {u : HO}, G p = none → G b = some u → b ≠ p := fun {G b u} g h z => by rw [z, g] at h; cases h
  obtain ⟨D, rD, C, hp, hC⟩ := h B A3 r1 (fun z => np (List.mem_append_left _ z)) r3
  have sub : (p :: (C ++ A4)).Sublist (p :: ((B ++ A3) ++ A4)) := (hC.append (List.Sublist.refl _)).cons₂ _
  have pm : (p :: (D ++ A4)).Perm (p :: (C ++ A4)) := (hp.append_right A4).cons p
  refine ⟨fun b u h => by rw [upd_ne (kF dp.1 h)]; exact s.ex b u h, fun b u h => by rw [upd_ne (kF dp.2 h)]; exact s.fr b u h, s.dj, p :: (D ++ A4), ?_, pm.nodup_iff.mpr (nd.sublist sub), fun a ha => d a (sub.subset (pm.mem_iff.mp ha))⟩
  unfold RepPs
  exact ⟨p :: D, A4, rfl, rD, r4.stay (Same.refl _) fun a ha => upd_ne fun z => np (by rw [← z]; exact List.mem_append_right _ ha)⟩
def wsPutL (i : Nat) (ix : WO) (w : WE) : WS := fun env E x => w env (fun n e => onS ((e[i]?).join) fun m => isL m = true ∧ ix e (fun val e2 => onS ((val.get e2).bind flat) fun d => match d, (e2[i]?).join with
  | .int k, some (.lst ns) => onS (ixN ns.length k) fun j => E.nx (e2.set i (some (.lst (ns.set j n))))
  | _, _ => False) x) x
theorem ixN_lt {n : Nat} {k : Int} {j : Nat} (h : ixN n k = some j) : j < n := (ixN_seq h).2.1
theorem runs_sPutL {fx : List Nat} {i : Nat} {ix : WO} {w : WE} {ti te : TE} (h : Runs K W w te) (hi : RunsO K W ix ti) : RunsS K W fx (wsPutL i ix w) (tAsg te (L2.gSub (tVar i) ti rSetL)) := by
  intro σ H Fr Hf env E x D s c hw e hx
  refine h σ H Fr Hf env [] _ x _ s c hw (fun n env' v Hf' H' hk sm c' s' => ?_) hx.x
  obtain ⟨m, hm, hl, hk⟩ := onS_elim hk
  have hm := join_some hm
  obtain ⟨v0, hv0⟩ := c'.has i m hm
  obtain ⟨p0, vs0, rfl, hp0⟩ := s'.isL (List.mem_cons_of_mem _ (slots_mem hv0 hm)) hl
  refine ⟨.ref p0, hv0, ?_⟩
  refine hi σ H' Fr Hf' env' [(v, n)] _ x _ s' c' hk (fun val e2 u Hf2 H2 hk2 sm2 c2 vi => ?_) ((hx.x.mono sm).more [(v, n)])
  obtain ⟨d, hd, hk2⟩ := onS_elim hk2
  have t := val_flat vi hd
  split at hk2
  · rename_i k ns hj
    obtain ⟨j, hij, hk2⟩ := onS_elim hk2
    have hj := join_some hj
    have s1 : St K Fr Hf2 H2 ((v, n) :: slots σ e2) := vi.rest
    have s2 : St K Fr Hf2 H2 ((.ref p0, .lst ns) :: (v, n) :: slots σ (e2.set i none)) := (s1.perm (List.Perm.cons _ (slots_take hv0 hj))).perm (List.Perm.swap _ _ _)
    obtain ⟨A, r, _⟩ := s2.mem List.mem_cons_self
    unfold RepN at r
    obtain ⟨q, vs, B, e1, e2', e3, e4⟩ := r
    cases e1
    have s3 := s2.redo (o := .lst (vs.set j v)) (m := .lst (ns.set j n)) (fun B A3 rr np r3 => by
      unfold RepN at rr
      obtain ⟨q2, vs2, B2, f1, f2, f3, f4⟩ := rr
      cases f1
      rw [e3] at f3
      cases f3
      cases f2
      have st : ∀ a ∈ B ++ A3, (upd H2 p0 (.lst (vs.set j v))) a = H2 a := fun a ha => upd_ne fun z => np (by rw [← z]; exact ha)
      obtain ⟨C, hC, DD, hD, hp⟩ := repNs_set (j := j) (RepNs.stay (H' := upd H2 p0 (.lst (vs.set j v))) (Same.refl _) _ _ _ f4 fun a ha => st a (List.mem_append_left _ ha)) (RepN.stay (Same.refl _) _ _ _ r3 fun a ha => st a (List.mem_append_right _ ha)) (ixN_lt hij)
      refine ⟨DD, ?_, C ++ A3, hp.trans List.perm_append_comm, hC.append (List.Sublist.refl _)⟩
      unfold RepN
      exact ⟨p0, _, DD, rfl, rfl, upd_same, hD⟩) (fun A r => by
      unfold RepN at r
      obtain ⟨q2, vs2, B2, f1, f2, f3, f4⟩ := r
      cases f1
      exact ⟨B2, f2⟩)
    refine ⟨p0, vs, k, j, rfl, top_int t, e3, by rw [e4.length]; exact hij, ?_⟩
    exact e.nx _ σ Hf2 _ hk2 FixS.refl (sm.trans sm2) (c2.tree _ hj) (s3.perm (slots_put (lt_of_get hj) hv0).symm)
  · exact hk2.elim
theorem psd_putL {fx : List Nat} (i : Nat) {x : Str} {value ix : Expr} {w : WE} {o : WO} {np pos' pos : Pos} (hv : PD X W value w) (hi : PDO X W ix o) (hN : X.N[i]? = some x := by rfl) (hvis : Vis X.env.scope x := by first | exact Or.inl rfl | exact Or.inr (Or.inl rfl) | exact Or.inr (Or.inr rfl))
    (hd : (x == ("__debug__" : Str)) = false := by decide) (hcd : (x == ("__classdict__" : Str)) = false := by decide)
    (ha : ∀ v, assign (.Subscript (.Name x np) ix pos') X.env v = (do
      let ov ← holding [v] (eval (.Name x np) X.env)
      let iv ← holding [v, ov] (eval ix X.env)
      standAt pos'
      holding [v, ov, iv] (setItem ov iv v)
      release [v, ov, iv] []) := by intro _; rfl)
    (hs : swapsWithSole [.Subscript (.Name x np) ix pos'] value pos.line X.env = pure false := by rfl) (hw : swappedStores [.Subscript (.Name x np) ix pos'] value X.env = pure none := by rfl)
    (h1 : (assignEach [.Subscript (.Name x np) ix pos'] X.env).map (·.2) = [assign (.Subscript (.Name x np) ix pos') X.env] := by rfl) :
    PSD X W fx (.Assign [.Subscript (.Name x np) ix pos'] value pos) (wsPutL i o w) := by
  obtain ⟨t, a1, a2⟩ := hv
  obtain ⟨u, b1, b2⟩ := hi
  exact ⟨_, ps_asg a1 (pg_sub (pe_var hN hvis hd hcd) b1 set_list ha) hs hw h1, runs_sPutL a2 b2⟩
end

/-! ### dicts -/
def keyD : D → Option Key
  | .int i => some (.inl i)
  | .str z => some (.inr z)
  | _ => none
def hasK (ks : List Key) (k : Key) : Bool := ks.any fun j => decide (j = k)
def putD (ks : List Key) (l : List D) (k : Key) (y : D) : List Key × List D :=
  if hasK ks k = true then (ks, (ks.zip l).map fun p => if p.1 = k then y else p.2) else (ks ++ [k], l ++ [y])
def wsPutD (i : Nat) (ix : WO) (w : WE) : WS := fun env E x => w env (fun n e => onS ((e[i]?).join) fun _ => ix e (fun val e2 => onS ((val.get e2).bind flat) fun d => onS (keyD d) fun key => match (e2[i]?).join with
  | some (.dic ks l) => (match n with
    | .d y => onS (allD l) fun ds => ds.length < sizeLine ∧ E.nx (e2.set i (some (.dic (putD ks ds key y).1 ((putD ks ds key y).2.map N.d))))
    | _ => False)
  | _ => False) x) x
def gInK (neg : Bool) : G2 := fun a b => match b with
  | .dic ks _ => (keyD a).map fun k => .d (.bl (if neg then !hasK ks k else hasK ks k))
  | _ => none
def wDic0 : WE := fun env k _ => k (.dic [] []) env
def intKs : List Key → Option (List Int)
  | [] => some []
  | .inl i :: l => (intKs l).map (i :: ·)
  | .inr _ :: _ => none
def gSortDI : GL
  | [.dic ks _] => if ks.length < 64 then (intKs ks).map fun ns => .lst (((sortI ns).map D.int).map N.d) else none
  | _ => none
section
variable {K : PySem.W.Frag} {W : WX} {X : Cx}
theorem top_key {Hf H : Hp} {d : D} {v : V} {k : Key} (h : Top K Hf H d v) (e : keyD d = some k) : v = kV k := by
  cases d with
  | int i => cases e; exact top_int h
  | str z => cases e; exact top_str h
  | _ => cases e
theorem has_eq {k : Key} (es : List (Key × V)) : (es.any fun p => decide (p.1 = k)) = hasK (es.map (·.1)) k := by
  unfold hasK
  rw [List.any_map]
  rfl
theorem putK_fst {k : Key} {v : V} (es : List (Key × V)) (l : List D) (y : D) : (putK es k v).map (·.1) = (putD (es.map (·.1)) l k y).1 := by
  unfold putK putD
  rw [has_eq]
  by_cases h : hasK (es.map (·.1)) k = true
  · rw [if_pos h, if_pos h, List.map_map]
    refine List.map_congr_left fun p _ => ?_
    show (if p.1 = k then (p.1, v) else p).1 = p.1
    split <;> rfl
  · rw [if_neg h, if_neg h, List.map_append]
    rfl
theorem putK_snd {Hf : Hp} {k : Key} {v : V} {es : List (Key × V)} {l : List D} {y : D} (r : Reps K Hf l (es.map (·.2))) (ry : Rep K Hf y v) : Reps K Hf (putD (es.map (·.1)) l k y).2 ((putK es k v).map (·.2)) := by
  unfold putK putD
  rw [has_eq]
  by_cases h : hasK (es.map (·.1)) k = true
  · rw [if_pos h, if_pos h]
    clear h
    show Reps K Hf (((es.map (·.1)).zip l).map fun p => if p.1 = k then y else p.2) ((es.map fun p => if p.1 = k then (p.1, v) else p).map (·.2))
    induction es generalizing l with
    | nil =>
      show Reps K Hf [] []
      unfold Reps
      rfl
    | cons p es ih =>
      cases l with
      | nil => unfold Reps at r; cases r
      | cons d l =>
        unfold Reps at r
        obtain ⟨u, us, e1, e2, e3⟩ := r
        rw [List.map_cons] at e1
        cases e1
        show Reps K Hf ((if p.1 = k then y else d) :: _) ((if p.1 = k then (p.1, v) else p).2 :: _)
        unfold Reps
        refine ⟨_, _, rfl, ?_, ih e3⟩
        by_cases c : p.1 = k
        · rw [if_pos c, if_pos c]; exact ry
        · rw [if_neg c, if_neg c]; exact e2
  · rw [if_neg h, if_neg h, List.map_append]
    refine r.append ?_
    show Reps K Hf [y] [v]
    unfold Reps
    refine ⟨v, [], rfl, ry, ?_⟩
    unfold Reps
    rfl
theorem isDic_of {Fr Hf H : Hp} {ps : List (V × N)} {v : V} {ks : List Key} {l : List N} (s : St K Fr Hf H ps) (h : (v, .dic ks l) ∈ ps) : ∃ p es, v = .ref p ∧ H p = some (.dK es) ∧ es.map (·.1) = ks ∧ es.length = l.length := by
  obtain ⟨A, r, _⟩ := s.mem h
  unfold RepN at r
  obtain ⟨p, es, B, e1, e2, e3, e4, e5⟩ := r
  have := e5.length
  rw [List.length_map] at this
  exact ⟨p, es, e1, e3, e4, this⟩
theorem runs_sPutD {fx : List Nat} {i : Nat} {ix : WO} {w : WE} {ti te : TE} (h : Runs K W w te) (hi : RunsO K W ix ti) : RunsS K W fx (wsPutD i ix w) (tAsg te (L2.gSub (tVar i) ti rSetD)) := by
  intro σ H Fr Hf env E x D s c hw e hx
  refine h σ H Fr Hf env [] _ x _ s c hw (fun n env' v Hf' H' hk sm c' s' => ?_) hx.x
  obtain ⟨m, hm, hk⟩ := onS_elim hk
  have hm := join_some hm
  obtain ⟨v0, hv0⟩ := c'.has i m hm
  refine ⟨v0, hv0, ?_⟩
  refine hi σ H' Fr Hf' env' [(v, n)] _ x _ s' c' hk (fun val e2 u Hf2 H2 hk2 sm2 c2 vi => ?_) ((hx.x.mono sm).more [(v, n)])
  obtain ⟨d, hd, hk2⟩ := onS_elim hk2
  obtain ⟨key, hkey, hk2⟩ := onS_elim hk2
  have t := val_flat vi hd
  split at hk2
  · rename_i ks l hj
    obtain ⟨y, rfl⟩ : ∃ y, n = .d y := by
      cases n with
      | d y => exact ⟨y, rfl⟩
      | _ => exact hk2.elim
    obtain ⟨ds, hds, hz, hk2⟩ := onS_elim hk2
    have hj := join_some hj
    have s1 : St K Fr Hf2 H2 ((v, .d y) :: slots σ e2) := vi.rest
    rw [allD_eq hds] at hj
    have s2 : St K Fr Hf2 H2 ((v0, .dic ks (ds.map N.d)) :: (v, .d y) :: slots σ (e2.set i none)) := (s1.perm (List.Perm.cons _ (slots_take hv0 hj))).perm (List.Perm.swap _ _ _)
    obtain ⟨A, r, _⟩ := s2.mem List.mem_cons_self
    unfold RepN at r
    obtain ⟨q, es, B, e1, e2', e3, e4, e5⟩ := r
    cases e1
    obtain ⟨hB, rs⟩ := reps_of_d _ _ _ e5
    have ry := s2.memD (List.mem_cons_of_mem _ List.mem_cons_self)
    have hlen := rs.length
    rw [List.length_map] at hlen
    have s3 := s2.redo (o := .dK (putK es key v)) (m := .dic (putD ks ds key y).1 ((putD ks ds key y).2.map N.d)) (fun B A3 rr np r3 => by
      refine ⟨[], ?_, [], List.Perm.refl _, List.nil_sublist _⟩
      unfold RepN
      refine ⟨q, _, [], rfl, rfl, upd_same, ?_, ?_⟩
      · rw [← e4]
        exact putK_fst es ds y
      · rw [← e4]
        exact repNs_d _ _ (putK_snd rs ry)) (fun A r => by
      unfold RepN at r
      obtain ⟨q2, es2, B2, f1, f2, f3⟩ := r
      cases f1
      exact ⟨B2, f2⟩)
    refine ⟨q, _, rfl, .inl ⟨es, key, e3, top_key t hkey, by omega, rfl⟩, ?_⟩
    exact e.nx _ σ Hf2 _ hk2 FixS.refl (sm.trans sm2) (c2.tree _ hj) (s3.perm (slots_put (lt_of_get hj) hv0).symm)
  · exact hk2.elim
theorem psd_putD {fx : List Nat} (i : Nat) {x : Str} {value ix : Expr} {w : WE} {o : WO} {np pos' pos : Pos} (hu : X.A.units + 1 < cLine) (hv : PD X W value w) (hi : PDO X W ix o) (hN : X.N[i]? = some x := by rfl) (hvis : Vis X.env.scope x := by first | exact Or.inl rfl | exact Or.inr (Or.inl rfl) | exact Or.inr (Or.inr rfl))
    (hd : (x == ("__debug__" : Str)) = false := by decide) (hcd : (x == ("__classdict__" : Str)) = false := by decide)
    (ha : ∀ v, assign (.Subscript (.Name x np) ix pos') X.env v = (do
      let ov ← holding [v] (eval (.Name x np) X.env)
      let iv ← holding [v, ov] (eval ix X.env)
      standAt pos'
      holding [v, ov, iv] (setItem ov iv v)
      release [v, ov, iv] []) := by intro _; rfl)
    (hs : swapsWithSole [.Subscript (.Name x np) ix pos'] value pos.line X.env = pure false := by rfl) (hw : swappedStores [.Subscript (.Name x np) ix pos'] value X.env = pure none := by rfl)
    (h1 : (assignEach [.Subscript (.Name x np) ix pos'] X.env).map (·.2) = [assign (.Subscript (.Name x np) ix pos') X.env] := by rfl) :
    PSD X W fx (.Assign [.Subscript (.Name x np) ix pos'] value pos) (wsPutD i o w) := by
  obtain ⟨t, a1, a2⟩ := hv
  obtain ⟨u, b1, b2⟩ := hi
  exact ⟨_, ps_asg a1 (pg_sub (pe_var hN hvis hd hcd) b1 (set_dict hu) ha) hs hw h1, runs_sPutD a2 b2⟩
theorem runs_dic0 : Runs K W wDic0 tDNewK := by
  intro σ H Fr Hf env ts k x Q s c hw q _
  refine fun p hp => q _ env (.ref p) Hf _ hw (Same.refl _) c ?_
  obtain ⟨A, r, n, d⟩ := s.own
  refine s.alloc (B := []) hp ⟨A, r, n, d⟩ (fun a ha => absurd ha List.not_mem_nil) ?_
  unfold RepN
  refine ⟨p, [], [], rfl, rfl, upd_same, rfl, ?_⟩
  unfold RepNs
  exact ⟨rfl, rfl⟩
theorem pd_dic0 {pos : Pos} : PD X W (.Dict [] [] pos) wDic0 := ⟨_, pe_dnewK, runs_dic0⟩
def rInDK (neg : Bool) : R2 := fun x y H Q => ∃ a o, y = .ref a ∧ DGet H a x o ∧ Q (.bl (if neg then !o.isSome else o.isSome)) H
theorem op_inDK (hu : X.A.units + 1 < cLine) : OpR X (compareOp .In) (rInDK false) := by
  intro pins sh sl Hp x y v u Q I rx ry h
  obtain ⟨a, o, rfl, g, q⟩ := h
  cases ry
  exact d_in hu I g rx fun s3 I3 => ⟨.bl o.isSome, Hp, I3, rfl, q⟩
theorem op_notInDK (hu : X.A.units + 1 < cLine) : OpR X (compareOp .NotIn) (rInDK true) := by
  intro pins sh sl Hp x y v u Q I rx ry h
  obtain ⟨a, o, rfl, g, q⟩ := h
  cases ry
  exact d_notIn hu I g rx fun s3 I3 => ⟨.bl (!o.isSome), Hp, I3, rfl, q⟩
theorem valV_has {k : Key} (es : List (Key × V)) : (valV es k).isSome = hasK (es.map (·.1)) k := by rw [← valV_any, has_eq]
theorem sd_inK {neg : Bool} : Sd2 K (rInDK neg) (gInK neg) := by
  intro Fr Hf H ps v w x y m Q s h1 h2 hg q
  unfold gInK at hg
  split at hg
  · rename_i ks l
    cases e : keyD x with
    | none => rw [e] at hg; cases hg
    | some key =>
      rw [e] at hg
      cases hg
      obtain ⟨p, es, rfl, e1, e2, r⟩ := h2
      refine ⟨p, valV es key, rfl, .inl ⟨es, key, .inl e1, top_key h1 e, rfl⟩, ?_⟩
      rw [valV_has, e2]
      exact q.bl s
  · cases hg
theorem pd_inK {a b : Expr} {o1 o2 : WO} {pos : Pos} (hu : X.A.units + 1 < cLine) (h1 : PDO X W a o1) (h2 : PDO X W b o2) (hm : behindInMarks .In b = false := by rfl) : PD X W (.Compare a [.In] [b] pos) (wOp2 (up2 (gInK false)) o1 o2) := pd_cmp (op_inDK hu) sd_inK.snd hm h1 h2
theorem pd_notInK {a b : Expr} {o1 o2 : WO} {pos : Pos} (hu : X.A.units + 1 < cLine) (h1 : PDO X W a o1) (h2 : PDO X W b o2) (hm : behindInMarks .NotIn b = false := by rfl) : PD X W (.Compare a [.NotIn] [b] pos) (wOp2 (up2 (gInK true)) o1 o2) := pd_cmp (op_notInDK hu) sd_inK.snd hm h1 h2
theorem intKs_eq : ∀ {ks : List Key} {ns : List Int}, intKs ks = some ns → ks = ns.map Sum.inl
  | [], ns, h => by cases h; rfl
  | .inl i :: l, ns, h => by
    unfold intKs at h
    cases q : intKs l with
    | none => rw [q] at h; cases h
    | some ms =>
      rw [q] at h
      cases h
      rw [intKs_eq q]
      rfl
  | .inr _ :: l, ns, h => by cases h
theorem sd_sortDI : SdL K (fun xs H Q => ∃ (a : Addr) (kvs : List (Key × V)) (ks : List Int), xs = [.ref a] ∧ Rd H a (.dK kvs) ∧ kvs.map (·.1) = ks.map Sum.inl ∧ ks.length < 64 ∧
    ∀ (ys : List Int) (p : Addr), ys.Perm ks → ys.Pairwise (· ≤ ·) → H p = none → Q (.ref p) (upd H p (.lst (ys.map V.int)))) gSortDI := by
  intro Fr Hf H ps vs xs m Q s ht hg q
  unfold gSortDI at hg
  split at hg
  · obtain ⟨v, rfl, t⟩ := one_top ht
    rename_i ks l
    split at hg
    · rename_i h64
      cases g : intKs ks with
      | none => rw [g] at hg; cases hg
      | some ns =>
        rw [g] at hg; cases hg
        obtain ⟨p, es, rfl, e1, e2, r⟩ := t
        have hk := intKs_eq g
        refine ⟨p, es, ns, rfl, .inl e1, e2.trans hk, by rw [hk, List.length_map] at h64; exact h64, fun ys b hp hs hn => ?_⟩
        rw [sortI_eq hp hs]
        exact q.lst s (reps_ints _) hn
    · cases hg
  · cases hg
end

/-! ### dicts with None among the keys: only which keys there are is told -/
def nkO (P : Program) (w : World) (ks : List (Option Key)) : Addr → Heap → Prop := fun a h => (a == sysModules) = false ∧ ∃ vs : List (Option Key × Value), vs.map (·.1) = ks ∧ h.DictOf (noneKind P w) a vs
def keyN : D → Option (Option Key)
  | .non => some none
  | .int i => some (some (.inl i))
  | .str z => some (some (.inr z))
  | _ => none
def hasN (ks : List (Option Key)) (k : Option Key) : Bool := ks.any fun j => decide (j = k)
def putN (ks : List (Option Key)) (k : Option Key) : List (Option Key) := if hasN ks k = true then ks else ks ++ [k]
def wDisN (P : Program) (w : World) (v : WE) : WE := fun env k x => v env (fun n e => scal1 n = true ∧ k (.ext (nkO P w [none])) e) x
where scal1 : N → Bool
  | .d x => scalD x
  | _ => false
def wsPutN (P : Program) (w : World) (i : Nat) (ix : WO) (v : WE) : WS := fun env E x => v env (fun _ e => onS ((e[i]?).join) fun _ => ix e (fun val e2 => onS ((val.get e2).bind flat) fun d => onS (keyN d) fun key =>
  ∃ ks, (e2[i]?).join = some (.ext (nkO P w ks)) ∧ ks.length < sizeLine ∧ E.nx (e2.set i (some (.ext (nkO P w (putN ks key)))))) x) x
def wInN (P : Program) (w : World) (neg : Bool) (o1 o2 : WO) : WE := fun env k x => o1 env (fun a e1 => o2 e1 (fun b e2 => onS ((a.get e2).bind flat) fun d => onS (keyN d) fun key =>
  ∃ ks, (b.get e2).bind flat = some (.ext (nkO P w ks)) ∧ k (.d (.bl (if neg then !hasN ks key else hasN ks key))) e2) x) x
section
variable {K : PySem.W.Frag} {W : WX} {X : Cx}
theorem top_keyN {Hf H : Hp} {d : D} {v : V} {u : Value} {k : Option Key} (h : Top K Hf H d v) (e : keyN d = some k) (r : RelV v u) : nkIs k u = true := by
  cases d with
  | non =>
    cases e
    rw [top_non h] at r
    cases r
    rfl
  | int i =>
    cases e
    rw [top_int h] at r
    obtain ⟨t, rfl⟩ := r
    show keyIs (.inl i) (.int i t) = true
    simp [keyIs, Value.isInt, Value.isStrOf]
  | str z =>
    cases e
    rw [top_str h] at r
    obtain ⟨t, rfl⟩ := r
    show keyIs (.inr z) (.str z t) = true
    simp [keyIs, Value.isInt, Value.isStrOf]
  | _ => cases e
theorem nkO_ok {P : Program} {w : World} {H : Hp} {h : Heap} {a : Addr} {ks : List (Option Key)} (x : nkO P w ks a h) : ObjOk P w H h a (.ext (nkO P w ks a)) := by
  obtain ⟨hd, vs, e1, e2⟩ := x
  have e2' := e2
  obtain ⟨o, es, ep, ho, r⟩ := e2'
  refine ⟨⟨hd, vs, e1, e2⟩, ⟨o, ho⟩, fun h1 h2 p k => ?_⟩
  obtain ⟨hd, vs, e1, o, es, ep, ho, r⟩ := p
  exact ⟨hd, vs, e1, o, es, ep, k o ho, r⟩
theorem nkO_get {pins : List (Addr × Obj)} {σ : L2.St} {H : Hp} {s : Shared} {a : Addr} {ks : List (Option Key)} (I : Inv X pins σ H s) (ha : H a = some (.ext (nkO X.prog X.w ks a))) : nkO X.prog X.w ks a s.heap := (I.hok a _ ha).1
theorem valueAt_has {k : Option Key} (vs : List (Option Key × Value)) : (PySem.valueAt vs k).isSome = hasN (vs.map (·.1)) k := by
  unfold PySem.valueAt hasN
  induction vs with
  | nil => rfl
  | cons p vs ih =>
    rw [List.map_cons, List.any_cons, List.find?_cons]
    by_cases c : p.1 = k
    · simp [c]
    · simpa [c] using ih
theorem stored_fst {k : Option Key} {v : Value} (vs : List (Option Key × Value)) : (PySem.stored vs k v).map (·.1) = putN (vs.map (·.1)) k := by
  unfold PySem.stored putN
  have e : (vs.any fun kv => decide (kv.1 = k)) = hasN (vs.map (·.1)) k := by
    unfold hasN
    rw [List.any_map]
    rfl
  rw [e]
  by_cases c : hasN (vs.map (·.1)) k = true
  · rw [if_pos c, if_pos c, List.map_map]
    refine List.map_congr_left fun p _ => ?_
    show (if p.1 = k then (p.1, v) else p).1 = p.1
    split <;> rfl
  · rw [if_neg c, if_neg c, List.map_append]
    rfl
def rSetN (P : Program) (w : World) : TSet := fun o i _ H Q => ∃ a ks key, o = .ref a ∧ (∀ u, RelV i u → nkIs key u = true) ∧ H a = some (.ext (nkO P w ks a)) ∧ ks.length < sizeLine ∧ Q (upd H a (.ext (nkO P w (putN ks key) a)))
theorem set_none : PSet X (rSetN X.prog X.w) := by
  intro pins sh sl Hp o i v ov iv u Q I ro ri rv hw
  obtain ⟨a, ks, key, rfl, hk, ha, hz, q⟩ := hw
  cases ro
  obtain ⟨hd, vs, e1, e2⟩ := nkO_get I ha
  have hl : vs.length = ks.length := by rw [← e1, List.length_map]
  refine wpAny_setItem_pairs (knd := noneKind X.prog X.w) (hsz := by rw [hl]; omega) (show (noneKind X.prog X.w).is key iv = true from hk iv ri) e2 fun h' dd hs => ?_
  have he : ∃ q, h'.get? a = some q := let ⟨q, _, _, hq, _⟩ := dd; ⟨q, hq⟩
  exact ⟨_, d_write I (by rw [ha]; exact True.intro) hs he (nkO_ok ⟨hd, _, (stored_fst vs).trans (by rw [e1]), dd⟩), q⟩
theorem runs_sPutN {fx : List Nat} {P : Program} {w : World} {i : Nat} {ix : WO} {v : WE} {ti te : TE} (h : Runs K W v te) (hi : RunsO K W ix ti) : RunsS K W fx (wsPutN P w i ix v) (tAsg te (L2.gSub (tVar i) ti (rSetN P w))) := by
  intro σ H Fr Hf env E x D s c hw e hx
  refine h σ H Fr Hf env [] _ x _ s c hw (fun n env' v Hf' H' hk sm c' s' => ?_) hx.x
  obtain ⟨m, hm, hk⟩ := onS_elim hk
  have hm := join_some hm
  obtain ⟨v0, hv0⟩ := c'.has i m hm
  refine ⟨v0, hv0, ?_⟩
  refine hi σ H' Fr Hf' env' [(v, n)] _ x _ s' c' hk (fun val e2 u Hf2 H2 hk2 sm2 c2 vi => ?_) ((hx.x.mono sm).more [(v, n)])
  obtain ⟨d, hd, hk2⟩ := onS_elim hk2
  obtain ⟨key, hkey, ks, hj, hz, hk2⟩ := onS_elim hk2
  have t := val_flat vi hd
  have hj := join_some hj
  have s1 : St K Fr Hf2 H2 ((v, n) :: slots σ e2) := vi.rest
  have s2 : St K Fr Hf2 H2 ((v0, .ext (nkO P w ks)) :: (v, n) :: slots σ (e2.set i none)) := (s1.perm (List.Perm.cons _ (slots_take hv0 hj))).perm (List.Perm.swap _ _ _)
  obtain ⟨A, r, _⟩ := s2.mem List.mem_cons_self
  unfold RepN at r
  obtain ⟨q, e1, e2', e3⟩ := r
  cases e1
  have s3 := s2.redo (o := .ext (nkO P w (putN ks key) q)) (m := .ext (nkO P w (putN ks key))) (fun B A3 rr np r3 => by
    refine ⟨[], ?_, [], List.Perm.refl _, List.nil_sublist _⟩
    unfold RepN
    exact ⟨q, rfl, rfl, upd_same⟩) (fun A r => by
    unfold RepN at r
    obtain ⟨q2, f1, f2, f3⟩ := r
    cases f1
    exact ⟨[], f2⟩)
  refine ⟨q, ks, key, rfl, fun z hz => top_keyN t hkey hz, e3, hz, ?_⟩
  exact e.nx _ σ Hf2 _ hk2 FixS.refl (sm.trans sm2) (c2.tree _ hj) (s3.perm (slots_put (lt_of_get hj) hv0).symm)
theorem psd_putN {fx : List Nat} (i : Nat) {x : Str} {value ix : Expr} {w : WE} {o : WO} {np pos' pos : Pos} (hv : PD X W value w) (hi : PDO X W ix o) (hN : X.N[i]? = some x := by rfl) (hvis : Vis X.env.scope x := by first | exact Or.inl rfl | exact Or.inr (Or.inl rfl) | exact Or.inr (Or.inr rfl))
    (hd : (x == ("__debug__" : Str)) = false := by decide) (hcd : (x == ("__classdict__" : Str)) = false := by decide)
    (ha : ∀ v, assign (.Subscript (.Name x np) ix pos') X.env v = (do
      let ov ← holding [v] (eval (.Name x np) X.env)
      let iv ← holding [v, ov] (eval ix X.env)
      standAt pos'
      holding [v, ov, iv] (setItem ov iv v)
      release [v, ov, iv] []) := by intro _; rfl)
    (hs : swapsWithSole [.Subscript (.Name x np) ix pos'] value pos.line X.env = pure false := by rfl) (hw : swappedStores [.Subscript (.Name x np) ix pos'] value X.env = pure none := by rfl)
    (h1 : (assignEach [.Subscript (.Name x np) ix pos'] X.env).map (·.2) = [assign (.Subscript (.Name x np) ix pos') X.env] := by rfl) :
    PSD X W fx (.Assign [.Subscript (.Name x np) ix pos'] value pos) (wsPutN X.prog X.w i o w) := by
  obtain ⟨t, a1, a2⟩ := hv
  obtain ⟨u, b1, b2⟩ := hi
  exact ⟨_, ps_asg a1 (pg_sub (pe_var hN hvis hd hcd) b1 set_none ha) hs hw h1, runs_sPutN a2 b2⟩
def rInN (P : Program) (w : World) (neg : Bool) : R2 := fun x y H Q => ∃ a ks key, y = .ref a ∧ (∀ u, RelV x u → nkIs key u = true) ∧ H a = some (.ext (nkO P w ks a)) ∧ Q (.bl (if neg then !hasN ks key else hasN ks key)) H
theorem op_inN : OpR X (compareOp .In) (rInN X.prog X.w false) := by
  intro pins sh sl Hp x y v u Q I rx ry hw
  obtain ⟨a, ks, key, rfl, hk, ha, q⟩ := hw
  cases ry
  obtain ⟨hd, vs, e1, e2⟩ := nkO_get I ha
  refine wpAny_in_of (knd := noneKind X.prog X.w) (show (noneKind X.prog X.w).is key v = true from hk v rx) hd e2.mapOf ?_
  rw [valueAt_has, e1]
  exact ⟨.bl (hasN ks key), Hp, I.tok _, rfl, q⟩
theorem op_notInN : OpR X (compareOp .NotIn) (rInN X.prog X.w true) := by
  intro pins sh sl Hp x y v u Q I rx ry hw
  obtain ⟨a, ks, key, rfl, hk, ha, q⟩ := hw
  cases ry
  obtain ⟨hd, vs, e1, e2⟩ := nkO_get I ha
  refine wpAny_notIn_of (knd := noneKind X.prog X.w) (show (noneKind X.prog X.w).is key v = true from hk v rx) hd e2.mapOf ?_
  rw [valueAt_has, e1]
  exact ⟨.bl (!hasN ks key), Hp, I.tok _, rfl, q⟩
theorem runs_inN {P : Program} {w : World} {neg : Bool} {o1 o2 : WO} {ta tb : TE} (h1 : RunsO K W o1 ta) (h2 : RunsO K W o2 tb) : Runs K W (wInN P w neg o1 o2) (tOp (rInN P w neg) ta tb) := by
  intro σ H Fr Hf env ts k x Q s c hw q hx
  refine h1 σ H Fr Hf env ts _ x _ s c hw (fun a e1 v1 Hf1 H1 hk sm1 c1 vi => ?_) hx
  refine h2 σ H1 Fr Hf1 e1 (held v1 a ++ ts) _ x _ vi.st c1 hk (fun b e2 v2 Hf2 H2 hk2 sm2 c2 vj => ?_) ((hx.mono sm1).more _)
  obtain ⟨d, hd, hk2⟩ := onS_elim hk2
  obtain ⟨key, hkey, ks, hb, hk2⟩ := onS_elim hk2
  have s2 := vj.st
  have ta : Top K Hf2 H2 d v1 := by
    cases g : a.get e2 with
    | none => rw [g] at hd; cases hd
    | some n =>
      rw [g, Option.bind_some] at hd
      exact s2.top (get_mem vi.slot (fun n e => List.mem_append_right _ (List.mem_append_left _ (held_mem n e))) g) hd
  obtain ⟨p, rfl, e⟩ := val_flat vj hb
  refine ⟨p, ks, key, rfl, fun u hu => top_keyN ta hkey hu, e, ?_⟩
  have s3 : St K Fr Hf2 H2 (held v1 a ++ (ts ++ slots σ e2)) := by
    have := vj.rest
    rwa [List.append_assoc] at this
  exact q _ e2 _ Hf2 H2 hk2 (sm1.trans sm2) c2 (s3.right.addD rep_bl)
theorem pd_inN {a b : Expr} {o1 o2 : WO} {pos : Pos} (h1 : PDO X W a o1) (h2 : PDO X W b o2) (hm : behindInMarks .In b = false := by rfl) : PD X W (.Compare a [.In] [b] pos) (wInN X.prog X.w false o1 o2) := by
  obtain ⟨t, a1, a2⟩ := h1
  obtain ⟨u, b1, b2⟩ := h2
  exact ⟨_, pe_cmpR op_inN a1 b1 hm, runs_inN a2 b2⟩
theorem pd_notInN {a b : Expr} {o1 o2 : WO} {pos : Pos} (h1 : PDO X W a o1) (h2 : PDO X W b o2) (hm : behindInMarks .NotIn b = false := by rfl) : PD X W (.Compare a [.NotIn] [b] pos) (wInN X.prog X.w true o1 o2) := by
  obtain ⟨t, a1, a2⟩ := h1
  obtain ⟨u, b1, b2⟩ := h2
  exact ⟨_, pe_cmpR op_notInN a1 b1 hm, runs_inN a2 b2⟩
theorem vv_one {v : V} : ∀ {ws : List (Value × Value)}, VV [(V.non, v)] ws → ∃ u2, ws = [(Value.none, u2)]
  | _, .cons (b := b) r rr => by
    cases rr
    obtain ⟨u1, u2⟩ := b
    have e : u1 = Value.none := r.1
    rw [e]
    exact ⟨u2, rfl⟩
/-- {None: v} -/
def tDisN (P : Program) (w : World) (v : V) : TE := fun _ H Q => ∀ p, H p = none → Q (.ref p) (upd H p (.ext (nkO P w [none] p)))
theorem pe_disN {e : Expr} {v : V} {j pos pos2} (he : PE X e (tC v)) (hall : ([some (Expr.Constant .none j pos2)] : List (Option Expr)).all (·.isSome) = true := by rfl) : PE X (.Dict [some (.Constant .none j pos2)] [e] pos) (tDisN X.prog X.w v) := by
  refine ⟨fun pins sh sl Hp Q I q => ?_⟩
  have hn := I.hok.fresh (Nat.le_refl sh.heap.objs.size)
  have I1 := I.laid (a := sh.heap.objs.size) (o := .dK []) (h' := sh.heap.push { cls := .type "dict", data := .dict #[] }) (t' := sh.toks) (fun _ _ q => Heap.get?_push_of_some _ q) (Nat.le_refl _) (dk_empty sh.heap I.big)
  have pp : PPs X pos [some (.Constant .none j pos2)] [e] [(tC .non, tC v)] := pps_cons pe_non he pps_nil
  refine wpAny_Dict_walk (knd := noneKind X.prog X.w) hall rfl (by simp) (by show 1 ≤ 15; decide) (thn (pp.run pins _ sl _ (fun ps H2 => ps = [(.non, v)] ∧ H2 = upd Hp sh.heap.objs.size (.dK [])) I1 ⟨rfl, rfl⟩) fun ws s2 ⟨ps, H2, I2, rel, e1, e2⟩ => ?_)
  subst e1 e2
  obtain ⟨u2, rfl⟩ := vv_one rel
  clear rel
  obtain ⟨z, hd, vs0, k0, dd⟩ := dk_of I2.hok (upd_same (H := Hp) (a := sh.heap.objs.size) (o := .dK []))
  cases k0
  have dn : s2.heap.DictOf (noneKind X.prog X.w) sh.heap.objs.size [] := by
    obtain ⟨o, es, ep, g1, g2, g3, g4, g5, g6⟩ := dd
    have hes : es.toList = [] := by
      cases hq : es.toList with
      | nil => rfl
      | cons y ys =>
        rw [hq] at g5
        cases g5
    refine ⟨o, es, ep, g1, g2, g3, fun x hx => ?_, by rw [hes]; exact .nil, List.nodup_nil⟩
    have : x ∈ es.toList := by simpa using hx
    rw [hes] at this
    cases this
  refine ⟨[(none, u2)], ⟨rfl, rfl, True.intro⟩, dn, fun h' dd' hs => ⟨.ref sh.heap.objs.size, upd Hp sh.heap.objs.size (.ext (nkO X.prog X.w [none] sh.heap.objs.size)), ?_, rfl, q _ hn⟩⟩
  have he : ∃ q, h'.get? sh.heap.objs.size = some q := let ⟨q, _, _, hq, _⟩ := dd'; ⟨q, hq⟩
  have wI := d_write (t' := s2.toks + [(Value.none, u2)].length) I2 (by rw [upd_same]; exact True.intro) hs he (nkO_ok (P := X.prog) (w := X.w) (ks := [none]) ⟨hd, _, rfl, dd'⟩)
  rw [upd_upd] at wI
  exact wI
def wDisN1 (P : Program) (w : World) : WE := fun env k _ => k (.ext (nkO P w [none])) env
theorem pd_disN {e : Expr} {v : V} {j pos pos2} (he : PE X e (tC v)) : PD X W (.Dict [some (.Constant .none j pos2)] [e] pos) (wDisN1 X.prog X.w) := by
  refine ⟨_, pe_disN he, ?_⟩
  intro σ H Fr Hf env ts k x Q s c hw q _
  intro p hp
  refine q _ env (.ref p) Hf _ hw (Same.refl _) c ?_
  obtain ⟨A, r, n, d⟩ := s.own
  refine s.alloc (B := []) hp ⟨A, r, n, d⟩ (fun a ha => absurd ha List.not_mem_nil) ?_
  unfold RepN
  exact ⟨p, rfl, rfl, upd_same⟩
end

/-! ### making an instance -/
def upM (vals : List Val) : XV → Option XV
  | .d x => some (.d x)
  | .sl 0 => none
  | .sl (i + 1) => upX vals (.sl i)
def exUpM (vals : List Val) (ex : Exn) : Option Exn := (ex.xs.mapM (upM vals)).map fun xs => { ex with xs := xs }
theorem map_rep {K : PySem.W.Frag} {Hf : Hp} {σ σ2 : L2.St} {u : XV → Option XV} (h : ∀ a b v, u a = some b → XRep K Hf σ2 a v → XRep K Hf σ b v) : ∀ {xs ys : List XV} {us : List V}, xs.mapM u = some ys → Paired (XRep K Hf σ2) xs us → Paired (XRep K Hf σ) ys us
  | [], ys, us, e, p => by
    simp at e
    subst e
    cases p
    exact .nil
  | a :: xs, ys, us, e, p => by
    cases p with
    | cons a1 r =>
      rw [List.mapM_cons] at e
      cases q : u a with
      | none => rw [q] at e; cases e
      | some b =>
        rw [q] at e
        cases q2 : xs.mapM u with
        | none => rw [q2] at e; cases e
        | some bs =>
          rw [q2] at e
          cases e
          exact .cons (h _ _ _ q a1) (map_rep h q2 r)
def wMake (c : Str) (np : Nat) (fs : FS) (a : WA) : WE := fun env k x => a env (fun vals e => vals.length + 1 = np ∧ onS (takeAll e vals) fun p => fs (.obj c [] [] :: p.1) (fun r outs => r = .d .non ∧ (match outs with
  | some o :: os => k o (putBack p.2 vals os)
  | _ => False)) (fun ex outs => onS (exUpM vals ex) fun ex' => x ex' (putBack p.2 vals outs.tail))) x
def tMakeG (C : Addr) (n : Nat) (ks : List Str) (pm : List Nat) (sp : Sp) (E : L2.St → XK) (t tk : TA) : TE := fun σ H Q => t σ H fun vs H1 => tk σ H1 fun zs H2 => (vs.length = n ∧ zs.length = ks.length) ∧ ∀ x dx, H2 x = none → H2 dx = none → dx ≠ x →
  sp (.ref x :: pick pm (vs ++ zs)) (upd (upd H2 dx (.own x)) x (.ins C dx [])) (fun v H3 => v = .non ∧ Q (.ref x) H3) (E σ)
/-- self ahead of the written ones -/
def selfP (pm : List Nat) : List Nat := 0 :: pm.map (· + 1)
theorem pick_self {α : Type} (a : α) (l : List α) (pm : List Nat) : pick (selfP pm) (a :: l) = a :: pick pm l := by
  unfold pick selfP
  rw [List.filterMap_cons]
  show a :: List.filterMap _ _ = _
  rw [List.filterMap_map]
  rfl
section
variable {K : PySem.W.Frag} {W : WX} {X : Cx} {k n np : Nat} {f C : Addr} {fd : FuncData} {ps ks : List Str} {sp : Sp} {fs : FS} {x c : Str} {p pos : Pos} {e : Expr} {es : List Expr} {kws : List Keyword} {a b : WA} {pm : List Nat}
theorem run_makeG {pins : List (Addr × Obj)} {σ : L2.St} {H : Hp} {s : Shared} {Q : VK} {E : XK} {us ws : List Value} {vs zs : List V} (M : Mk X.K C f) (F : FnG X.prog X.w X.K X.mg X.base k f fd ps sp) (hr : RoomG (k + 1) X.A) (hb : KB X.K fd ps (n + 1) ks (selfP pm)) (hx : PassesAt (L2.CX X.prog X.w) X σ E)
    (I : Inv X pins σ H s) (r : Vals vs us) (rz : Vals zs ws) (hl : vs.length = n ∧ zs.length = ks.length)
    (h : ∀ x dx, H x = none → H dx = none → dx ≠ x → sp (.ref x :: pick pm (vs ++ zs)) (upd (upd H dx (.own x)) x (.ins C dx [])) (fun v H2 => v = .non ∧ Q (.ref x) H2) E) :
    wpAny (model X.prog X.w) X.A (call (.ref C) us (ks.zip ws)) (EP X pins σ Q) X.xe s := by
  have hq := h (s.heap.objs.size + 1) s.heap.objs.size (I.hok.fresh (Nat.le_succ _)) (I.hok.fresh (Nat.le_refl _)) (Nat.ne_of_lt (Nat.lt_succ_self _))
  have J := Inv.made (C := C) I
  have bd := hb _ (Value.ref (s.heap.objs.size + 1) :: us) ws J.kIn (by rw [List.length_cons, ← r.length, hl.1]) (by rw [← rz.length]; exact hl.2)
  have rv := vals_pick ((show Vals (V.ref (s.heap.objs.size + 1) :: vs) (Value.ref (s.heap.objs.size + 1) :: us) from .cons rfl r).append rz) (selfP pm)
  rw [List.cons_append, pick_self] at rv
  refine wpAny_call (make_map (f := f) I.kIn M.makes M.init (beq_iff_eq.mp M.fn) (codeAny_mono (F.run _ X.stack _ _ _ _ _ _ E (hr.make C us (ks.zip ws)) (J.env0.make C us (ks.zip ws)) bd rv hq) fun res s' hq' => ?_))
  cases res with
  | error er => exact hx pins _ _ er s' J hq'
  | ok fl =>
    cases fl with
    | ret u =>
      obtain ⟨v, H', I3, rv3, ev, q3⟩ := J.after hq'
      subst ev
      exact ⟨rv3, ⟨V.ref (s.heap.objs.size + 1), H', I3, rfl, q3⟩⟩
    | next => exact hq'.elim
    | brk => exact hq'.elim
    | cont => exact hq'.elim
theorem pe_makeG {t tk : TA} {E : L2.St → XK} (M : Mk X.K C f) (F : FnG X.prog X.w X.K X.mg X.base k f fd ps sp) (hr : RoomG (k + 1) X.A) (hg : Gl X x) (hm : X.mg x = some (.ref C)) (hb : KB X.K fd ps (n + 1) ks (selfP pm)) (hx : ∀ σ, PassesAt (L2.CX X.prog X.w) X σ (E σ))
    (ha : PA X (e :: es) t) (hkw : PK X kws tk) (hall : (backToKw pos (keywordEach kws X.env)).all (·.1.isSome) = true) (hks : (backToKw pos (keywordEach kws X.env)).filterMap (·.1) = ks)
    (hdb : (x == ("__debug__" : Str)) = false) (he : starEach (e :: es) X.env = (false, eval e X.env) :: starEach es X.env)
    (hpl : ((backTo pos (starEach (e :: es) X.env)).any (·.1) || (backToKw pos (keywordEach kws X.env)).any (·.1.isNone)) = false) : PE X (.Call (.Name x p) (e :: es) kws pos) (tMakeG C n ks pm sp E t tk) := by
  refine ⟨fun pins sh sl Hp Q I hw => wpAny_Call_Name_kw (ld_glob I hg hm ?_ hdb)⟩
  refine PySem.W.callWith_KW (h₀ := X.base) I.ok.mod.kin M.kp hall (thn (ha.run pos pins sh sl Hp _ I hw) fun us s1 ⟨vs, H1, I1, r, q⟩ => ?_) hpl he
  refine thn (hkw.run pos pins s1 sl H1 _ I1 q) fun ws s2 ⟨zs, H2, I2, rz, hl, q2⟩ => ⟨I2.kIn, ?_⟩
  rw [hks]
  exact run_makeG M F hr hb (hx sl) I2 r rz hl q2
theorem pe_makeG0 {tk : TA} {E : L2.St → XK} (M : Mk X.K C f) (F : FnG X.prog X.w X.K X.mg X.base k f fd ps sp) (hr : RoomG (k + 1) X.A) (hg : Gl X x) (hm : X.mg x = some (.ref C)) (hb : KB X.K fd ps (0 + 1) ks (selfP pm)) (hx : ∀ σ, PassesAt (L2.CX X.prog X.w) X σ (E σ))
    (hkw : PK X kws tk) (hall : (backToKw pos (keywordEach kws X.env)).all (·.1.isSome) = true) (hks : (backToKw pos (keywordEach kws X.env)).filterMap (·.1) = ks)
    (hdb : (x == ("__debug__" : Str)) = false) (hpl : ((backTo pos (starEach [] X.env)).any (·.1) || (backToKw pos (keywordEach kws X.env)).any (·.1.isNone)) = false) : PE X (.Call (.Name x p) [] kws pos) (tMakeG C 0 ks pm sp E tNil tk) := by
  refine ⟨fun pins sh sl Hp Q I hw => wpAny_Call_Name_kw (ld_glob I hg hm ?_ hdb)⟩
  refine PySem.W.callWith_KW0 (h₀ := X.base) I.ok.mod.kin M.kp hall ?_ hpl
  refine thn (hkw.run pos pins sh sl Hp _ I hw) fun ws s2 ⟨zs, H2, I2, rz, hl, q2⟩ => ⟨I2.kIn, ?_⟩
  rw [hks]
  exact run_makeG (us := []) (vs := []) M F hr hb (hx sl) I2 .nil rz hl q2
theorem runs_aKw {ta tb : TA} (hb : RunsA K W b tb) (ha : RunsA K W a ta) : RunsA K W (aKw n ks.length pm a b) (fun σ H Q => ta σ H fun vs H1 => tb σ H1 fun zs H2 => (vs.length = n ∧ zs.length = ks.length) ∧ Q (pick pm (vs ++ zs)) H2) := by
  intro σ H Fr Hf env ts k x Q s c hw q hx
  refine ha σ H Fr Hf env ts _ x _ s c hw (fun vals e vs Hf1 H1 hk sm c1 so s1 => ?_) hx
  refine hb σ H1 Fr Hf1 e (tmps vals vs ++ ts) _ x _ s1 c1 hk (fun vals2 e2 vs2 Hf2 H2 hk2 sm2 c2 so2 s2 => ?_) ((hx.mono sm).more _)
  obtain ⟨⟨l1, l2⟩, hp, hk2⟩ := hk2
  have so3 := paired_app so so2
  have hl := so3.length
  refine ⟨⟨by rw [← so.length]; exact l1, by rw [← so2.length]; exact l2⟩, q _ e2 _ Hf2 H2 hk2 (sm.trans sm2) c2 (paired_pick so3 pm) (s2.perm ?_)⟩
  refine List.Perm.append_right _ ?_
  rw [← List.append_assoc]
  refine List.Perm.append_right _ (List.perm_append_comm.trans ?_)
  rw [← tmps_app so.length, tmps_flat hl, tmps_flat (paired_pick so3 pm).length, pick_zip hl]
  refine List.Perm.flatMap_right _ ?_
  have e1 : pick (List.range ((vals ++ vals2).zip (vs ++ vs2)).length) ((vals ++ vals2).zip (vs ++ vs2)) = (vals ++ vals2).zip (vs ++ vs2) := pick_range _
  have e2 : ((vals ++ vals2).zip (vs ++ vs2)).length = (vals ++ vals2).length := by rw [List.length_zip]; omega
  rw [e2] at e1
  conv => lhs; rw [← e1]
  exact List.Perm.filterMap _ hp.symm
/-- the new instance stands -/
theorem St.made {Fr Hf H : Hp} {qs : List (V × N)} {a dx : Addr} (s : St K Fr Hf H qs) (ha : H a = none) (hd : H dx = none) (hne : dx ≠ a) : St K Fr Hf (upd (upd H dx (.own a)) a (.ins (He.ga K c) dx [])) ((.ref a, .obj c [] []) :: qs) := by
  have g := s.grow (o := .own a) hd
  obtain ⟨A, r, n, d⟩ := g.own
  have ha2 : upd H dx (.own a) a = none := by rw [upd_ne hne.symm]; exact ha
  refine g.alloc (B := []) ha2 ⟨A, r, n, d⟩ (fun b hb => absurd hb List.not_mem_nil) ?_
  unfold RepN
  refine ⟨a, dx, [], [], rfl, rfl, upd_same, rfl, ?_⟩
  unfold RepNs
  exact ⟨rfl, rfl⟩
theorem runs_make {ta tb : TA} (hb : RunsA K W b tb) (ha : RunsA K W a ta) : Runs K W (wMake c np fs (aKw n ks.length pm a b)) (tMakeG (He.ga K c) n ks pm (spOf K np fs) (L2.WE W) ta tb) := by
  intro σ H Fr Hf env ts k x Q s c0 hw q hx
  refine runs_aKw (n := n) (ks := ks) (pm := pm) hb ha σ H Fr Hf env ts _ x (fun ws H2 => ∀ x dx, H2 x = none → H2 dx = none → dx ≠ x → spOf K np fs (.ref x :: ws) (upd (upd H2 dx (.own x)) x (.ins (He.ga K c) dx [])) (fun v H3 => v = .non ∧ Q (.ref x) H3) (L2.WE W σ)) s c0 hw (fun vals e vs Hf1 H1 hk sm c1 so s1 => ?_) hx
  intro a0 dx hx0 hd0 hne
  obtain ⟨hlen, hk⟩ := hk
  obtain ⟨⟨ns, e'⟩, g, hk⟩ := onS_elim hk
  rw [List.append_assoc] at s1
  obtain ⟨s2, c2, hl⟩ := takeAll_st so g s1 c1
  have hlv : vs.length + 1 = np := by rw [← so.length]; exact hlen
  have s3 : St K Fr Hf1 _ ((V.ref a0 :: vs).zip (N.obj c [] [] :: ns) ++ (ts ++ slots σ e')) := s2.made (c := c) hx0 hd0 hne
  obtain ⟨Fr', s4, back⟩ := s3.focus
  refine ⟨by rw [List.length_cons]; exact hlv, Fr', Hf1, N.obj c [] [] :: ns, _, _, by rw [List.length_cons, ← hl]; exact hlv, s4, hk, ?_, ?_⟩
  · intro r outs v Hf2 H2 hk2 ho sm2 st2
    obtain ⟨rfl, hk2⟩ := hk2
    have s5 := back Hf2 H2 _ sm2 st2
    split at hk2
    · rename_i o os
      refine ⟨?_, ?_⟩
      · have := s5.memD List.mem_cons_self
        unfold Rep at this
        exact this
      · have s6 : St K Fr Hf2 H2 ((V.ref a0, o) :: (slots (vs.map some) os ++ (ts ++ slots σ e'))) := s5.tail
        have s7 : St K Fr Hf2 H2 (slots (vs.map some) os ++ (((V.ref a0, o) :: ts) ++ slots σ e')) := s6.swapB
        obtain ⟨s8, c8⟩ := putBack_st so s7 c2 (by rw [List.length_cons] at ho; omega)
        exact q o _ (.ref a0) Hf2 H2 hk2 (sm.trans sm2) c8 s8
    · exact hk2.elim
  · intro ex outs Hf2 H2 cls d hx2 ho sm2 st2 rr
    have s5 := back Hf2 H2 _ sm2 st2
    obtain ⟨o, os, rfl⟩ : ∃ o os, outs = o :: os := by
      cases outs with
      | nil => simp at ho; omega
      | cons o os => exact ⟨o, os, rfl⟩
    have s6 : St K Fr Hf2 H2 (slots (vs.map some) os ++ (ts ++ slots σ e')) := by
      cases o with
      | none => exact s5
      | some m => exact St.tail (p := (V.ref a0, m)) s5
    obtain ⟨s8, c8⟩ := putBack_st so s6 c2 (by rw [List.length_cons] at ho; omega)
    obtain ⟨ex', he, hx3⟩ := onS_elim hx2
    refine hx ex' _ Hf2 H2 cls d hx3 (sm.trans sm2) c8 s8 ?_
    unfold exUpM at he
    obtain ⟨r1, aa, fv, r2, r3, r4, r5⟩ := rr
    cases e1 : (ex.xs.mapM (upM vals)) with
    | none => rw [e1] at he; cases he
    | some ys =>
      rw [e1] at he
      cases he
      refine ⟨r1, aa, fv, r2, r3, r4, map_rep (fun y b v hy hv => ?_) e1 r5⟩
      cases y with
      | d z => cases hy; exact hv
      | sl i =>
        cases i with
        | zero => cases hy
        | succ i =>
          have hu : vs[i]? = some v := by
            have z : ((V.ref a0 :: vs).map some)[i + 1]? = some (some v) := hv
            rw [List.getElem?_map, List.getElem?_cons_succ] at z
            cases e : vs[i]? with
            | none => rw [e] at z; cases z
            | some w => rw [e] at z; cases z; rfl
          obtain ⟨val, h1, h2⟩ := paired_get so hu
          have hy : upX vals (.sl i) = some b := hy
          unfold upX at hy
          dsimp only at hy
          rw [h1] at hy
          cases val with
          | s j => cases hy; exact h2 j rfl
          | t n =>
            cases n with
            | d x =>
              cases hy
              have h3 := takeAll_data g h1
              have hm : (v, N.d x) ∈ vs.zip ns := List.mem_of_getElem? (by rw [List.getElem?_zip_eq_some]; exact ⟨hu, h3⟩ : (vs.zip ns)[i]? = some (v, .d x))
              exact Rep.mono sm2 _ _ (s4.memD (List.mem_cons_of_mem _ hm))
            | _ => cases hy
theorem pd_make (M : Mk X.K (He.ga X.K c) f) (F : FnG X.prog X.w X.K X.mg X.base k f fd ps (spOf X.K np fs)) (hr : RoomG (k + 1) X.A) (hg : Gl X x) (hm : X.mg x = some (.ref (He.ga X.K c))) (hb : KB X.K fd ps (n + 1) ks (selfP pm)) (tk : Takes X W)
    (ha : PAD X W (e :: es) a) (hkw : PKD X W kws b) (hall : (backToKw pos (keywordEach kws X.env)).all (·.1.isSome) = true := by rfl) (hks : (backToKw pos (keywordEach kws X.env)).filterMap (·.1) = ks := by rfl)
    (hdb : (x == ("__debug__" : Str)) = false := by decide) (he : starEach (e :: es) X.env = (false, eval e X.env) :: starEach es X.env := by rfl)
    (hpl : ((backTo pos (starEach (e :: es) X.env)).any (·.1) || (backToKw pos (keywordEach kws X.env)).any (·.1.isNone)) = false := by rfl) : PD X W (.Call (.Name x p) (e :: es) kws pos) (wMake c np fs (aKw n ks.length pm a b)) := by
  obtain ⟨ta, a1, a2⟩ := ha
  obtain ⟨tb, b1, b2⟩ := hkw
  exact ⟨_, pe_makeG M F hr hg hm hb (fun σ => passAt tk σ) a1 b1 hall hks hdb he hpl, runs_make b2 a2⟩
theorem pd_make0 (M : Mk X.K (He.ga X.K c) f) (F : FnG X.prog X.w X.K X.mg X.base k f fd ps (spOf X.K np fs)) (hr : RoomG (k + 1) X.A) (hg : Gl X x) (hm : X.mg x = some (.ref (He.ga X.K c))) (hb : KB X.K fd ps (0 + 1) ks (selfP pm)) (tk : Takes X W)
    (hkw : PKD X W kws b) (hall : (backToKw pos (keywordEach kws X.env)).all (·.1.isSome) = true := by rfl) (hks : (backToKw pos (keywordEach kws X.env)).filterMap (·.1) = ks := by rfl)
    (hdb : (x == ("__debug__" : Str)) = false := by decide) (hpl : ((backTo pos (starEach [] X.env)).any (·.1) || (backToKw pos (keywordEach kws X.env)).any (·.1.isNone)) = false := by rfl) : PD X W (.Call (.Name x p) [] kws pos) (wMake c np fs (aKw 0 ks.length pm aNil b)) := by
  obtain ⟨tb, b1, b2⟩ := hkw
  exact ⟨_, pe_makeG0 M F hr hg hm hb (fun σ => passAt tk σ) b1 hall hks hdb hpl, runs_make b2 runs_aNil⟩
end

/-! ### len(x), y in x of own instances -/
def fsO (c : Str) (fs : FS) : FS := fun ns k x => (∃ n r cs l, ns = n :: r ∧ N.view n = .obj c cs l) ∧ fs ns k x
def wLenO (c : Str) (fs : FS) (o : WO) : WE := fun env k _ => wCall 1 (fsO c fs) (aCons o aNil) env (fun r e => ∃ n : Int, r = .d (.int n) ∧ 0 ≤ n ∧ n < 2 ^ 63 ∧ k r e) noX
def wInO (neg : Bool) (c : Str) (fs : FS) (o1 o2 : WO) : WE := fun env k _ => wCall 2 (fsO c fs) (aPick [1, 0] (aCons o1 (aCons o2 aNil))) env (fun r e => ∃ b : Bool, r = .d (.bl b) ∧ k (.d (.bl (if neg then !b else b))) e) noX
def rLenO (K : PySem.W.Frag) (c : Str) (fs : FS) : List V → Hp → VK → Prop := fun vs H Q => spOf K 1 (fsO c fs) vs H (fun v H' => ∃ n : Int, v = .int n ∧ 0 ≤ n ∧ n < 2 ^ 63 ∧ Q v H') fun _ _ _ => False
def rInO (K : PySem.W.Frag) (neg : Bool) (c : Str) (fs : FS) : R2 := fun x y H Q => spOf K 2 (fsO c fs) [y, x] H (fun v H' => ∃ b : Bool, v = .bl b ∧ Q (.bl (if neg then !b else b)) H') fun _ _ _ => False
section
variable {K : PySem.W.Frag} {W : WX} {X : Cx} {k : Nat} {f : Addr} {fd : FuncData} {ps : List Str} {c : Str} {fs : FS}
theorem spOf_obj {np : Nat} {v : V} {vs : List V} {H : Hp} {Q : VK} {E : XK} (h : spOf K np (fsO c fs) (v :: vs) H Q E) : ∃ a dx fv, v = .ref a ∧ H a = some (.ins (He.ga K c) dx fv) := by
  obtain ⟨hl, Fr, Hf, ns, kk, xx, hn, st, ⟨⟨n, r, cs, l, rfl, hv⟩, _⟩, _⟩ := h
  have st : St K Fr Hf H ((v, n) :: vs.zip r) := st
  obtain ⟨A, rr, _⟩ := st.mem List.mem_cons_self
  cases n with
  | d x =>
    rw [view_d] at hv
    rw [hv] at rr
    unfold RepN at rr
    obtain ⟨_, rr⟩ := rr
    unfold Rep at rr
    obtain ⟨p, dx, fv, e1, e2, _⟩ := rr
    exact ⟨p, dx, fv, e1, st.ex _ _ e2⟩
  | obj c2 fs2 l2 =>
    rw [view_obj] at hv
    cases hv
    unfold RepN at rr
    obtain ⟨p, dx, fv, B, e1, e2, e3, _⟩ := rr
    exact ⟨p, dx, fv, e1, e3⟩
  | lst l => rw [view_lst] at hv; cases hv
  | tup l => rw [view_tup] at hv; cases hv
  | dic ks l => rw [view_dic] at hv; cases hv
  | ext φ => rw [view_ext] at hv; cases hv
theorem spOf_fsO {np : Nat} {vs : List V} {H : Hp} {Q : VK} {E : XK} (h : spOf K np (fsO c fs) vs H Q E) : spOf K np fs vs H Q E := by
  obtain ⟨hl, Fr, Hf, ns, kk, xx, hn, st, hf, hq⟩ := h
  exact ⟨hl, Fr, Hf, ns, kk, xx, hn, st, hf.2, hq⟩
theorem cx_no {P : Program} {w : World} {outer : List PySem.Env} {H : Hp} {s : Shared} {e : Value} {s' : Shared} (h : L2.CX P w outer H s (fun _ _ _ => False) e s') : False := by
  obtain ⟨_, _, _, _, _, _, _, _, _, _, _, _, z⟩ := h
  exact z
theorem cr_lenO (M : Meth X.K (He.ga X.K c) "__len__" f) (F : FnG X.prog X.w X.K X.mg X.base k f fd ps (spOf X.K 1 fs)) (hr : RoomG (k + 1) X.A) (hb : Binds X.K fd ps []) : CallR X (.builtin "len") (rLenO X.K c fs) := by
  intro pins sh sl Hp vs us Q I r hw
  have hl1 := hw.1
  obtain ⟨v, rfl⟩ : ∃ v, vs = [v] := by
    match vs, hl1 with
    | [v], _ => exact ⟨v, rfl⟩
  obtain ⟨a, dx, fv, rfl, ea⟩ := spOf_obj hw
  rw [Vals.ref1 r]
  obtain ⟨mA, J, _⟩ := ins_get I.hok ea
  obtain ⟨od, J, _⟩ := J.look
  obtain ⟨m, hF⟩ := I.fr
  refine PySem.W.len_K hF I.ok.mod.kin J M.at_ M.fn ?_
  have hsp := spOf_fsO hw
  have r2 : Vals [V.ref a] [Value.ref a] := .cons rfl .nil
  have hlen := F.len _ _ _ _ hsp
  have bd := hb sh [.ref a] I.kIn (by simpa using hlen)
  rw [List.append_nil] at bd
  refine wpAny_call (codeAny_mono (F.run X.A.in1 X.stack sh Hp ⟨[.ref a], []⟩ [.ref a] [.ref a] _ _ hr.in1 I.env0.in1 bd r2 hsp) fun res s' hq => ?_)
  cases res with
  | error er => exact (cx_no hq).elim
  | ok fl =>
    cases fl with
    | ret u =>
      obtain ⟨z, H', I', rz, n, ez, h0, h1, qq⟩ := I.after hq
      subst ez
      obtain ⟨t, rfl⟩ := rz
      exact ⟨⟨h0, h1⟩, .int n, H', I'.tok _, ⟨_, rfl⟩, qq⟩
    | next => exact hq.elim
    | brk => exact hq.elim
    | cont => exact hq.elim
theorem op_inO (neg : Bool) (M : Meth X.K (He.ga X.K c) "__contains__" f) (F : FnG X.prog X.w X.K X.mg X.base k f fd ps (spOf X.K 2 fs)) (hr : RoomG k X.A) (hb : Binds X.K fd ps []) : OpR X (compareOp (if neg then .NotIn else .In)) (rInO X.K neg c fs) := by
  intro pins sh sl Hp x y v u Q I rx ry hw
  obtain ⟨a, dx, fv, rfl, ea⟩ := spOf_obj hw
  cases ry
  obtain ⟨mA, J, _⟩ := ins_get I.hok ea
  obtain ⟨od, J, _⟩ := J.look
  obtain ⟨m, hF⟩ := I.fr
  have hsp := spOf_fsO hw
  have r2 : Vals [V.ref a, x] [Value.ref a, v] := .cons rfl (.cons rx .nil)
  have hlen := F.len _ _ _ _ hsp
  have bd := hb sh [.ref a, v] I.kIn (by simpa using hlen)
  rw [List.append_nil] at bd
  have go : ∀ (QQ : Value → Shared → Prop), (∀ (b : Bool) H' s', Inv X pins sl H' s' → Q (.bl (if neg then !b else b)) H' → QQ (.bool b) s') → wpAny (model X.prog X.w) X.A (call (.ref f) [.ref a, v]) QQ X.xe sh := by
    intro QQ hQ
    refine wpAny_call (codeAny_mono (F.run X.A X.stack sh Hp ⟨[.ref a, v], []⟩ [.ref a, v] [.ref a, x] _ _ hr I.env0 bd r2 hsp) fun res s' hq => ?_)
    cases res with
    | error er => exact (cx_no hq).elim
    | ok fl =>
      cases fl with
      | ret z =>
        obtain ⟨zv, H', I', rz, b, ez, qq⟩ := I.after hq
        subst ez
        cases rz
        exact hQ b H' s' I' qq
      | next => exact hq.elim
      | brk => exact hq.elim
      | cont => exact hq.elim
  cases neg with
  | false => exact PySem.W.in_K hF I.ok.mod.kin J M.at_ M.fn (go _ fun b H' s' I' qq => wpAny_truthy_bool ⟨.bl b, H', I', rfl, qq⟩)
  | true => exact PySem.W.notIn_K hF I.ok.mod.kin J M.at_ M.fn (go _ fun b H' s' I' qq => wpAny_truthy_bool ⟨.bl (!b), H', I', rfl, qq⟩)
theorem runs_lenO {o : WO} {te : TE} (h : RunsO K W0 o te) : Runs K W (wLenO c fs o) (tCB (rLenO K c fs) (tCons te tNil)) := by
  intro σ H Fr Hf env ts k x Q s c0 hw q hx
  refine runs_call (W := W0) (fun _ _ _ _ z => z) (runs_aCons h runs_aNil) σ H Fr Hf env ts _ noX (fun v H' => ∃ n : Int, v = .int n ∧ 0 ≤ n ∧ n < 2 ^ 63 ∧ Q v H') s c0 hw (fun r e v Hf' H' hk sm c' s' => ?_) runX_no
  obtain ⟨n, rfl, h0, h1, hk⟩ := hk
  have rv := s'.memD List.mem_cons_self
  unfold Rep at rv
  exact ⟨n, rv, h0, h1, q _ e v Hf' H' hk sm c' s'⟩
theorem runs_inO {neg : Bool} {o1 o2 : WO} {ta tb : TE} (h1 : RunsO K W0 o1 ta) (h2 : RunsO K W0 o2 tb) : Runs K W (wInO neg c fs o1 o2) (tOp (rInO K neg c fs) ta tb) := by
  intro σ H Fr Hf env ts k x Q s c0 hw q hx
  refine runs_call (W := W0) (fun _ _ _ _ z => z) (runs_aPick (p := [1, 0]) (runs_aCons h1 (runs_aCons h2 runs_aNil))) σ H Fr Hf env ts _ noX (fun v H' => ∃ b : Bool, v = .bl b ∧ Q (.bl (if neg then !b else b)) H') s c0 hw (fun r e v Hf' H' hk sm c' s' => ?_) runX_no
  obtain ⟨b, rfl, hk⟩ := hk
  have rv := s'.memD List.mem_cons_self
  unfold Rep at rv
  exact ⟨b, rv, q _ e _ Hf' H' hk sm c' (s'.tail.addD rep_bl)⟩
theorem pd_lenO {e : Expr} {o : WO} {p pos : Pos} (M : Meth X.K (He.ga X.K c) "__len__" f) (F : FnG X.prog X.w X.K X.mg X.base k f fd ps (spOf X.K 1 fs)) (hr : RoomG (k + 1) X.A) (hb : Binds X.K fd ps []) (hg : Gl X "len") (hm : X.mg "len" = none) (h : PDO X W0 e o)
    (he : starEach [e] X.env = (false, eval e X.env) :: starEach [] X.env := by rfl) (hpl : (backTo pos (starEach [] X.env)).any (·.1) = false := by rfl) : PD X W (.Call (.Name "len" p) [e] [] pos) (wLenO c fs o) := by
  obtain ⟨t, a1, a2⟩ := h
  exact ⟨_, pe_callB (cr_lenO M F hr hb) hg hm PySem.boot_len (L2.pa_cons a1 L2.pa_nil he) (by decide) (by decide) he hpl, runs_lenO a2⟩
theorem pd_inO {a b : Expr} {o1 o2 : WO} {pos : Pos} (M : Meth X.K (He.ga X.K c) "__contains__" f) (F : FnG X.prog X.w X.K X.mg X.base k f fd ps (spOf X.K 2 fs)) (hr : RoomG k X.A) (hb : Binds X.K fd ps []) (h1 : PDO X W0 a o1) (h2 : PDO X W0 b o2) (hm : behindInMarks .In b = false := by rfl) : PD X W (.Compare a [.In] [b] pos) (wInO false c fs o1 o2) := by
  obtain ⟨t, a1, a2⟩ := h1
  obtain ⟨u, b1, b2⟩ := h2
  exact ⟨_, pe_cmpR (op_inO false M F hr hb) a1 b1 hm, runs_inO a2 b2⟩
theorem pd_notInO {a b : Expr} {o1 o2 : WO} {pos : Pos} (M : Meth X.K (He.ga X.K c) "__contains__" f) (F : FnG X.prog X.w X.K X.mg X.base k f fd ps (spOf X.K 2 fs)) (hr : RoomG k X.A) (hb : Binds X.K fd ps []) (h1 : PDO X W0 a o1) (h2 : PDO X W0 b o2) (hm : behindInMarks .NotIn b = false := by rfl) : PD X W (.Compare a [.NotIn] [b] pos) (wInO true c fs o1 o2) := by
  obtain ⟨t, a1, a2⟩ := h1
  obtain ⟨u, b1, b2⟩ := h2
  exact ⟨_, pe_cmpR (op_inO true M F hr hb) a1 b1 hm, runs_inO a2 b2⟩
end

/-! ### {e for .. in .. for .. in ..}, ints -/
abbrev sc2 (elt t0 i0 t1 i1 : Expr) (c0 c1 : List Expr) (sc : Scope) (ps : Pos) : Expr := .SetComp elt [⟨t0, i0, c0, 0⟩, ⟨t1, i1, c1, 0⟩] sc ps
theorem scTurn_out (elt t0 i0 t1 i1 : Expr) (c0 c1 : List Expr) (sc : Scope) (ps : Pos) (itv ac : Value) (en : PySem.Env) :
    compTurn (sc2 elt t0 i0 t1 i1 c0 c1 sc ps) 0 itv ac en = (do
      standAt i0.pos
      match ← pyNext itv with
      | none => pure (.done .next)
      | some u =>
        letOwnedTupleGo t0 itv u
        assign t0 en u
        let mut fine := true
        for c in c0 do
          if fine then fine ← isTrue c en (eval c en)
        if fine then
          let y ← eval i1 en
          standAt i1.pos
          let y ← foldedSetIterable i1 en y
          let _ ← runOwn (.compStart (sc2 elt t0 i0 t1 i1 c0 c1 sc ps) 1 (← holding [y] (pyIter y)) ac en) en
        again (.compLoop (sc2 elt t0 i0 t1 i1 c0 c1 sc ps) 0 itv ac en)) := by rfl
theorem scTurn_in (elt t0 i0 t1 i1 : Expr) (c0 c1 : List Expr) (sc : Scope) (ps : Pos) (itv ac : Value) (en : PySem.Env) :
    compTurn (sc2 elt t0 i0 t1 i1 c0 c1 sc ps) 1 itv ac en = (do
      standAt i1.pos
      match ← pyNext itv with
      | none => pure (.done .next)
      | some u =>
        letOwnedTupleGo t1 itv u
        assign t1 en u
        let mut fine := true
        for c in c1 do
          if fine then fine ← isTrue c en (eval c en)
        if fine then
          (do let u ← eval elt en; standAt elt.pos; let _ ← call (.builtin "set.add") [ac, u])
        again (.compLoop (sc2 elt t0 i0 t1 i1 c0 c1 sc ps) 1 itv ac en)) := by rfl
section
variable {prog : Program} {w : World} {A : Around} {R : Result → Shared → Prop} {sh : Shared} {elt t0 i0 t1 i1 : Expr} {c0 c1 : List Expr} {sc : Scope} {ps : Pos} {itv ac : Value} {en : PySem.Env}
abbrev tstS (en : PySem.Env) (cs : List Expr) : Sem Bool := forIn cs true fun c r => if r = true then do let ok ← isTrue c en (eval c en); pure (ForInStep.yield ok) else pure (ForInStep.yield r)
abbrev nbR (prog : Program) (w : World) (A : Around) (en : PySem.Env) (R : Result → Shared → Prop) : Value → Shared → Prop := notedBy (model prog w) A en fun e s' => R (.error e) s'
theorem scLoop_out (hs : ∀ x, foldedSetIterable i1 en x = pure x) (J : Nat → Shared → Prop)
    (turn : ∀ n s, J n s → wpAny (model prog w) A (pyNext itv) (fun r s₁ => match r with
      | none => R (.ok .next) s₁
      | some u => wpAny (model prog w) A (letOwnedTupleGo t0 itv u) (fun _ s₂ => wpAny (model prog w) A (assign t0 en u) (fun _ s₃ => wpAny (model prog w) A (tstS en c0) (fun ok s₄ =>
          if ok = true then wpAny (model prog w) A (eval i1 en) (fun y s₅ => wpAny (model prog w) A (pyIter y) (fun it1 s₆ =>
            codeAny (model prog w) A (.compStart (sc2 elt t0 i0 t1 i1 c0 c1 sc ps) 1 it1 ac en) (fun r s' => match r with | .ok _ => ∃ m, m < n ∧ J m s' | .error _ => False) s₆) (nbR prog w A en R) s₅) (nbR prog w A en R) s₄
          else ∃ m, m < n ∧ J m s₄) (nbR prog w A en R) s₃) (nbR prog w A en R) s₂) (nbR prog w A en R) s₁) (nbR prog w A en R) s)
    (n : Nat) (h : J n sh) : codeAny (model prog w) A (.compLoop (sc2 elt t0 i0 t1 i1 c0 c1 sc ps) 0 itv ac en) R sh := by
  refine codeAny_loop rfl J (fun n s hJ => ?_) n h
  show wpAny _ A ((compTurn (sc2 elt t0 i0 t1 i1 c0 c1 sc ps) 0 itv ac en).onRaise (fun x => do noteFrame x en; theTreesLotGoes x)) _ _ s
  refine wpAny_noted ?_
  rw [scTurn_out]
  refine wpAny_bind (wpAny_standAt (wpAny_bind (wpAny_mono (turn n s hJ) (fun r s1 g1 => ?_) fun _ _ z => z)))
  cases r with
  | none => exact wpAny_pure g1
  | some u =>
    refine wpAny_bind (wpAny_mono g1 (fun _ s2 g2 => wpAny_bind (wpAny_mono g2 (fun _ s3 g3 => wpAny_bind (wpAny_mono g3 (fun ok s4 g4 => ?_) fun _ _ z => z)) fun _ _ z => z)) fun _ _ z => z)
    cases ok with
    | false => exact wpAny_pure ⟨rfl, g4⟩
    | true =>
      refine wpAny_bind (wpAny_mono g4 (fun y s5 g5 => wpAny_bind (wpAny_standAt (wpAny_bind (wpAny_of_eq (hs y) (wpAny_bind (wpAny_holding (wpAny_mono g5 (fun it1 s6 g6 => ?_) fun _ _ z => z))))))) fun _ _ z => z)
      refine wpAny_bind (wpAny_runOwn ?_)
      rw [Around.mark_none]
      refine codeAny_mono g6 fun r s' hr => ?_
      cases r with
      | ok f =>
        first
          | exact wpAny_pure ⟨rfl, hr⟩
          | exact wpAny_bind (wpAny_pure (wpAny_pure ⟨rfl, hr⟩))
      | error e => exact hr.elim
theorem scLoop_in (J : Nat → Shared → Prop)
    (turn : ∀ n s, J n s → wpAny (model prog w) A (pyNext itv) (fun r s₁ => match r with
      | none => R (.ok .next) s₁
      | some u => wpAny (model prog w) A (letOwnedTupleGo t1 itv u) (fun _ s₂ => wpAny (model prog w) A (assign t1 en u) (fun _ s₃ => wpAny (model prog w) A (tstS en c1) (fun ok s₄ =>
          if ok = true then wpAny (model prog w) A (eval elt en) (fun y s₅ => wpAny (model prog w) A (call (.builtin "set.add") [ac, y]) (fun _ s₆ => ∃ m, m < n ∧ J m s₆) (nbR prog w A en R) s₅) (nbR prog w A en R) s₄
          else ∃ m, m < n ∧ J m s₄) (nbR prog w A en R) s₃) (nbR prog w A en R) s₂) (nbR prog w A en R) s₁) (nbR prog w A en R) s)
    (n : Nat) (h : J n sh) : codeAny (model prog w) A (.compLoop (sc2 elt t0 i0 t1 i1 c0 c1 sc ps) 1 itv ac en) R sh := by
  refine codeAny_loop rfl J (fun n s hJ => ?_) n h
  show wpAny _ A ((compTurn (sc2 elt t0 i0 t1 i1 c0 c1 sc ps) 1 itv ac en).onRaise (fun x => do noteFrame x en; theTreesLotGoes x)) _ _ s
  refine wpAny_noted ?_
  rw [scTurn_in]
  refine wpAny_bind (wpAny_standAt (wpAny_bind (wpAny_mono (turn n s hJ) (fun r s1 g1 => ?_) fun _ _ z => z)))
  cases r with
  | none => exact wpAny_pure g1
  | some u =>
    refine wpAny_bind (wpAny_mono g1 (fun _ s2 g2 => wpAny_bind (wpAny_mono g2 (fun _ s3 g3 => wpAny_bind (wpAny_mono g3 (fun ok s4 g4 => ?_) fun _ _ z => z)) fun _ _ z => z)) fun _ _ z => z)
    cases ok with
    | false => exact wpAny_pure ⟨rfl, g4⟩
    | true => exact wpAny_bind (wpAny_bind (wpAny_mono g4 (fun y s5 g5 => wpAny_bind (wpAny_standAt (wpAny_bind (wpAny_mono g5 (fun _ s6 g6 => wpAny_pure (wpAny_pure ⟨rfl, g6⟩)) fun _ _ z => z)))) fun _ _ z => z))
theorem scStart1 (h0 : codeAny (model prog w) A (.compLoop (sc2 elt t0 i0 t1 i1 c0 c1 sc ps) 1 itv ac en) R sh)
    (h : wpAny (model prog w) A (pyIter itv) (fun it' s' => codeAny (model prog w) A (.compLoop (sc2 elt t0 i0 t1 i1 c0 c1 sc ps) 1 it' ac en) R s') (nbR prog w A en R) sh) : codeAny (model prog w) A (.compStart (sc2 elt t0 i0 t1 i1 c0 c1 sc ps) 1 itv ac en) R sh := by
  refine codeAny_of_tree ?_
  show wpAny _ _ ((compStart (sc2 elt t0 i0 t1 i1 c0 c1 sc ps) 1 itv ac en).onRaise (fun x => do noteFrame x en; standAt theWindowsPlace)) _ _ sh
  refine wpAny_notedAt ?_
  unfold compStart
  show wpAny _ _ (ask >>= _) _ _ sh
  refine wpAny_bind (wpAny_askSetting (wpAny_ite ?_))
  split
  · first
      | exact wpAny_bind (wpAny_pure (wpAny_pure (And.intro rfl h0)))
      | exact wpAny_pure (And.intro rfl h0)
  · first
      | exact wpAny_bind (wpAny_rule (wpAny_bind (wpAny_standAt (wpAny_bind (wpAny_mono h (fun it' s' z => wpAny_pure (And.intro rfl z)) fun _ _ y => y)))))
      | (refine wpAny_bind (wpAny_rule ?_); show wpAny _ _ (standAt i1.pos >>= _) _ _ sh; exact wpAny_bind (wpAny_standAt (wpAny_bind (wpAny_mono h (fun it' s' z => wpAny_pure (And.intro rfl z)) fun _ _ y => y))))
end
section
variable {X : Cx}
/-- set.add of an int -/
theorem addI_ok {pins : List (Addr × Obj)} {sl : L2.St} {H : Hp} {sh : Shared} {E : Value → Shared → Prop} {D : Addr} {S : Int → Bool} {n : Nat} {y : Int} {t : Tok} {Q : Value → Shared → Prop} (I : Inv X pins sl H sh) (hD : H D = some (SetO X.w D S n)) (room : n + 1 < scanBound)
    (h : ∀ s', Inv X pins sl (upd H D (SetO X.w D (fun j => S j || decide (j = y)) (if S y = true then n else n + 1))) s' → Q .none s') : wpAny (model X.prog X.w) X.A (call (.builtin "set.add") [.ref D, .int y t]) Q E sh := by
  have R := setO_get I hD
  refine setR_add R room fun h' sb new => ?_
  have he : ∃ u, h'.get? D = some u := by
    obtain ⟨o, _, _, _, ho, _⟩ := new
    exact ⟨o, ho⟩
  exact h _ (I.write (e := D) (t' := sh.toks + 1) (by rw [hD]; trivial) (.inl rfl) (fun b u hb hu => (sb.2 b hb).trans hu) he (setO_new new))
/-- D: the new set; the words as in tLc2 -/
def tSc2 (w : World) (wi : TI) (g : TG) (tt : TT) (wi1 : TI) (g1 : TG) (tt1 : TT) (te : TE) (vs vs1 : List Nat) : TE := fun σ H Q => wi σ H fun J H1 => ∀ D, H1 D = none → ∃ Wf : Nat → Nat → Hp → Prop, (∃ m, Wf 0 m (upd H1 D (SetO w D (fun _ => false) 0))) ∧ ∀ i m H, Wf i m H →
  (J.stop i H ∧ Q (.ref D) H) ∨ (J.go i H ∧ ∃ Nx : Hp → Prop, (∀ H', Nx H' → ∃ m', m' < m ∧ Wf (i + 1) m' H') ∧ ∀ x H', J.yld i H x H' → g x (wipe σ vs) H' fun σ2 H2 => wipe σ2 vs = wipe σ vs ∧ tt σ2 H2 fun b H3 =>
    if b = true then wi1 σ2 H3 fun J1 H4 => ∃ V1 : Nat → Nat → Hp → Prop, (∃ m, V1 0 m H4) ∧ ∀ j k H, V1 j k H →
      (J1.stop j H ∧ Nx H) ∨ (J1.go j H ∧ ∃ Nx1 : Hp → Prop, (∀ H', Nx1 H' → ∃ k', k' < k ∧ V1 (j + 1) k' H') ∧ ∀ x H', J1.yld j H x H' → g1 x (wipe σ2 vs1) H' fun σ3 H5 => wipe σ3 vs1 = wipe σ2 vs1 ∧ tt1 σ3 H5 fun b H6 =>
        if b = true then te σ3 H6 fun y H7 => ∃ (z : Int) (S : Int → Bool) (n : Nat), y = .int z ∧ H7 D = some (SetO w D S n) ∧ n + 1 < scanBound ∧ Nx1 (upd H7 D (SetO w D (fun j => S j || decide (j = z)) (if S z = true then n else n + 1))) else Nx1 H6)
    else Nx H3)
abbrev Blk (X : Cx) (sc : Scope) (P : Cx → Prop) : Prop := ∀ (s : Shared) (H : Hp) (C : Addr) (cl : List (Str × Addr)) (fp : List Addr), P (X.blk s H sc (compEnvC sc cl C X.env) fp)
theorem sc2_core {pins : List (Addr × Obj)} {sh : Shared} {sl : L2.St} {Hq : Hp} {Q : VK} {elt tg iter tg1 iter1 : Expr} {ifs ifs1 : List Expr} {sc : Scope} {own : List (Str × Nat)} {vs1 : List Nat} {ps ps' : Pos} {wi wi1 : TI} {g g1 : TG} {tt tt1 : TT} {te : TE} {Qf : Value → Shared → Prop}
    (hc : X.calm = true) (hN : X.N.Nodup) (I : Inv X pins sl Hq sh) (hi : PI X tg iter wi) (ok : BlkOk X.N X.env.scope sc own) (hv : ∀ i ∈ vs1, i ∈ own.map (·.2))
    (hg : Blk X sc fun Y => PG Y tg g) (ht : Blk X sc fun Y => PTs Y ifs tt) (he : Blk X sc fun Y => PE Y elt te) (hs : ∀ x, foldedSetIterable iter X.env x = pure x)
    (hi1 : Blk X sc fun Y => PI Y tg1 iter1 wi1) (hg1 : Blk X sc fun Y => PG Y tg1 g1) (ht1 : Blk X sc fun Y => PTs Y ifs1 tt1) (hs1 : ∀ env x, foldedSetIterable iter1 env x = pure x)
    (h : tSc2 X.w wi g tt wi1 g1 tt1 te (own.map (·.2)) vs1 sl Hq Q)
    (hRR : ∀ D C s' m H', Inv X pins sl H' s' → Q (.ref D) H' → s'.heap.Ns C m → FpOk X pins H' C → compPost (model X.prog X.w) X.A X.xe none Qf (.ref D) C (.ok .next) s') :
    wpAny (model X.prog X.w) X.A (comprehension (sc2 elt tg iter tg1 iter1 ifs ifs1 sc ps) sc X.env ps' (newSet (.type "set")) false (eval iter X.env) none) Qf X.xe sh := by
  have hfree : ∀ y ∈ sc.names, y.2 = .free → ∃ c, X.env.cells.lookup y.1 = some c := fun y hy e => (ok.free y hy e).elim (fun k => I.ok.has _ (.inl k)) fun k => I.ok.has _ (.inr k)
  refine wpAny_comprehension_free (use := none) rfl hs (closure_ok hfree) ok.kind (fun y hy e => by rw [ok.uniq y hy, e]) (thn (hi.run pins sh sl Hq _ I h) fun xv s1 hx => thn hx fun itv s2 h2 => ?_)
  obtain ⟨it, fp, tn, J, H2, e, I2, T, st2, f2, q⟩ := h2
  subst e
  refine PpSet.newSet_ok (newEnv_comp ?_)
  generalize hD : s2.heap.objs.size = D
  have hDn : H2 D = none := I2.hok.fresh (Nat.le_of_eq hD)
  obtain ⟨Wf, ⟨m0, w0⟩, turn⟩ := q D hDn
  generalize hs3 : ({ s2 with heap := s2.heap.push { cls := .type "set", dict := none, data := .set #[] 0 (.fresh 0 0 (!X.w.params.followText "set-order")) } } : Shared) = s3
  have I3 : Inv X pins sl (upd H2 D (SetO X.w D (fun _ => false) 0)) s3 := by
    rw [← hs3]
    refine I2.laid (t' := s2.toks) (fun b o e => Heap.get?_push_of_some _ e) (Nat.le_of_eq hD) ?_
    rw [← hD]
    exact setO_new (setR_fresh X.w)
  have h3 : s3.heap = s2.heap.push { cls := .type "set", dict := none, data := .set #[] 0 (.fresh 0 0 (!X.w.params.followText "set-order")) } := by rw [← hs3]
  have small : ∀ b ∈ fp, b < s2.heap.objs.size := fun b hb => let ⟨o, e, _⟩ := T.obj _ _ st2 b hb; Heap.lt_size e
  have f3 : ∀ b ∈ fp, FpOk X pins (upd H2 D (SetO X.w D (fun _ => false) 0)) b ∧ b < s3.heap.objs.size := fun b hb => by
    have hlt := small b hb
    refine ⟨⟨?_, (f2 b hb).2⟩, by rw [h3, Heap.size_push]; exact Nat.lt_succ_of_lt hlt⟩
    rw [upd_ne (by rw [← hD]; exact Nat.ne_of_lt hlt)]
    exact (f2 b hb).1
  have st3 : tn 0 s3.heap := T.keep _ _ _ st2 fun b _ o e => by rw [h3]; exact Heap.get?_push_of_some _ e
  have I4 := block_start I3 ok hN f3
  obtain ⟨pg, pt, pe, pi1, pg1, pt1⟩ : (PG (X.blk s3 (upd H2 D (SetO X.w D (fun _ => false) 0)) sc (compEnvC sc (cellsFrom (s3.heap.objs.size + 1) sc.names (cloFrom X.env.cells sc.names [])) s3.heap.objs.size X.env) fp) tg g) ∧ _ ∧ _ ∧ _ ∧ _ ∧ _ :=
    ⟨hg _ _ _ _ _, ht s3 (upd H2 D (SetO X.w D (fun _ => false) 0)) s3.heap.objs.size (cellsFrom (s3.heap.objs.size + 1) sc.names (cloFrom X.env.cells sc.names [])) fp, he s3 (upd H2 D (SetO X.w D (fun _ => false) 0)) s3.heap.objs.size (cellsFrom (s3.heap.objs.size + 1) sc.names (cloFrom X.env.cells sc.names [])) fp,
     hi1 s3 (upd H2 D (SetO X.w D (fun _ => false) 0)) s3.heap.objs.size (cellsFrom (s3.heap.objs.size + 1) sc.names (cloFrom X.env.cells sc.names [])) fp, hg1 s3 (upd H2 D (SetO X.w D (fun _ => false) 0)) s3.heap.objs.size (cellsFrom (s3.heap.objs.size + 1) sc.names (cloFrom X.env.cells sc.names [])) fp,
     ht1 s3 (upd H2 D (SetO X.w D (fun _ => false) 0)) s3.heap.objs.size (cellsFrom (s3.heap.objs.size + 1) sc.names (cloFrom X.env.cells sc.names [])) fp⟩
  show codeAny _ _ (.compStart (sc2 elt tg iter tg1 iter1 ifs ifs1 sc ps) 0 (.ref it) (.ref D) (compEnvC sc (cellsFrom (s3.heap.objs.size + 1) sc.names (cloFrom X.env.cells sc.names [])) s3.heap.objs.size X.env)) (compPost (model X.prog X.w) X.A X.xe none Qf (.ref D) s3.heap.objs.size) { s3 with heap := pushCells (s3.heap.push { cls := .type "dict", data := .dict #[] }) sc.names }
  have nfp : ∀ b ∈ fp, (upd H2 D (SetO X.w D (fun _ => false) 0)) b = none := fun b hb => (f3 b hb).1.1
  generalize hce : compEnvC sc (cellsFrom (s3.heap.objs.size + 1) sc.names (cloFrom X.env.cells sc.names [])) s3.heap.objs.size X.env = ce at I4 pg pt pe pi1 pg1 pt1 ⊢
  have cL : ce.locals = s3.heap.objs.size := by subst hce; rfl
  generalize hH3 : upd H2 D (SetO X.w D (fun _ => false) 0) = H3 at I3 I4 pg pt pe pi1 pg1 pt1 w0 nfp f3
  generalize hs4 : ({ s3 with heap := pushCells (s3.heap.push { cls := .type "dict", data := .dict #[] }) sc.names } : Shared) = s4 at I4 ⊢
  have st4 : tn 0 s4.heap := T.keep _ _ _ st3 fun b _ o e => by rw [← hs4]; exact pushCells_keeps _ _ _ _ (Heap.get?_push_of_some _ e)
  have stat : ∀ {σ' : L2.St} {H' : Hp} {s' : Shared}, Inv (X.blk s3 H3 sc ce fp) [] σ' H' s' → (∀ b ∈ fp, H' b = none) → ∀ b ∈ fp, FpOk (X.blk s3 H3 sc ce fp) [] H' b := fun {σ' H' s'} I' hn b hb =>
    ⟨hn b hb, (I'.ok.exf b hb).1, I'.ok.exfs b hb, .inl hb, fun x c e => (I'.ok.exf b hb).2 x c e, fun p hp => absurd (show p ∈ ([] : List (Addr × Obj)) ++ [] from hp) (by simp)⟩
  have loop : codeAny (model X.prog X.w) X.A (.compLoop (sc2 elt tg iter tg1 iter1 ifs ifs1 sc ps) 0 (.ref it) (.ref D) ce) (compPost (model X.prog X.w) X.A X.xe none Qf (.ref D) s3.heap.objs.size) s4 := by
    refine scLoop_out (hs1 ce) (fun n s' => ∃ i H', Inv (X.blk s3 H3 sc ce fp) [] (wipe sl (own.map (·.2))) H' s' ∧ tn i s'.heap ∧ (∀ b ∈ fp, H' b = none) ∧ Wf i n H') ?_ m0 ⟨0, H3, I4, st4, nfp, w0⟩
    rintro n s5 ⟨i, H5, I5, st5, n5, w5⟩
    rcases turn i n H5 w5 with ⟨stop, qq⟩ | ⟨go, Nx, hNx, step⟩
    · refine thnF (T.done (X.blk s3 H3 sc ce fp) rfl rfl rfl hc i [] s5 _ H5 (fun _ _ => False) I5 (stat I5 n5) st5 stop) fun r s6 ⟨hr, I6⟩ => ?_
      subst hr
      have I7 : Inv X pins sl H5 s6 := I3.call' (ch := fp) I6.os I6.base I6.hok I6.bare fun b hb => ⟨(f3 b hb).1.2.2.2.1, (f3 b hb).1.2.1, (f3 b hb).1.2.2.2.2.1, (f3 b hb).1.2.2.2.2.2⟩
      have nC : H5 s3.heap.objs.size = none := by
        have z : H5 ce.locals = none := I6.free
        rwa [cL] at z
      obtain ⟨m, hn, _⟩ := I6.loc
      have hn : s6.heap.Ns ce.locals m := hn
      rw [cL] at hn
      exact hRR D s3.heap.objs.size s6 m H5 I7 qq hn (I3.fpOk (Nat.le_refl _) nC)
    · refine thnF (T.item (X.blk s3 H3 sc ce fp) rfl rfl rfl hc i [] s5 _ H5 (fun _ _ => False) I5 (stat I5 n5) st5 go) fun r s6 ⟨u, hr, h6⟩ => ?_
      subst hr
      refine thnF h6 fun _ s7 ⟨x, H7, I7, r7, y7, st7, n7⟩ => ?_
      refine thnF (pg.run _ s7 _ H7 x u _ (I7.pinned (stat I7 n7) (T.obj _ _ st7)) r7 (step x H7 y7)) fun _ s8 ⟨σ8, H8, I8, hw8, q8⟩ => ?_
      refine thnF (pt.run _ s8 σ8 H8 _ I8 q8) fun b s9 ⟨H9, I9, q9⟩ => ?_
      have fin : ∀ {σ9 : L2.St} {s' : Shared} {H' : Hp}, Inv (X.blk s3 H3 sc ce fp) ([] ++ pinsAt fp s7.heap) σ9 H' s' → (wipe sl (own.map (·.2))).length = σ9.length → (∀ (j : Nat) v, (wipe sl (own.map (·.2)))[j]? = some (some v) → σ9[j]? = some (some v)) → Nx H' →
          ∃ m, m < n ∧ ∃ i H', Inv (X.blk s3 H3 sc ce fp) [] (wipe sl (own.map (·.2))) H' s' ∧ tn i s'.heap ∧ (∀ b ∈ fp, H' b = none) ∧ Wf i m H' := fun {σ9 s' H'} I' hl hk nx => by
        obtain ⟨m', hm, w'⟩ := hNx H' nx
        have pin' : ∀ b ∈ fp, ∀ o, s7.heap.get? b = some o → s'.heap.get? b = some o ∧ H' b = none := fun b hb o e => ⟨(I'.pin (b, o) (List.mem_append_right _ (List.mem_append_right _ (mem_pinsAt hb e)))).1, (I'.pin (b, o) (List.mem_append_right _ (List.mem_append_right _ (mem_pinsAt hb e)))).2.1⟩
        exact ⟨m', hm, i + 1, H', (I'.unpinned (pins := [])).weak hl hk, T.keep _ _ _ st7 fun b hb o e => (pin' b hb o e).1, fun b hb => let ⟨o, e, _⟩ := T.obj _ _ st7 b hb; (pin' b hb o e).2, w'⟩
      have hl8 : (wipe sl (own.map (·.2))).length = σ8.length := by rw [← hw8, wipe_length]
      have hk8 : ∀ (j : Nat) v, (wipe sl (own.map (·.2)))[j]? = some (some v) → σ8[j]? = some (some v) := fun j v e => (wipe_some (by rw [← hw8] at e; exact e)).1
      have hk9 : ∀ (j : Nat) v, (wipe sl (own.map (·.2)))[j]? = some (some v) → (wipe σ8 vs1)[j]? = some (some v) := fun j v e => by
        rw [← hw8] at e
        obtain ⟨e1, e2⟩ := wipe_some e
        rw [wipe_out fun z => e2 (hv j z)]
        exact e1
      cases b with
      | false =>
        rw [if_neg Bool.false_ne_true] at q9 ⊢
        exact fin I9 hl8 hk8 q9
      | true =>
        rw [if_pos rfl] at q9 ⊢
        refine thnF (pi1.run _ s9 σ8 H9 _ I9 q9) fun xv s10 hx => thnF hx fun itv s11 h11 => ?_
        obtain ⟨it1, fp1, tn1, J1, H11, e1, I11, T1, st11, f11, V1, ⟨m1, w1⟩, turn1⟩ := h11
        subst e1
        have stat1 : ∀ {H' : Hp}, (∀ b ∈ fp1, H' b = none) → ∀ b ∈ fp1, FpOk (X.blk s3 H3 sc ce fp) ([] ++ pinsAt fp s7.heap) H' b := fun hn b hb => ⟨hn b hb, (f11 b hb).2⟩
        have loop1 : codeAny (model X.prog X.w) X.A (.compLoop (sc2 elt tg iter tg1 iter1 ifs ifs1 sc ps) 1 (.ref it1) (.ref D) ce)
            (fun r s' => match r with | .ok _ => ∃ m, m < n ∧ ∃ i H', Inv (X.blk s3 H3 sc ce fp) [] (wipe sl (own.map (·.2))) H' s' ∧ tn i s'.heap ∧ (∀ b ∈ fp, H' b = none) ∧ Wf i m H' | .error _ => False) s11 := by
          refine scLoop_in (fun k s' => ∃ j H', Inv (X.blk s3 H3 sc ce fp) ([] ++ pinsAt fp s7.heap) (wipe σ8 vs1) H' s' ∧ tn1 j s'.heap ∧ (∀ b ∈ fp1, H' b = none) ∧ V1 j k H') ?_ m1 ⟨0, H11, I11.weak (wipe_length _ _) (fun j v e => (wipe_some e).1), st11, fun b hb => (f11 b hb).1, w1⟩
          rintro k s12 ⟨j, H12, I12, st12, n12, w12⟩
          rcases turn1 j k H12 w12 with ⟨stop1, nx1⟩ | ⟨go1, Nx1, hNx1, step1⟩
          · refine thnF (T1.done (X.blk s3 H3 sc ce fp) rfl rfl rfl hc j _ s12 (wipe σ8 vs1) H12 (fun _ _ => False) I12 (stat1 n12) st12 stop1) fun r s13 ⟨hr, I13⟩ => ?_
            subst hr
            exact fin I13 (hl8.trans (wipe_length σ8 vs1).symm) hk9 nx1
          · refine thnF (T1.item (X.blk s3 H3 sc ce fp) rfl rfl rfl hc j _ s12 (wipe σ8 vs1) H12 (fun _ _ => False) I12 (stat1 n12) st12 go1) fun r s13 ⟨u1, hr, h13⟩ => ?_
            subst hr
            refine thnF h13 fun _ s14 ⟨x1, H14, I14, r14, y14, st14, n14⟩ => ?_
            refine thnF (pg1.run _ s14 (wipe σ8 vs1) H14 x1 u1 _ (I14.pinned (stat1 n14) (T1.obj _ _ st14)) r14 (step1 x1 H14 y14)) fun _ s15 ⟨σ15, H15, I15, hw15, q15⟩ => ?_
            refine thnF (pt1.run _ s15 σ15 H15 _ I15 q15) fun b1 s16 ⟨H16, I16, q16⟩ => ?_
            have fin1 : ∀ {s' : Shared} {H' : Hp}, Inv (X.blk s3 H3 sc ce fp) (([] ++ pinsAt fp s7.heap) ++ pinsAt fp1 s14.heap) σ15 H' s' → Nx1 H' → ∃ m, m < k ∧ ∃ j H', Inv (X.blk s3 H3 sc ce fp) ([] ++ pinsAt fp s7.heap) (wipe σ8 vs1) H' s' ∧ tn1 j s'.heap ∧ (∀ b ∈ fp1, H' b = none) ∧ V1 j m H' := fun {s' H'} I' nx => by
              obtain ⟨m', hm, w'⟩ := hNx1 H' nx
              have pin' : ∀ b ∈ fp1, ∀ o, s14.heap.get? b = some o → s'.heap.get? b = some o ∧ H' b = none := fun b hb o e => ⟨(I'.pin (b, o) (List.mem_append_right _ (List.mem_append_right _ (mem_pinsAt hb e)))).1, (I'.pin (b, o) (List.mem_append_right _ (List.mem_append_right _ (mem_pinsAt hb e)))).2.1⟩
              exact ⟨m', hm, j + 1, H', I'.unpinned.weak (by rw [← hw15, wipe_length]) (fun j v e => by rw [← hw15] at e; exact (wipe_some e).1), T1.keep _ _ _ st14 fun b hb o e => (pin' b hb o e).1, fun b hb => let ⟨o, e, _⟩ := T1.obj _ _ st14 b hb; (pin' b hb o e).2, w'⟩
            cases b1 with
            | false =>
              rw [if_neg Bool.false_ne_true] at q16 ⊢
              exact fin1 I16 q16
            | true =>
              rw [if_pos rfl] at q16 ⊢
              refine thnF (pe.run _ s16 σ15 H16 _ I16 q16) fun z s17 ⟨yv, H17, I17, r17, zi, S0, n0, ey, hD17, hz17, nx⟩ => ?_
              subst ey
              obtain ⟨tk, rfl⟩ := r17
              exact addI_ok (X := X.blk s3 H3 sc ce fp) I17 hD17 hz17 fun s18 I18 => fin1 I18 nx
        exact scStart1 loop1 (T1.self X.A 0 _ _ _ st11 loop1)
  exact PpSet.codeAny_compStart_set loop (T.self X.A 0 _ _ _ st4 loop)
theorem pe_sc2 {elt tg iter tg1 iter1 : Expr} {ifs ifs1 : List Expr} {sc : Scope} {own : List (Str × Nat)} {vs1 : List Nat} {ps : Pos} {wi wi1 : TI} {g g1 : TG} {tt tt1 : TT} {te : TE} (hc : X.calm = true) (hN : X.N.Nodup) (hi : PI X tg iter wi) (ok : BlkOk X.N X.env.scope sc own) (hv : ∀ i ∈ vs1, i ∈ own.map (·.2))
    (hg : Blk X sc fun Y => PG Y tg g) (ht : Blk X sc fun Y => PTs Y ifs tt) (hi1 : Blk X sc fun Y => PI Y tg1 iter1 wi1) (hg1 : Blk X sc fun Y => PG Y tg1 g1) (ht1 : Blk X sc fun Y => PTs Y ifs1 tt1) (he : Blk X sc fun Y => PE Y elt te)
    (hs : ∀ x, foldedSetIterable iter X.env x = pure x) (hs1 : ∀ env x, foldedSetIterable iter1 env x = pure x) : PE X (sc2 elt tg iter tg1 iter1 ifs ifs1 sc ps) (tSc2 X.w wi g tt wi1 g1 tt1 te (own.map (·.2)) vs1) := by
  refine ⟨fun pins sh sl Hq Q I hw => ?_⟩
  rw [PpSet.eval_SetComp]
  refine sc2_core hc hN I hi ok hv hg ht he hs hi1 hg1 ht1 hs1 hw fun D C s' m H' I' q hn f => ⟨m, hn, fun h'' sb => ?_⟩
  obtain ⟨f0, f1, f2, f3, f4, f5⟩ := f
  exact ⟨.ref D, H', I'.turned (t' := s'.toks) (fun b o hb e => (sb.2 b hb).trans e) f0 f1 f3 f4 f5, rfl, q⟩
end

/-- the set of ints zs -/
def seO (w : World) (zs : List Int) : Addr → Heap → Prop := fun a h => SetR w h a (fun j => decide (j ∈ zs)) (ddp zs).length
def scI (g1 : GT) (t1 : WT) (w : WE) (vs1 : List Nat) : List D → List Int → Env → (List Int → Env → Prop) → Prop
  | [], zs, e, k => k zs e
  | d :: l, zs, e, k => g1 (.d d) (wipeN e vs1) fun e1 => t1 e1 (fun b e2 => if b = true then w e2 (fun n e3 => match n with
    | .d (.int z) => zs.length < 4000 ∧ scI g1 t1 w vs1 l (z :: zs) e3 k
    | _ => False) noX else scI g1 t1 w vs1 l zs e2 k) noX
def scL (g : GT) (t : WT) (wi1 : WI) (g1 : GT) (t1 : WT) (w : WE) (own vs1 : List Nat) : List D → List Int → Env → (List Int → Env → Prop) → Prop
  | [], zs, e, k => k zs e
  | d :: l, zs, e, k => g (.d d) (wipeN e own) fun e1 => t e1 (fun b e2 => if b = true then wi1 e2 (fun l1 e3 => scI g1 t1 w vs1 l1 zs e3 fun zs' e4 => scL g t wi1 g1 t1 w own vs1 l zs' e4 k) noX else scL g t wi1 g1 t1 w own vs1 l zs e2 k) noX
def wSc2 (W : World) (wi : WI) (g : GT) (t : WT) (wi1 : WI) (g1 : GT) (t1 : WT) (w : WE) (own vs1 : List Nat) : WE := fun env k x => wi env (fun l e => scL g t wi1 g1 t1 w own vs1 l [] e (fun zs e2 => k (.ext (seO W zs)) (wipeN e2 own))) x
section
variable {K : PySem.W.Frag} {W : WX} {X : Cx} {Fr Hf H : Hp}
theorem wipe_wipe {σ : L2.St} {vs1 own : List Nat} (sub : ∀ i ∈ vs1, i ∈ own) : wipe (wipe σ vs1) own = wipe σ own := by
  refine List.ext_getElem? fun i => ?_
  by_cases hi : i ∈ own
  · by_cases hl : i < σ.length
    · rw [wipe_in hi hl, wipe_in hi (by rw [wipe_length]; exact hl)]
    · rw [List.getElem?_eq_none (by rw [wipe_length, wipe_length]; omega), List.getElem?_eq_none (by rw [wipe_length]; omega)]
  · rw [wipe_out hi, wipe_out hi, wipe_out fun z => hi (sub i z)]
theorem St.setIt {p : Addr} {o : HO} {m m' : N} {qs : List (V × N)} (s : St K Fr Hf H ((.ref p, m) :: qs)) (h1 : ∀ H, RepN K Hf H m (.ref p) [p] ∨ True) (hm : ∀ A, RepN K Hf H m (.ref p) A → A = [p]) (hn : RepN K Hf (upd H p o) m' (.ref p) [p]) : St K Fr Hf (upd H p o) ((.ref p, m') :: qs) := by
  obtain ⟨A, r, nd, d⟩ := s.own
  unfold RepPs at r
  obtain ⟨A1, A2, eA, r1, r2⟩ := r
  obtain rfl := hm A1 r1
  have hA : A = p :: A2 := eA
  rw [hA] at nd d
  have np := (List.nodup_cons.mp nd).1
  have dp := d p List.mem_cons_self
  have kF : ∀ {G : Hp} {b : Addr} {u : HO}, G p = none → G b = some u → b ≠ p := fun {G b u} g h z => by rw [z, g] at h; cases h
  refine ⟨fun b u h => by rw [upd_ne (kF dp.1 h)]; exact s.ex b u h, fun b u h => by rw [upd_ne (kF dp.2 h)]; exact s.fr b u h, s.dj, p :: A2, ?_, nd, d⟩
  unfold RepPs
  exact ⟨[p], A2, rfl, hn, r2.stay (Same.refl _) fun a ha => upd_ne fun z => np (by rw [← z]; exact ha)⟩
theorem runs_wSc2 {W1 W2 : WX} {Wd : World} {ch ch1 own vs1 : List Nat} {wi wi1 : WI} {g g1 : GT} {t t1 : WT} {w : WE} {ti ti1 : TI} {tg tg1 : TG} {tt tt1 : TT} {te : TE} (sub : ∀ i ∈ ch, i ∈ own) (sub1 : ∀ i ∈ ch1, i ∈ vs1) (sv : ∀ i ∈ vs1, i ∈ own) (hi : RunsI K W wi ti) (hg : RunsG K ch g tg) (ht : RunsT K W1 t tt)
    (hi1 : RunsI K W2 wi1 ti1) (hg1 : RunsG K ch1 g1 tg1) (ht1 : RunsT K W1 t1 tt1) (he : Runs K W2 w te) : Runs K W (wSc2 Wd wi g t wi1 g1 t1 w own vs1) (tSc2 Wd ti tg tt ti1 tg1 tt1 te own vs1) := by
  intro σ H Fr Hf env ts k x Q s c hw q hx
  refine hi σ H Fr Hf env ts _ x _ s c hw (fun l env' J Hf' H' hk sm c' s' ok => ?_) hx
  intro D hD
  have s0 : St K Fr Hf' (upd H' D (SetO Wd D (fun _ => false) 0)) ((.ref D, .ext (seO Wd [])) :: (ts ++ slots σ env')) := by
    obtain ⟨A, r, n, d⟩ := s'.own
    refine s'.alloc (B := []) hD ⟨A, r, n, d⟩ (fun a ha => absurd ha List.not_mem_nil) ?_
    unfold RepN
    refine ⟨D, rfl, rfl, ?_⟩
    rw [upd_same]
    rfl
  refine ⟨fun i m H1 => m = l.length - i ∧ i ≤ l.length ∧ ∃ env1 Hf1 zs σ1, wipe σ1 own = wipe σ own ∧ Same Hf' Hf1 ∧ Cov σ1 env1 ∧ St K Fr Hf1 H1 ((.ref D, .ext (seO Wd zs)) :: (ts ++ slots σ1 env1)) ∧ scL g t wi1 g1 t1 w own vs1 (l.drop i) zs env1 (fun zs e2 => k (.ext (seO Wd zs)) (wipeN e2 own)),
    ⟨l.length, by simp, Nat.zero_le _, env', Hf', [], σ, rfl, Same.refl _, c', s0, hk⟩, ?_⟩
  rintro i m H1 ⟨rfl, hi, env1, Hf1, zs, σ1, ew, sm1, c1, s1, h1⟩
  have s1w := (St.wiped (ts := (.ref D, .ext (seO Wd zs)) :: ts) s1 c1 own)
  rw [ew] at s1w
  obtain ⟨s2, c2⟩ := s1w
  by_cases hlt : i < l.length
  · rw [List.drop_eq_getElem_cons hlt] at h1
    refine .inr ⟨ok.go i H1 (sm1.trans s1.ex) hlt, fun H' => (i + 1 ≤ l.length ∧ ∃ env1 Hf1 zs σ1, wipe σ1 own = wipe σ own ∧ Same Hf' Hf1 ∧ Cov σ1 env1 ∧ St K Fr Hf1 H' ((.ref D, .ext (seO Wd zs)) :: (ts ++ slots σ1 env1)) ∧ scL g t wi1 g1 t1 w own vs1 (l.drop (i + 1)) zs env1 (fun zs e2 => k (.ext (seO Wd zs)) (wipeN e2 own))), ?_, ?_⟩
    · rintro H2 ⟨h2, z⟩
      exact ⟨l.length - (i + 1), by omega, rfl, h2, z⟩
    · intro v H2 y
      obtain ⟨Hf2, sm2, s3⟩ := ok.yld i H1 v H2 l[i] Fr Hf1 _ sm1 s2 y (by simp [hlt])
      refine hg (wipe σ own) H2 Fr Hf2 _ ((.ref D, .ext (seO Wd zs)) :: ts) _ v _ _ s3 c2 h1 fun env3 σ3 k3 o3 c3 s4 => ⟨wipe_same sub o3, ?_⟩
      have ew3 : wipe σ3 own = wipe σ own := wipe_same sub o3
      refine ht σ3 H2 Fr Hf2 env3 ((.ref D, .ext (seO Wd zs)) :: ts) _ noX _ s4 c3 k3 (fun b env4 Hf4 H4 k4 sm4 c4 s5 => ?_) runX_no
      cases b with
      | false =>
        rw [if_neg Bool.false_ne_true] at k4 ⊢
        exact ⟨hlt, env4, Hf4, zs, σ3, ew3, (sm1.trans sm2).trans sm4, c4, s5, k4⟩
      | true =>
        rw [if_pos rfl] at k4 ⊢
        refine hi1 σ3 H4 Fr Hf4 env4 ((.ref D, .ext (seO Wd zs)) :: ts) _ noX _ s5 c4 k4 (fun l1 env5 J1 Hf5 H5 k5 sm5 c5 s6 ok1 => ?_) runX_no
        refine ⟨fun j m H6 => m = l1.length - j ∧ j ≤ l1.length ∧ ∃ env6 Hf6 zs6 σ6, wipe σ6 vs1 = wipe σ3 vs1 ∧ Same Hf5 Hf6 ∧ Cov σ6 env6 ∧ St K Fr Hf6 H6 ((.ref D, .ext (seO Wd zs6)) :: (ts ++ slots σ6 env6)) ∧ scI g1 t1 w vs1 (l1.drop j) zs6 env6 (fun zs' e4 => scL g t wi1 g1 t1 w own vs1 (l.drop (i + 1)) zs' e4 (fun zs e2 => k (.ext (seO Wd zs)) (wipeN e2 own))),
          ⟨l1.length, by simp, Nat.zero_le _, env5, Hf5, zs, σ3, rfl, Same.refl _, c5, s6, k5⟩, ?_⟩
        rintro j m H6 ⟨rfl, hj, env6, Hf6, zs6, σ6, ew6, sm6, c6, s7, h6⟩
        have s7w := (St.wiped (ts := (.ref D, .ext (seO Wd zs6)) :: ts) s7 c6 vs1)
        rw [ew6] at s7w
        obtain ⟨s8, c8⟩ := s7w
        have smA : Same Hf' Hf6 := (((sm1.trans sm2).trans sm4).trans sm5).trans sm6
        by_cases hlt1 : j < l1.length
        · rw [List.drop_eq_getElem_cons hlt1] at h6
          refine .inr ⟨ok1.go j H6 (sm6.trans s7.ex) hlt1, fun H' => (j + 1 ≤ l1.length ∧ ∃ env6 Hf6 zs6 σ6, wipe σ6 vs1 = wipe σ3 vs1 ∧ Same Hf5 Hf6 ∧ Cov σ6 env6 ∧ St K Fr Hf6 H' ((.ref D, .ext (seO Wd zs6)) :: (ts ++ slots σ6 env6)) ∧ scI g1 t1 w vs1 (l1.drop (j + 1)) zs6 env6 (fun zs' e4 => scL g t wi1 g1 t1 w own vs1 (l.drop (i + 1)) zs' e4 (fun zs e2 => k (.ext (seO Wd zs)) (wipeN e2 own)))), ?_, ?_⟩
          · rintro H7 ⟨h7, z⟩
            exact ⟨l1.length - (j + 1), by omega, rfl, h7, z⟩
          · intro v1 H7 y1
            obtain ⟨Hf7, sm7, s9⟩ := ok1.yld j H6 v1 H7 l1[j] Fr Hf6 _ sm6 s8 y1 (by simp [hlt1])
            refine hg1 (wipe σ3 vs1) H7 Fr Hf7 _ ((.ref D, .ext (seO Wd zs6)) :: ts) _ v1 _ _ s9 c8 h6 fun env8 σ8 k8 o8 c9 s10 => ⟨wipe_same sub1 o8, ?_⟩
            have ew8 : wipe σ8 vs1 = wipe σ3 vs1 := wipe_same sub1 o8
            refine ht1 σ8 H7 Fr Hf7 env8 ((.ref D, .ext (seO Wd zs6)) :: ts) _ noX _ s10 c9 k8 (fun b env9 Hf9 H9 k9 sm9 c10 s11 => ?_) runX_no
            cases b with
            | false =>
              rw [if_neg Bool.false_ne_true] at k9 ⊢
              exact ⟨hlt1, env9, Hf9, zs6, σ8, ew8, (sm6.trans sm7).trans sm9, c10, s11, k9⟩
            | true =>
              rw [if_pos rfl] at k9 ⊢
              refine he σ8 H9 Fr Hf9 env9 ((.ref D, .ext (seO Wd zs6)) :: ts) _ noX _ s11 c10 k9 (fun n env10 u Hf10 H10 k10 sm10 c11 s12 => ?_) runX_no
              split at k10
              · rename_i z
                obtain ⟨hz, k10⟩ := k10
                have ru := s12.memD List.mem_cons_self
                unfold Rep at ru
                have s13 := s12.tail
                obtain ⟨A, rr, _⟩ := s13.mem List.mem_cons_self
                unfold RepN at rr
                obtain ⟨p, e1, e2, e3⟩ := rr
                cases e1
                have hle := ddp_le zs6
                refine ⟨z, _, _, ru, e3, by unfold scanBound; omega, hlt1, env10, Hf10, z :: zs6, σ8, ew8, ((sm6.trans sm7).trans sm9).trans sm10, c11, ?_, k10⟩
                refine s13.setIt (fun _ => .inr trivial) (fun A r => by unfold RepN at r; obtain ⟨q, f1, f2, _⟩ := r; cases f1; exact f2) ?_
                unfold RepN
                refine ⟨D, rfl, rfl, ?_⟩
                rw [upd_same]
                have eS : (fun j => decide (j ∈ zs6) || decide (j = z)) = fun j => decide (j ∈ z :: zs6) := by
                  funext j
                  rw [Bool.or_comm, ← Bool.decide_or]
                  simp
                have eN : (if decide (z ∈ zs6) = true then (ddp zs6).length else (ddp zs6).length + 1) = (ddp (z :: zs6)).length := by
                  rw [ddp]
                  by_cases hm : z ∈ zs6
                  · rw [if_pos (decide_eq_true hm), if_pos hm]
                  · rw [if_neg (by simpa using hm), if_neg hm, List.length_cons]
                rw [eS, eN]
                rfl
              · exact k10.elim
        · have hE : j = l1.length := by omega
          subst hE
          rw [List.drop_length] at h6
          refine .inl ⟨ok1.stop H6 (sm6.trans s7.ex), hlt, env6, Hf6, zs6, σ6, ?_, smA, c6, s7, h6⟩
          rw [← wipe_wipe sv, ew6, wipe_wipe sv, ew3]
  · have hE : i = l.length := by omega
    subst hE
    rw [List.drop_length] at h1
    refine .inl ⟨ok.stop H1 (sm1.trans s1.ex), q _ _ (.ref D) Hf1 H1 h1 (sm.trans sm1) ?_ ?_⟩
    · have := (St.wiped (ts := (.ref D, .ext (seO Wd zs)) :: ts) s1 c1 own).2
      rw [ew] at this
      exact cov_wiped this
    · have z : slots (wipe σ1 own) (wipeN env1 own) = slots σ (wipeN env1 own) := by rw [ew]; exact slots_wiped σ env1 own
      have := (St.wiped (ts := (.ref D, .ext (seO Wd zs)) :: ts) s1 c1 own).1
      rw [z] at this
      exact this
/-- sorted, of a set of ints -/
def wSortS (Wd : World) (w : WE) : WE := fun env k x => w env (fun n e => ∃ zs : List Int, n = .ext (seO Wd zs) ∧ (ddp zs).length < 64 ∧ k (.lst (((sortI (ddp zs)).map D.int).map N.d)) e) x
theorem runs_sortS {w : WE} {te : TE} (h : Runs K W w te) : Runs K W (wSortS X.w w) (tCB (rSortedSet X.w) (tCons te tNil)) := by
  intro σ H Fr Hf env ts k x Q s c hw q hx
  refine h σ H Fr Hf env ts _ x _ s c hw (fun n e v Hf' H' hk sm c' s' => ?_) hx
  obtain ⟨zs, rfl, h64, hk⟩ := hk
  obtain ⟨A, r, _⟩ := s'.mem List.mem_cons_self
  unfold RepN at r
  obtain ⟨p, rfl, e2, e3⟩ := r
  refine ⟨p, _, _, rfl, e3, h64, fun ns b hs hm hl hn => ?_⟩
  have pm : ns.Perm (ddp zs) := (List.perm_ext_iff_of_nodup (hs.imp fun h => Int.ne_of_lt h) (nodup_ddp zs)).mpr fun a => by rw [hm a, decide_eq_true_eq, mem_ddp]
  rw [sortI_eq pm (hs.imp fun h => Int.le_of_lt h)]
  exact q _ e _ Hf' _ hk sm c' (s'.tail.newL hn (reps_ints _))
theorem pd_sortS {e : Expr} {w : WE} {p pos : Pos} (hc : X.calm = true) (hg : Gl X "sorted") (hm : X.mg "sorted" = none) (h : PD X W e w) (he : starEach [e] X.env = (false, eval e X.env) :: starEach [] X.env := by rfl) (hpl : (backTo pos (starEach [] X.env)).any (·.1) = false := by rfl) :
    PD X W (.Call (.Name "sorted" p) [e] [] pos) (wSortS X.w w) := by
  obtain ⟨t, a1, a2⟩ := h
  exact ⟨_, pe_callB (cr_sortedSet hc) hg hm PyProof.Rows.boot_sorted (L2.pa_cons a1 L2.pa_nil he) (by decide) (by decide) he hpl, runs_sortS a2⟩
theorem pd_sc2 {ch ch1 : List Nat} {own : List (Str × Nat)} {vs1 : List Nat} {elt tg iter tg1 iter1 : Expr} {sc : Scope} {ps : Pos} {wi wi1 : WI} {g g1 : GT} {w : WE} (hc : X.calm = true) (hN : X.N.Nodup) (hi : PID X W tg iter wi) (ok : BlkOk X.N X.env.scope sc own)
    (hg : Blk X sc fun Y => PGD Y ch tg g) (hi1 : Blk X sc fun Y => PID Y W0 tg1 iter1 wi1) (hg1 : Blk X sc fun Y => PGD Y ch1 tg1 g1) (he : Blk X sc fun Y => PD Y W0 elt w) (sv : ∀ i ∈ vs1, i ∈ own.map (·.2) := by decide) (sub : ∀ i ∈ ch, i ∈ own.map (·.2) := by decide) (sub1 : ∀ i ∈ ch1, i ∈ vs1 := by decide)
    (hs : ∀ x, foldedSetIterable iter X.env x = pure x := by intro _; rfl) (hs1 : ∀ env x, foldedSetIterable iter1 env x = pure x := by intro _ _; rfl) : PD X W (.SetComp elt [⟨tg, iter, [], 0⟩, ⟨tg1, iter1, [], 0⟩] sc ps) (wSc2 X.w wi g wYes wi1 g1 wYes w (own.map (·.2)) vs1) :=
  ⟨_, pe_sc2 hc hN hi.pi ok sv (fun s H C cl fp => (hg s H C cl fp).pg) (fun s H C cl fp => pts_nil) (fun s H C cl fp => (hi1 s H C cl fp).pi) (fun s H C cl fp => (hg1 s H C cl fp).pg) (fun s H C cl fp => pts_nil) (fun s H C cl fp => (he s H C cl fp).pe) hs hs1,
    runs_wSc2 (W := W) (W1 := W0) (W2 := W0) sub sub1 sv runs_tiOf runs_tgOf runsT_yes runs_tiOf runs_tgOf runsT_yes runs_teOf⟩
end

/-! ### the law's own def, called from outside -/
/-- nothing but a list known to the object is tracked, if that -/
structure Sole (H : Hp) (a : Addr) (h : Heap) (K : PySem.W.Frag) (xs : List V) : Prop where
  only : ∀ b, H b = none ∨ ∃ o ys, H b = some (.frz o (.lst ys))
  at_ : ∀ b, H b ≠ none → b = a
  ok : ∀ {P : Program} {w : World}, HOk P w H h
  seq : SqL K H a xs
  out : H a ≠ none → K.lookup a = none
theorem law_g {P : Program} {w : World} {K : PySem.W.Frag} {mg mb : Str → Option Value} {k : Nat} {fa a : Addr} {fd : FuncData} {x : Str} {sp : Sp} {sh : Shared} {vs : List Value} {ns : List Int}
    (KX : K.In sh.heap) (hns : sh.heap.Ns mainGlobals mg) (hb : sh.heap.Ns builtinsNs mb) (hbb : ∀ x : Str, x ≠ "__name__" → mb x = bootBuiltins x) (hlim : sh.heap.NoLimit) (hg : sh.gens = #[])
    (ha : sh.heap.get? a = some { cls := .type "list", data := .seq vs.toArray }) (hi : IntsAre vs ns) (hl : ns.length ≤ sizeLine) (hr : RoomG k callerA)
    (F : ∀ base : Heap, K.In base → base.Ns mainGlobals mg → FnG P w K mg base k fa fd [x] sp) (hbind : ∀ (s : Shared) (u : Value), BindsTo s fd ⟨[u], []⟩ [(x, u)])
    (hsp : ∀ H : Hp, SqL K H a (ns.map V.int) → sp [.ref a] H (fun v _ => v = .bl true) fun _ _ _ => False) :
    codeAny (model P w) callerA (.call (.ref fa) ⟨[.ref a], []⟩) (fun r s' => r = .ok (.ret (.bool true)) ∧ OldK sh.heap s'.heap ∧ s'.os = sh.os ∧ AllBare s'.gens) sh := by
  have rv := vals_ints hi
  have zl : (ns.map V.int).length ≤ sizeLine := by rw [List.length_map]; exact hl
  obtain ⟨H, hO, hA, hK, hS, hok⟩ : ∃ H : Hp, (∀ b, H b = none ∨ ∃ o ys, H b = some (.frz o (.lst ys))) ∧ (∀ b, H b ≠ none → b = a) ∧ (H a ≠ none → K.lookup a = none) ∧ SqL K H a (ns.map V.int) ∧ HOk P w H sh.heap := by
    cases hk : K.lookup a with
    | some o =>
      have e := KX a o hk
      rw [ha] at e
      cases e
      exact ⟨fun _ => none, fun _ => .inl rfl, fun b z => absurd rfl z, fun z => absurd rfl z, .inr ⟨_, vs.toArray, _, hk, rfl, rfl, rfl, by have := rv.length; rw [List.size_toArray, ← this]; exact zl, by simpa using rv⟩, fun b u z => nomatch z⟩
    | none =>
      refine ⟨fun b => if b = a then some (.frz { cls := .type "list", data := .seq vs.toArray } (.lst (ns.map V.int))) else none, fun b => ?_, fun b z => ?_, fun _ => rfl, .inl (.inr ⟨{ cls := .type "list", data := .seq vs.toArray }, if_pos rfl⟩), fun b u z => ?_⟩
      · by_cases c : b = a
        · exact .inr ⟨_, _, if_pos c⟩
        · exact .inl (if_neg c)
      · by_cases c : b = a
        · exact c
        · exact absurd (if_neg c) z
      · by_cases c : b = a
        · cases (if_pos c).symm.trans z
          subst c
          exact ⟨ha, zl, vs, _, rv, ha⟩
        · cases (if_neg c).symm.trans z
  have notA : ∀ {b : Addr} {o : Obj} {es : Array DictEntry} {ep : Nat}, sh.heap.get? b = some o → o.data = .dict es ep → H b = none := fun {b o es ep} e d => by
    cases q : H b with
    | none => rfl
    | some u =>
      obtain rfl := hA b (by rw [q]; simp)
      rw [ha] at e
      cases e
      cases (show Data.seq vs.toArray _ = Data.dict es ep from d)
  have nsK : ∀ {b : Addr} {m : Str → Option Value}, sh.heap.Ns b m → (hidT sh.heap H).Ns b m := fun {b m} ⟨o, es, ep, e, d, r⟩ => ⟨o, es, ep, hidT_get e (notA e d), d, r⟩
  have hKb : K.In (hidT sh.heap H) := fun b o e => hidT_get (KX b o e) (by
    cases q : H b with
    | none => rfl
    | some u =>
      obtain rfl := hA b (by rw [q]; simp)
      rw [hK (by rw [q]; simp)] at e
      cases e)
  have hM : Mod K mg (hidT sh.heap H) := ⟨hKb, nsK hns, ⟨mb, nsK hb, hbb⟩, let ⟨mc, h1, h2⟩ := hlim; ⟨mc, nsK h1, h2⟩⟩
  have e0 : Env0 P w K mg (hidT sh.heap H) callerA [] sh H := ⟨rfl, hM, fun b o e => of_hidT e, Nat.le_of_eq (hidT_size _ _), trivial, fun b hb => absurd (show b ∈ ([] : List Addr) from hb) (by simp), hok, .of_eq hg⟩
  refine codeAny_mono ((F _ hKb (nsK hns)).run callerA [] sh H ⟨[.ref a], []⟩ [.ref a] [.ref a] _ _ hr e0 (hbind sh (.ref a)) (.cons rfl .nil) (hsp H hS)) fun r s' h => ?_
  cases r with
  | error e => exact (cx_no h).elim
  | ok fl =>
    cases fl with
    | next => exact h.elim
    | brk => exact h.elim
    | cont => exact h.elim
    | ret u =>
      obtain ⟨v, H', os, bare, un, hok', r', rfl⟩ := h
      obtain rfl : u = Value.bool true := r'
      refine ⟨rfl, OldK.of_keep fun b o e => ?_, os, bare⟩
      rcases hO b with z | ⟨ob, ys, z⟩
      · exact un.keep b o e z (by intro y; exact absurd (show b ∈ ([] : List Addr) from y) (by simp)) (by simp)
      · obtain ⟨e1, _⟩ := hok b _ z
        obtain ⟨e2, _⟩ := hok' b _ (un.frzs b ob _ z)
        rw [e] at e1
        cases e1
        exact e2
theorem walk_g {l : PySem.W.OpenLaw} {n k : Nat} {q : Program} {loose : List Str} {XP : (Str → Option Value) → Heap → Prop} {YP : World → Heap → Prop} {d : DefRec} {x : Str}
    (hn : l.most = some n) (hn2 : n ≤ sizeLine) (hdf : d.params.defaults = []) (hr : RoomG k callerA)
    (F : ∀ (w : World) (mg : Str → Option Value) (fa : Addr) (h : Heap), YP w h → h.Ns mainGlobals mg → mg d.name = some (.ref fa) →
      ∃ (K : PySem.W.Frag) (fd : FuncData) (sp : Sp), K.In h ∧ (∀ (s : Shared) (u : Value), BindsTo s fd ⟨[u], []⟩ [(x, u)]) ∧
        (∀ (H : Hp) (a : Addr) (ns : List Int), ns.length ≤ n → SqL K H a (ns.map V.int) → sp [.ref a] H (fun v _ => v = .bl true) fun _ _ _ => False) ∧
        ∀ base : Heap, K.In base → base.Ns mainGlobals mg → FnG l.prog w K mg base k fa fd [x] sp) : PySem.W.WalkO q loose XP YP l.row.toRowW d [] (fun f vs => PySem.call f vs) := by
  refine Att.attach_call hn hdf fun w s₀ s₁ mg mb fa o pm cd doc a vs ns G Y ho hd hcd hmg hobj hints hlen hg => ?_
  obtain ⟨K, fd, sp, KX, hb, hsp, hF⟩ := F w mg fa _ Y G.T.g hmg
  exact law_g KX G.T.g G.T.b G.T.builtins G.T.nolimit hg hobj hints (Nat.le_trans hlen hn2) hr hF hb fun H hS => hsp H a ns hlen hS
/-- the law's promise over trees, met at the script -/
theorem sp_script {K : PySem.W.Frag} {H : Hp} {a : Addr} {ns : List Int} {fs : FS} (hS : SqL K H a (ns.map V.int)) (hf : fs [.d (.scr ns)] (fun r _ => r = .d (.bl true)) noX) : spOf K 1 fs [.ref a] H (fun v _ => v = .bl true) fun _ _ _ => False := by
  refine ⟨rfl, fun _ => none, H, [.d (.scr ns)], _, _, rfl, ?_, hf, fun r outs v Hf' H' hk _ _ st => ?_, fun _ _ _ _ _ _ h => h.elim⟩
  · have r : Rep K H (.scr ns) (.ref a) := by unfold Rep; exact ⟨a, rfl, hS⟩
    exact (St.frame0 (Same.refl H)).addD r
  · rw [hk] at st
    have := st.memD List.mem_cons_self
    unfold Rep at this
    exact this
/-! ### repr -/
def gRepr : GL
  | [.non] => some (.d (.str "None"))
  | [.bl b] => some (.d (.str (if b then "True" else "False")))
  | [.int i] => if i.natAbs.log2 < 1920 then some (.d (.str (toString i))) else none
  | [.str z] => if (reprText z).length ≤ sizeLine then some (.d (.str (reprText z))) else none
  | [d] => (toPy d).bind fun p => if p.showable = true ∧ p.hasDict = false ∧ p.depth < 64 ∧ p.shown.length ≤ sizeLine then some (.d (.str p.shown)) else none
  | _ => none
def rReprA (K : PySem.W.Frag) : List V → Hp → VK → Prop := fun vs H Q => (vs = [.non] ∧ Q (.str "None") H) ∨ (∃ b : Bool, vs = [.bl b] ∧ Q (.str (if b then "True" else "False")) H) ∨ (∃ i, vs = [.int i] ∧ i.natAbs.log2 < 1920 ∧ Q (.str (toString i)) H) ∨
  (∃ z, vs = [.str z] ∧ (reprText z).length ≤ sizeLine ∧ Q (.str (reprText z)) H) ∨ ∃ a p, vs = [.ref a] ∧ Dp K H (.ref a) p ∧ (p.showable = true ∧ p.hasDict = false ∧ p.depth < 64 ∧ p.shown.length ≤ sizeLine) ∧ Q (.str p.shown) H
section
variable {K : PySem.W.Frag} {W : WX} {X : Cx}
theorem cr_repr (hu : X.A.units + 66 < cLine) (hg : X.A.guards = some []) : CallR X (.builtin "repr") (rReprA X.K) := by
  intro pins sh sl Hp vs us Q I r hw
  rcases hw with ⟨rfl, q⟩ | ⟨b, rfl, q⟩ | ⟨i, rfl, hi, q⟩ | ⟨z, rfl, hz, q⟩ | ⟨a, p, rfl, dp, ⟨h1, h2, h3, h4⟩, q⟩
  · obtain ⟨u, rfl, ru⟩ := vals1 r
    cases (show u = Value.none from ru)
    exact P.repr_of_none ⟨.str "None", Hp, I.tok _, ⟨_, rfl⟩, q⟩
  · obtain ⟨u, rfl, ru⟩ := vals1 r
    cases (show u = Value.bool b from ru)
    exact P.repr_of_bool ⟨.str (if b then "True" else "False"), Hp, I.tok _, ⟨_, by cases b <;> rfl⟩, q⟩
  · obtain ⟨u, rfl, ru⟩ := vals1 r
    obtain ⟨t, rfl⟩ := ru
    exact P.repr_of_int hi ⟨.str (toString i), Hp, I.tok _, ⟨_, rfl⟩, q⟩
  · obtain ⟨u, rfl, ru⟩ := vals1 r
    obtain ⟨t, rfl⟩ := ru
    exact P.repr_of_str ⟨.str (reprText z), Hp, I.tok _, ⟨_, rfl⟩, q⟩ hz
  · obtain ⟨u, rfl, ru⟩ := vals1 r
    cases (show u = Value.ref a from ru)
    obtain ⟨as, rd⟩ := Dp.reads I p (.ref a) (.ref a) dp rfl
    exact repr_of_reads' rd h1 (PyData.noDict_hsm h2) hg (by omega) (fun _ _ e => e) (fun h' u tk hk => ⟨.str p.shown, Hp, I.kept (t' := tk) hk, ⟨_, rfl⟩, q⟩) h4
theorem sd_repr : SdL X.K (rReprA X.K) gRepr := by
  intro Fr Hf H ps vs xs m Q s ht hg q
  unfold gRepr at hg
  split at hg
  · obtain ⟨v, rfl, t⟩ := one_top ht
    cases hg
    rw [top_non t]
    exact .inl ⟨rfl, q.str s⟩
  · obtain ⟨v, rfl, t⟩ := one_top ht
    cases hg
    rw [top_bl t]
    exact .inr (.inl ⟨_, rfl, q.str s⟩)
  · obtain ⟨v, rfl, t⟩ := one_top ht
    split at hg
    · rename_i hi
      cases hg
      rw [top_int t]
      exact .inr (.inr (.inl ⟨_, rfl, hi, q.str s⟩))
    · cases hg
  · obtain ⟨v, rfl, t⟩ := one_top ht
    split at hg
    · rename_i hi
      cases hg
      rw [top_str t]
      exact .inr (.inr (.inr (.inl ⟨_, rfl, hi, q.str s⟩)))
    · cases hg
  · obtain ⟨v, rfl, t⟩ := one_top ht
    rename_i d n1 n2 n3 n4
    cases e : toPy d with
    | none => rw [e] at hg; cases hg
    | some p =>
      rw [e, Option.bind_some] at hg
      split at hg
      · rename_i hc
        cases hg
        have dp := dp_top s.ex t e
        have : ∃ a, v = .ref a := by
          cases d with
          | lst l => obtain ⟨a, vs, rfl, _⟩ := t; exact ⟨a, rfl⟩
          | tup l => obtain ⟨a, vs, rfl, _⟩ := t; exact ⟨a, rfl⟩
          | non => exact absurd rfl n1
          | bl b => exact (n2 b rfl).elim
          | int i => exact (n3 i rfl).elim
          | str z => exact (n4 z rfl).elim
          | dic ks l => obtain ⟨a, vs, rfl, _⟩ := t; exact ⟨a, rfl⟩
          | obj cc fs l => obtain ⟨a, dx, vs, rfl, _⟩ := t; exact ⟨a, rfl⟩
          | scr l => obtain ⟨a, rfl, _⟩ := t; exact ⟨a, rfl⟩
          | ext φ => obtain ⟨a, rfl, _⟩ := t; exact ⟨a, rfl⟩
        obtain ⟨a, rfl⟩ := this
        exact .inr (.inr (.inr (.inr ⟨a, p, rfl, dp, hc, q.str s⟩)))
      · cases hg
  · cases hg
end

/-! ### tests of comparisons -/
section
variable {X : Cx} {W : WX} {a b : Expr} {o1 o2 : WO} {pos : Pos} {k : Nat} {f : Addr} {fd : FuncData} {ps : List Str} {c : Str} {fs : FS}
theorem pt_eq (hu : X.A.units + 64 < cLine) (h1 : PDO X W a o1) (h2 : PDO X W b o2) : PTD X W (.Compare a [.Eq] [b] pos) (wB (wOp2 (up2 gEq) o1 o2)) := pt_cmp (op_eqAll hu) sd_eq.snd (nobehind _ (by decide) (by decide)) h1 h2
theorem pt_ne (hu : X.A.units + 64 < cLine) (h1 : PDO X W a o1) (h2 : PDO X W b o2) : PTD X W (.Compare a [.NotEq] [b] pos) (wB (wOp2 (up2 gNe) o1 o2)) := pt_cmp (op_neAll hu) sd_ne.snd (nobehind _ (by decide) (by decide)) h1 h2
theorem pt_lt (h1 : PDO X W a o1) (h2 : PDO X W b o2) : PTD X W (.Compare a [.Lt] [b] pos) (wB (wOp2 (up2 gLt) o1 o2)) := pt_cmp op_ltAll sd_lt.snd (nobehind _ (by decide) (by decide)) h1 h2
theorem pt_le (h1 : PDO X W a o1) (h2 : PDO X W b o2) : PTD X W (.Compare a [.LtE] [b] pos) (wB (wOp2 (up2 gLe) o1 o2)) := pt_cmp op_leAll sd_le.snd (nobehind _ (by decide) (by decide)) h1 h2
theorem pt_gt (h1 : PDO X W a o1) (h2 : PDO X W b o2) : PTD X W (.Compare a [.Gt] [b] pos) (wB (wOp2 (up2 gGt) o1 o2)) := pt_cmp op_gtAll sd_gt.snd (nobehind _ (by decide) (by decide)) h1 h2
theorem pt_ge (h1 : PDO X W a o1) (h2 : PDO X W b o2) : PTD X W (.Compare a [.GtE] [b] pos) (wB (wOp2 (up2 gGe) o1 o2)) := pt_cmp op_geAll sd_ge.snd (nobehind _ (by decide) (by decide)) h1 h2
theorem pt_is (h1 : PDO X W a o1) (h2 : PDO X W b o2) : PTD X W (.Compare a [.Is] [b] pos) (wB (wOp2 (up2 gIs) o1 o2)) := pt_cmp op_isAll sd_is.snd (nobehind _ (by decide) (by decide)) h1 h2
theorem pt_isNot (h1 : PDO X W a o1) (h2 : PDO X W b o2) : PTD X W (.Compare a [.IsNot] [b] pos) (wB (wOp2 (up2 gIsNot) o1 o2)) := pt_cmp op_isNotAll sd_isNot.snd (nobehind _ (by decide) (by decide)) h1 h2
theorem pt_in (h1 : PDO X W a o1) (h2 : PDO X W b o2) (hm : behindInMarks .In b = false := by rfl) : PTD X W (.Compare a [.In] [b] pos) (wB (wOp2 (up2 gIn) o1 o2)) := pt_cmp op_inAll sd_in.snd hm h1 h2
theorem pt_notIn (h1 : PDO X W a o1) (h2 : PDO X W b o2) (hm : behindInMarks .NotIn b = false := by rfl) : PTD X W (.Compare a [.NotIn] [b] pos) (wB (wOp2 (up2 gNotIn) o1 o2)) := pt_cmp op_notInAll sd_notIn.snd hm h1 h2
theorem pt_inK (hu : X.A.units + 1 < cLine) (h1 : PDO X W a o1) (h2 : PDO X W b o2) (hm : behindInMarks .In b = false := by rfl) : PTD X W (.Compare a [.In] [b] pos) (wB (wOp2 (up2 (gInK false)) o1 o2)) := pt_cmp (op_inDK hu) sd_inK.snd hm h1 h2
theorem pt_notInK (hu : X.A.units + 1 < cLine) (h1 : PDO X W a o1) (h2 : PDO X W b o2) (hm : behindInMarks .NotIn b = false := by rfl) : PTD X W (.Compare a [.NotIn] [b] pos) (wB (wOp2 (up2 (gInK true)) o1 o2)) := pt_cmp (op_notInDK hu) sd_inK.snd hm h1 h2
theorem pt_inN (h1 : PDO X W a o1) (h2 : PDO X W b o2) (hm : behindInMarks .In b = false := by rfl) : PTD X W (.Compare a [.In] [b] pos) (wB (wInN X.prog X.w false o1 o2)) := by
  obtain ⟨t, a1, a2⟩ := h1
  obtain ⟨u, b1, b2⟩ := h2
  exact ⟨_, pt_cmpR op_inN a1 b1 hm, runs_wB (runs_inN a2 b2)⟩
theorem pt_notInN (h1 : PDO X W a o1) (h2 : PDO X W b o2) (hm : behindInMarks .NotIn b = false := by rfl) : PTD X W (.Compare a [.NotIn] [b] pos) (wB (wInN X.prog X.w true o1 o2)) := by
  obtain ⟨t, a1, a2⟩ := h1
  obtain ⟨u, b1, b2⟩ := h2
  exact ⟨_, pt_cmpR op_notInN a1 b1 hm, runs_wB (runs_inN a2 b2)⟩
theorem pt_inO (M : Meth X.K (He.ga X.K c) "__contains__" f) (F : FnG X.prog X.w X.K X.mg X.base k f fd ps (spOf X.K 2 fs)) (hr : RoomG k X.A) (hb : Binds X.K fd ps []) (h1 : PDO X W0 a o1) (h2 : PDO X W0 b o2) (hm : behindInMarks .In b = false := by rfl) : PTD X W (.Compare a [.In] [b] pos) (wB (wInO false c fs o1 o2)) := by
  obtain ⟨t, a1, a2⟩ := h1
  obtain ⟨u, b1, b2⟩ := h2
  exact ⟨_, pt_cmpR (op_inO false M F hr hb) a1 b1 hm, runs_wB (runs_inO a2 b2)⟩
theorem pt_notInO (M : Meth X.K (He.ga X.K c) "__contains__" f) (F : FnG X.prog X.w X.K X.mg X.base k f fd ps (spOf X.K 2 fs)) (hr : RoomG k X.A) (hb : Binds X.K fd ps []) (h1 : PDO X W0 a o1) (h2 : PDO X W0 b o2) (hm : behindInMarks .NotIn b = false := by rfl) : PTD X W (.Compare a [.NotIn] [b] pos) (wB (wInO true c fs o1 o2)) := by
  obtain ⟨t, a1, a2⟩ := h1
  obtain ⟨u, b1, b2⟩ := h2
  exact ⟨_, pt_cmpR (op_inO true M F hr hb) a1 b1 hm, runs_wB (runs_inO a2 b2)⟩
end
/-! ### defs by names -/
/-- a def of the text keeps the contract fs -/
structure Ok (P : Program) (w : World) (K : PySem.W.Frag) (mg : Str → Option Value) (base : Heap) (d : He.DefD) (ps : List Str) (k : Nat) (fs : FS) : Prop where
  ex : ∃ fd, FunD K d.name d.qual d.params d.body d.scope [] [] (He.fAd K d.at_) fd ∧ FnG P w K mg base k (He.fAd K d.at_) fd ps (spOf K ps.length fs) ∧ Binds K fd ps []
abbrev cxd (P : Program) (w : World) (K : PySem.W.Frag) (mg : Str → Option Value) (base : Heap) (d : He.DefD) (Ns : List Str) (cdv : Value) (A : Around) (outer : List PySem.Env) (s : Shared) (H : Hp) (E : XK) : Cx :=
  cxOf (L2.CX P w) P w K mg base Ns d.qual d.scope (He.fAd K d.at_) cdv A outer s H E
abbrev WW (E : XK) : WX := fun cls d _ H => E cls d H
/-- every parameter written -/
abbrev Bd (d : He.DefD) (ps : List Str) : Prop := ∀ (kV doc pm : Value) (an : Option Addr) (cdv ct : Value) (us : List Value), us.length = ps.length → bindArgs (PySem.W.fnOf d.name d.qual d.params d.body d.scope .none kV doc pm an cdv ct) ⟨us, []⟩ = pure (ps.zip us)
abbrev Bk (d : He.DefD) (ps : List Str) (n : Nat) (ks : List Str) (pm : List Nat) : Prop := ∀ (kV doc pm' : Value) (an : Option Addr) (cdv ct : Value) (us ws : List Value), us.length = n → ws.length = ks.length → bindArgs (PySem.W.fnOf d.name d.qual d.params d.body d.scope .none kV doc pm' an cdv ct) ⟨us, ks.zip ws⟩ = pure (ps.zip (pick pm (us ++ ws)))
section
variable {P : Program} {w : World} {K : PySem.W.Frag} {mg : Str → Option Value} {base : Heap} {d : He.DefD} {ps Ns : List Str} {k : Nat} {fs : FS} {ws : WS}
theorem mk_ok {fa : List He.Fa} {fn : List He.DefD} (c : He.SaysD fa fn K) (i : Nat) (hd : fn[i]? = some d) (h1 : d.dvs K = []) (h2 : d.kws K = []) (hb : Bd d ps) (S : FnScope Ns ps d.scope)
    (hp : ∀ (cdv : Value) (A : Around) (outer : List PySem.Env) (s : Shared) (H : Hp) (E : XK), RoomG k (A.deeper (envOfC d.qual d.scope s.heap.objs.size (He.fAd K d.at_) cdv)) → PSsD (cxd P w K mg base d Ns cdv A outer s H E) (WW E) (List.range ps.length) d.body ws)
    (hs : ∀ ns k x, fs ns k x → ns.length = ps.length → ws (startE Ns ns) (endsOf ps.length k) (xOf ps.length x)) : Ok P w K mg base d ps (k + 1) fs := by
  obtain ⟨fd, F⟩ := c.def_ i hd
  rw [h1, h2] at F
  exact ⟨fd, F, fn_d F S rfl hp hs, F.bindsN hb⟩
theorem Ok.mono {j : Nat} (h : Ok P w K mg base d ps j fs) (hj : j ≤ k) : Ok P w K mg base d ps k fs := by
  obtain ⟨fd, F, G, B⟩ := h.ex
  exact ⟨fd, F, G.mono hj, B⟩
end
theorem tk_d {P : Program} {w : World} {K : PySem.W.Frag} {mg : Str → Option Value} {base : Heap} {d : He.DefD} {Ns : List Str} {cdv : Value} {A : Around} {outer : List PySem.Env} {s : Shared} {H : Hp} {E : XK} : Takes (cxd P w K mg base d Ns cdv A outer s H E) (WW E) := takes_of rfl rfl rfl rfl
theorem tk_0 {X : Cx} : Takes X W0 := L2.takes0
section
variable {X : Cx} {W : WX} {d : He.DefD} {ps ks : List Str} {k n np : Nat} {fs : FS} {x : Str} {p pos : Pos} {e : Expr} {es : List Expr} {kws : List Keyword} {a b : WA} {pm : List Nat}
theorem pd_f (h : Ok X.prog X.w X.K X.mg X.base d ps k fs) (hr : RoomG k X.A) (hg : Gl X x) (hm : X.mg x = some (.ref (He.fAd X.K d.at_))) (tk : Takes X W)
    (ha : PAD X W (e :: es) a) (hdb : (x == ("__debug__" : Str)) = false := by decide) (he : starEach (e :: es) X.env = (false, eval e X.env) :: starEach es X.env := by rfl) (hpl : (backTo pos (starEach es X.env)).any (·.1) = false := by rfl) (hnp : ps.length = np := by rfl) :
    PD X W (.Call (.Name x p) (e :: es) [] pos) (wCall np fs a) := by
  subst hnp
  obtain ⟨fd, F, G, B⟩ := h.ex
  exact pd_call G hr hg hm F.kp B tk ha hdb he hpl
theorem pd_fK (h : Ok X.prog X.w X.K X.mg X.base d ps k fs) (hr : RoomG k X.A) (hg : Gl X x) (hm : X.mg x = some (.ref (He.fAd X.K d.at_))) (hb : Bk d ps n ks pm) (tk : Takes X W)
    (ha : PAD X W (e :: es) a) (hkw : PKD X W kws b) (hall : (backToKw pos (keywordEach kws X.env)).all (·.1.isSome) = true := by rfl) (hks : (backToKw pos (keywordEach kws X.env)).filterMap (·.1) = ks := by rfl)
    (hdb : (x == ("__debug__" : Str)) = false := by decide) (he : starEach (e :: es) X.env = (false, eval e X.env) :: starEach es X.env := by rfl)
    (hpl : ((backTo pos (starEach (e :: es) X.env)).any (·.1) || (backToKw pos (keywordEach kws X.env)).any (·.1.isNone)) = false := by rfl) (hnp : ps.length = np := by rfl) : PD X W (.Call (.Name x p) (e :: es) kws pos) (wCall np fs (aKw n ks.length pm a b)) := by
  subst hnp
  obtain ⟨fd, F, G, B⟩ := h.ex
  exact pd_callK G hr hg hm F.kp (kb_of F hb) tk ha hkw hall hks hdb he hpl
theorem pd_fK0 (h : Ok X.prog X.w X.K X.mg X.base d ps k fs) (hr : RoomG k X.A) (hg : Gl X x) (hm : X.mg x = some (.ref (He.fAd X.K d.at_))) (hb : Bk d ps 0 ks pm) (tk : Takes X W)
    (hkw : PKD X W kws b) (hall : (backToKw pos (keywordEach kws X.env)).all (·.1.isSome) = true := by rfl) (hks : (backToKw pos (keywordEach kws X.env)).filterMap (·.1) = ks := by rfl)
    (hdb : (x == ("__debug__" : Str)) = false := by decide) (hpl : ((backTo pos (starEach [] X.env)).any (·.1) || (backToKw pos (keywordEach kws X.env)).any (·.1.isNone)) = false := by rfl) (hnp : ps.length = np := by rfl) : PD X W (.Call (.Name x p) [] kws pos) (wCall np fs (aKw 0 ks.length pm aNil b)) := by
  subst hnp
  obtain ⟨fd, F, G, B⟩ := h.ex
  exact pd_callK0 G hr hg hm F.kp (kb_of F hb) tk hkw hall hks hdb hpl
/-- C(..), d its __init__ -/
theorem pd_mk {c : Str} (h : Ok X.prog X.w X.K X.mg X.base d ps k fs) (M : Mk X.K (He.ga X.K c) (He.fAd X.K d.at_)) (hr : RoomG (k + 1) X.A) (hg : Gl X x) (hm : X.mg x = some (.ref (He.ga X.K c))) (hb : Bk d ps (n + 1) ks (selfP pm)) (tk : Takes X W)
    (ha : PAD X W (e :: es) a) (hkw : PKD X W kws b) (hall : (backToKw pos (keywordEach kws X.env)).all (·.1.isSome) = true := by rfl) (hks : (backToKw pos (keywordEach kws X.env)).filterMap (·.1) = ks := by rfl)
    (hdb : (x == ("__debug__" : Str)) = false := by decide) (he : starEach (e :: es) X.env = (false, eval e X.env) :: starEach es X.env := by rfl)
    (hpl : ((backTo pos (starEach (e :: es) X.env)).any (·.1) || (backToKw pos (keywordEach kws X.env)).any (·.1.isNone)) = false := by rfl) (hnp : ps.length = np := by rfl) : PD X W (.Call (.Name x p) (e :: es) kws pos) (wMake c np fs (aKw n ks.length pm a b)) := by
  subst hnp
  obtain ⟨fd, F, G, B⟩ := h.ex
  exact pd_make M G hr hg hm (kb_of F hb) tk ha hkw hall hks hdb he hpl
theorem pd_mk0 {c : Str} (h : Ok X.prog X.w X.K X.mg X.base d ps k fs) (M : Mk X.K (He.ga X.K c) (He.fAd X.K d.at_)) (hr : RoomG (k + 1) X.A) (hg : Gl X x) (hm : X.mg x = some (.ref (He.ga X.K c))) (hb : Bk d ps (0 + 1) ks (selfP pm)) (tk : Takes X W)
    (hkw : PKD X W kws b) (hall : (backToKw pos (keywordEach kws X.env)).all (·.1.isSome) = true := by rfl) (hks : (backToKw pos (keywordEach kws X.env)).filterMap (·.1) = ks := by rfl)
    (hdb : (x == ("__debug__" : Str)) = false := by decide) (hpl : ((backTo pos (starEach [] X.env)).any (·.1) || (backToKw pos (keywordEach kws X.env)).any (·.1.isNone)) = false := by rfl) (hnp : ps.length = np := by rfl) : PD X W (.Call (.Name x p) [] kws pos) (wMake c np fs (aKw 0 ks.length pm aNil b)) := by
  subst hnp
  obtain ⟨fd, F, G, B⟩ := h.ex
  exact pd_make0 M G hr hg hm (kb_of F hb) tk hkw hall hks hdb hpl
variable {a' b' : Expr} {o1 o2 : WO} {c : Str} {ps2 : List Str}
theorem pd_len1 (h : Ok X.prog X.w X.K X.mg X.base d [x] k fs) (M : Meth X.K (He.ga X.K c) "__len__" (He.fAd X.K d.at_)) (hr : RoomG (k + 1) X.A) (hg : Gl X "len") (hm : X.mg "len" = none) (h1 : PDO X W0 e o1)
    (he : starEach [e] X.env = (false, eval e X.env) :: starEach [] X.env := by rfl) (hpl : (backTo pos (starEach [] X.env)).any (·.1) = false := by rfl) : PD X W (.Call (.Name "len" p) [e] [] pos) (wLenO c fs o1) := by
  obtain ⟨fd, F, G, B⟩ := h.ex
  exact pd_lenO M G hr B hg hm h1 he hpl
theorem pd_in1 {y : Str} (h : Ok X.prog X.w X.K X.mg X.base d [x, y] k fs) (M : Meth X.K (He.ga X.K c) "__contains__" (He.fAd X.K d.at_)) (hr : RoomG k X.A) (h1 : PDO X W0 a' o1) (h2 : PDO X W0 b' o2) (hm : behindInMarks .In b' = false := by rfl) : PD X W (.Compare a' [.In] [b'] pos) (wInO false c fs o1 o2) := by
  obtain ⟨fd, F, G, B⟩ := h.ex
  exact pd_inO M G hr B h1 h2 hm
theorem pd_notIn1 {y : Str} (h : Ok X.prog X.w X.K X.mg X.base d [x, y] k fs) (M : Meth X.K (He.ga X.K c) "__contains__" (He.fAd X.K d.at_)) (hr : RoomG k X.A) (h1 : PDO X W0 a' o1) (h2 : PDO X W0 b' o2) (hm : behindInMarks .NotIn b' = false := by rfl) : PD X W (.Compare a' [.NotIn] [b'] pos) (wInO true c fs o1 o2) := by
  obtain ⟨fd, F, G, B⟩ := h.ex
  exact pd_notInO M G hr B h1 h2 hm
theorem pt_in1 {y : Str} (h : Ok X.prog X.w X.K X.mg X.base d [x, y] k fs) (M : Meth X.K (He.ga X.K c) "__contains__" (He.fAd X.K d.at_)) (hr : RoomG k X.A) (h1 : PDO X W0 a' o1) (h2 : PDO X W0 b' o2) (hm : behindInMarks .In b' = false := by rfl) : PTD X W (.Compare a' [.In] [b'] pos) (wB (wInO false c fs o1 o2)) := by
  obtain ⟨fd, F, G, B⟩ := h.ex
  exact pt_inO M G hr B h1 h2 hm
theorem pt_notIn1 {y : Str} (h : Ok X.prog X.w X.K X.mg X.base d [x, y] k fs) (M : Meth X.K (He.ga X.K c) "__contains__" (He.fAd X.K d.at_)) (hr : RoomG k X.A) (h1 : PDO X W0 a' o1) (h2 : PDO X W0 b' o2) (hm : behindInMarks .NotIn b' = false := by rfl) : PTD X W (.Compare a' [.NotIn] [b'] pos) (wB (wInO true c fs o1 o2)) := by
  obtain ⟨fd, F, G, B⟩ := h.ex
  exact pt_notInO M G hr B h1 h2 hm
/-- built-ins by name -/
theorem pd_b {id : String} {r : List V → Hp → VK → Prop} {f : FL} (hc : CallR X (.builtin id) r) (hr : SndL X.K r f) (hg : Gl X x) (hm : X.mg x = none) (hv : bootBuiltins x = some (.builtin id)) (ha : PAD X W (e :: es) a) (hn : x ≠ "__name__" := by decide) (hdb : (x == ("__debug__" : Str)) = false := by decide)
    (he : starEach (e :: es) X.env = (false, eval e X.env) :: starEach es X.env := by rfl) (hpl : (backTo pos (starEach es X.env)).any (·.1) = false := by rfl) : PD X W (.Call (.Name x p) (e :: es) [] pos) (wCB f a) := pd_callB hc hr hg hm hv ha hn hdb he hpl
theorem pd_ty {T : String} {r : List V → Hp → VK → Prop} {f : FL} (hc : CallR X (.type T) r) (hr : SndL X.K r f) (hg : Gl X x) (hm : X.mg x = none) (hv : bootBuiltins x = some (.type T)) (ha : PAD X W (e :: es) a) (hn : x ≠ "__name__" := by decide) (hdb : (x == ("__debug__" : Str)) = false := by decide)
    (he : starEach (e :: es) X.env = (false, eval e X.env) :: starEach es X.env := by rfl) (hpl : (backTo pos (starEach es X.env)).any (·.1) = false := by rfl) : PD X W (.Call (.Name x p) (e :: es) [] pos) (wCB f a) := pd_callTy hc hr hg hm hv ha hn hdb he hpl
end

/-! ### xs[::-1] -/
def wRevL (o : WO) : WE := fun env k x => o env (fun a e => match (a.get e).bind flat with
  | some (.lst l) => k (.lst (l.reverse.map N.d)) e
  | _ => False) x
section
variable {K : PySem.W.Frag} {W : WX} {X : Cx}
theorem reps_reverse {Hf : Hp} : ∀ {l : List D} {vs : List V}, Reps K Hf l vs → Reps K Hf l.reverse vs.reverse
  | [], vs, h => by
    unfold Reps at h
    rw [h]
    show Reps K Hf [] []
    unfold Reps
    rfl
  | d :: l, vs, h => by
    unfold Reps at h
    obtain ⟨v, ws, e1, e2, e3⟩ := h
    rw [e1, List.reverse_cons, List.reverse_cons]
    refine (reps_reverse e3).append ?_
    unfold Reps
    refine ⟨v, [], rfl, e2, ?_⟩
    unfold Reps
    rfl
theorem pd_revL {e : Expr} {o : WO} {k : Nat} {p1 p2 p3 pos : Pos} (h : PDO X W e o) : PD X W (.Subscript e (.Slice none none (some (.UnaryOp .USub (.Constant (.int 1) k p1) p2)) p3) pos) (wRevL o) := by
  obtain ⟨t, a1, a2⟩ := h
  refine ⟨_, pe_revL a1, ?_⟩
  intro σ H Fr Hf env ts k x Q s c hw q hx
  refine a2 σ H Fr Hf env ts _ x _ s c hw (fun val e v Hf' H' hk sm c' vi => ?_) hx
  split at hk
  · rename_i l hl
    obtain ⟨p, vs, rfl, e1, r⟩ := val_flat vi hl
    exact ⟨p, vs, rfl, SqL.of e1, fun b hb => q _ e _ Hf' _ hk sm c' (vi.rest.newL hb (reps_reverse r))⟩
  · exact hk.elim
end
/-! ### a value, frozen -/
def wFr (w : WE) : WE := fun env k x => w env (fun n e => k (.d n.view) e) x
section
variable {K : PySem.W.Frag} {W : WX} {X : Cx}
theorem pd_fr {e : Expr} {w : WE} (h : PD X W e w) : PD X W e (wFr w) := by
  obtain ⟨t, a1, a2⟩ := h
  refine ⟨t, a1, ?_⟩
  intro σ H Fr Hf env ts k x Q s c hw q hx
  refine a2 σ H Fr Hf env ts _ x Q s c hw (fun n e v Hf' H' hk sm c' s' => ?_) hx
  obtain ⟨Hf2, sm2, s2⟩ := s'.frz
  exact q _ e v Hf2 H' hk (sm.trans sm2) c' s2
end
/-! ### a if t else b, as a test -/
def wIfT (t a b : WT) : WT := fun env k x => t env (fun c e => if c = true then a e k x else b e k x) x
def tIfT (t a b : TT) : TT := fun σ H Q => t σ H fun c H1 => if c = true then a σ H1 Q else b σ H1 Q
section
variable {K : PySem.W.Frag} {W : WX} {X : Cx}
theorem pt_ifT {c a b : Expr} {tc ta tb : TT} {pos : Pos} (hc : PT X c tc) (ha : PT X a ta) (hb : PT X b tb) : PT X (.IfExp c a b pos) (tIfT tc ta tb) := by
  refine ⟨fun pins sh sl Hp Q I hw => isTrue_IfExp (thn (hc.run pins sh sl Hp _ I hw) fun d s1 ⟨H1, I1, q1⟩ => ?_)⟩
  cases d with
  | true => exact ha.run pins s1 sl H1 Q I1 q1
  | false => exact hb.run pins s1 sl H1 Q I1 q1
theorem ptd_if {c a b : Expr} {t u v : WT} {pos : Pos} (hc : PTD X W c t) (ha : PTD X W a u) (hb : PTD X W b v) : PTD X W (.IfExp c a b pos) (wIfT t u v) := by
  obtain ⟨tc, c1, c2⟩ := hc
  obtain ⟨ta, a1, a2⟩ := ha
  obtain ⟨tb, b1, b2⟩ := hb
  refine ⟨_, pt_ifT c1 a1 b1, ?_⟩
  intro σ H Fr Hf env ts k x Q s c hw q hx
  refine c2 σ H Fr Hf env ts _ x _ s c hw (fun d e Hf' H' hk sm c' s' => ?_) hx
  cases d with
  | true =>
    rw [if_pos rfl] at hk ⊢
    exact a2 σ H' Fr Hf' e ts k x Q s' c' hk (fun b2 e2 Hf2 H2 hk sm2 c2 s2 => q b2 e2 Hf2 H2 hk (sm.trans sm2) c2 s2) (hx.mono sm)
  | false =>
    rw [if_neg Bool.false_ne_true] at hk ⊢
    exact b2 σ H' Fr Hf' e ts k x Q s' c' hk (fun b2 e2 Hf2 H2 hk sm2 c2 s2 => q b2 e2 Hf2 H2 hk (sm.trans sm2) c2 s2) (hx.mono sm)
end

/-! ### words, read -/
section
variable {env : Env} {k : N → Env → Prop} {kt : Bool → Env → Prop} {ko : Val → Env → Prop} {ka : List Val → Env → Prop} {x : XP} {E : ED} {w u v : WE} {o o1 o2 o3 : WO} {t t1 t2 : WT} {a b : WA} {f : F1} {f2 : F2}
theorem onS_iff {α : Type} {o : Option α} {k : α → Prop} : onS o k ↔ ∃ a, o = some a ∧ k a := ⟨onS_elim, fun ⟨a, e, h⟩ => by rw [e]; exact h⟩
@[simp] theorem join_some' {α : Type} (a : α) : Option.join (some (some a)) = some a := rfl
@[simp] theorem join_none' {α : Type} : Option.join (some (none : Option α)) = none := rfl
@[simp] theorem join_none2 {α : Type} : Option.join (none : Option (Option α)) = none := rfl
@[simp] theorem wVar_eq (i : Nat) : wVar i env k x = onS (env[i]?).join fun n => k (.d n.view) (env.set i (some (.d n.view))) := rfl
@[simp] theorem wMv_eq (i : Nat) : wMv i env k x = onS (env[i]?).join fun n => k n (env.set i none) := rfl
@[simp] theorem oS_eq (i : Nat) : oS i env ko x = onS (env[i]?).join fun _ => ko (.s i) env := rfl
@[simp] theorem oE_eq : oE w env ko x = w env (fun n e => ko (.t n) e) x := rfl
@[simp] theorem oF_eq : oF w env ko x = w env (fun n e => ko (.t (.d n.view)) e) x := rfl
@[simp] theorem get_s (i : Nat) : Val.get env (.s i) = (env[i]?).join := rfl
@[simp] theorem get_t (n : N) : Val.get env (.t n) = some n := rfl
@[simp] theorem wC_eq (d : D) : wC d env k x = k (.d d) env := rfl
@[simp] theorem wOp1_eq : wOp1 f o env k x = o env (fun a e => onS (a.get e) fun n => onS (f n) fun r => k r e) x := rfl
@[simp] theorem wOp2_eq : wOp2 f2 o1 o2 env k x = o1 env (fun a e1 => o2 e1 (fun b e2 => onS (a.get e2) fun n => onS (b.get e2) fun m => onS (f2 n m) fun r => k r e2) x) x := rfl
@[simp] theorem wChain_eq (f g : F2) : wChain f g o1 o2 o3 env k x = o1 env (fun a e1 => o2 e1 (fun b e2 => onS (a.get e2) fun n => onS (b.get e2) fun m => onS (f n m) fun r => onS (match r with | .d (.bl t) => some t | _ => none) fun t =>
  if t = true then o3 e2 (fun c e3 => onS (b.get e3) fun m => onS (c.get e3) fun p => onS (g m p) fun r => k r e3) x else k (.d (.bl false)) e2) x) x := rfl
@[simp] theorem wB_eq : wB w env kt x = w env (fun n e => onS (asBl n) fun b => kt b e) x := rfl
@[simp] theorem asBl_d (b : Bool) : asBl (.d (.bl b)) = some b := rfl
@[simp] theorem wTr_eq : wTr o env kt x = o env (fun a e => onS ((a.get e).bind flat) fun n => onS (truD n) fun b => kt b e) x := rfl
@[simp] theorem truD_bl (b : Bool) : truD (.bl b) = some b := rfl
@[simp] theorem truD_non : truD .non = some false := rfl
@[simp] theorem truD_int (i : Int) : truD (.int i) = some (i != 0) := rfl
@[simp] theorem wNot_eq : wNot t env kt x = t env (fun b e => kt (!b) e) x := rfl
@[simp] theorem wAnd_eq : wAnd t1 t2 env kt x = t1 env (fun b e => if b = true then t2 e kt x else kt false e) x := rfl
@[simp] theorem wOr_eq : wOr t1 t2 env kt x = t1 env (fun b e => if b = true then kt true e else t2 e kt x) x := rfl
@[simp] theorem wIfT_eq : wIfT t t1 t2 env kt x = t env (fun c e => if c = true then t1 e kt x else t2 e kt x) x := rfl
@[simp] theorem wAndV_eq : wAndV w u env k x = w env (fun n e => onS ((flat n).bind truD) fun b => if b = true then u e k x else k n e) x := rfl
@[simp] theorem wOrV_eq : wOrV w u env k x = w env (fun n e => onS ((flat n).bind truD) fun b => if b = true then k n e else u e k x) x := rfl
@[simp] theorem wNotV_eq : wNotV o env k x = o env (fun a e => onS ((a.get e).bind flat) fun n => onS (truD n) fun b => k (.d (.bl !b)) e) x := rfl
@[simp] theorem wIf_eq : wIf t w u env k x = t env (fun c e => if c = true then w e k x else u e k x) x := rfl
@[simp] theorem wBor_eq : wBor w env k x = w (frzE env) (fun r _ => clean r = true ∧ k r env) (fun e _ => xclean e = true ∧ x e env) := rfl
@[simp] theorem wBorT_eq : wBorT t env kt x = t (frzE env) (fun b _ => kt b env) (fun e _ => xclean e = true ∧ x e env) := rfl
@[simp] theorem wFr_eq : wFr w env k x = w env (fun n e => k (.d n.view) e) x := rfl
@[simp] theorem aNil_eq : aNil env ka x = ka [] env := rfl
@[simp] theorem aCons_eq : aCons o a env ka x = o env (fun val e => a e (fun vals e2 => ka (val :: vals) e2) x) x := rfl
@[simp] theorem aStar_eq : aStar w a env ka x = w env (fun n e => onS (seqOf n.view) fun l => a e (fun vals e2 => ka (l.map (fun d => Val.t (.d d)) ++ vals) e2) x) x := rfl
@[simp] theorem wLst_eq : wLst a env k x = a env (fun vals e => onS (allT vals) fun ns => ns.length ≤ sizeLine ∧ k (.lst ns) e) x := rfl
@[simp] theorem wTup_eq : wTup a env k x = a env (fun vals e => onS (allT vals) fun ns => ns.length ≤ sizeLine ∧ k (.tup ns) e) x := rfl
@[simp] theorem allT_nil : allT [] = some [] := rfl
@[simp] theorem allT_t (n : N) (l : List Val) : allT (.t n :: l) = (allT l).map (n :: ·) := rfl
@[simp] theorem wCB_eq (f : FL) : wCB f a env k x = a env (fun vals e => onS (getAll e vals) fun ns => onS (f ns) fun r => k r e) x := rfl
@[simp] theorem getAll_nil' : getAll env [] = some [] := rfl
@[simp] theorem getAll_cons' (val : Val) (l : List Val) : getAll env (val :: l) = (val.get env).bind fun n => (getAll env l).map (n :: ·) := rfl
@[simp] theorem upL_eq (g : GL) (ns : List N) : upL g ns = (flats ns).bind g := rfl
@[simp] theorem flats_nil : flats [] = some [] := rfl
@[simp] theorem flats_cons (n : N) (l : List N) : flats (n :: l) = (flat n).bind fun d => (flats l).map (d :: ·) := rfl
@[simp] theorem wIsi_eq (ns : List String) : wIsi o ns env k x = o env (fun a e => onS ((a.get e).bind flat) fun d => isaOk d = true ∧ k (.d (.bl (ns.any (isaB d)))) e) x := rfl
@[simp] theorem wCall_eq (np : Nat) (fs : FS) : wCall np fs a env k x = a env (fun vals e => vals.length = np ∧ onS (takeAll e vals) fun p => fs p.1 (fun r outs => k r (putBack p.2 vals outs)) (fun ex outs => onS (exUp vals ex) fun ex' => x ex' (putBack p.2 vals outs))) x := rfl
@[simp] theorem takeAll_nil' : takeAll env [] = some ([], env) := rfl
@[simp] theorem takeAll_t' (n : N) (l : List Val) : takeAll env (.t n :: l) = (takeAll env l).map fun p => (n :: p.1, p.2) := rfl
@[simp] theorem takeAll_sd (i : Nat) (l : List Val) (y : D) (h : (env[i]?).join = some (.d y)) : takeAll env (.s i :: l) = (takeAll env l).map fun p => (.d y :: p.1, p.2) := by
  rw [takeAll, h]
@[simp] theorem takeAll_sl (i : Nat) (l : List Val) (m : List N) (h : (env[i]?).join = some (.lst m)) : takeAll env (.s i :: l) = (takeAll (env.set i none) l).map fun p => (.lst m :: p.1, p.2) := by
  rw [takeAll, h]
@[simp] theorem takeAll_st' (i : Nat) (l : List Val) (m : List N) (h : (env[i]?).join = some (.tup m)) : takeAll env (.s i :: l) = (takeAll (env.set i none) l).map fun p => (.tup m :: p.1, p.2) := by
  rw [takeAll, h]
@[simp] theorem takeAll_sk (i : Nat) (l : List Val) (ks : List Key) (m : List N) (h : (env[i]?).join = some (.dic ks m)) : takeAll env (.s i :: l) = (takeAll (env.set i none) l).map fun p => (.dic ks m :: p.1, p.2) := by
  rw [takeAll, h]
@[simp] theorem takeAll_so (i : Nat) (l : List Val) (c : Str) (fs : List Str) (m : List N) (h : (env[i]?).join = some (.obj c fs m)) : takeAll env (.s i :: l) = (takeAll (env.set i none) l).map fun p => (.obj c fs m :: p.1, p.2) := by
  rw [takeAll, h]
@[simp] theorem takeAll_sx (i : Nat) (l : List Val) (φ : Addr → Heap → Prop) (h : (env[i]?).join = some (.ext φ)) : takeAll env (.s i :: l) = (takeAll (env.set i none) l).map fun p => (.ext φ :: p.1, p.2) := by
  rw [takeAll, h]
@[simp] theorem putBack_nil' (os : Env) : putBack env [] os = env := by cases os <;> rfl
@[simp] theorem putBack_t' (n : N) (l : List Val) (o : Option N) (os : Env) : putBack env (.t n :: l) (o :: os) = putBack env l os := rfl
@[simp] theorem putBack_sn (i : Nat) (l : List Val) (o : Option N) (os : Env) (h : (env[i]?).join = none) : putBack env (.s i :: l) (o :: os) = putBack (env.set i o) l os := by
  rw [putBack, h]
@[simp] theorem putBack_ss (i : Nat) (l : List Val) (o : Option N) (os : Env) (n : N) (h : (env[i]?).join = some n) : putBack env (.s i :: l) (o :: os) = putBack env l os := by
  rw [putBack, h]
@[simp] theorem wsNil_eq : wsNil env E x = E.nx env := rfl
@[simp] theorem wsCons_eq (a b : WS) : wsCons a b env E x = a env { E with nx := fun e => b e E x } x := rfl
@[simp] theorem wsEx_eq : wsEx w env E x = w env (fun _ e => E.nx e) x := rfl
@[simp] theorem wsRet_eq : wsRet w env E x = w env (fun n e => E.rt n e) x := rfl
@[simp] theorem wsRetN_eq : wsRetN env E x = E.rt (.d .non) env := rfl
@[simp] theorem wsIf_eq (a b : WS) : wsIf t a b env E x = t env (fun c e => if c = true then a e E x else b e E x) x := rfl
@[simp] theorem wsBrk_eq : wsBrk env E x = E.bk env := rfl
@[simp] theorem wsCont_eq : wsCont env E x = E.ct env := rfl
@[simp] theorem wsSet_eq (i : Nat) : wsSet i w env E x = w env (fun n e => E.nx (e.set i (some n))) x := rfl
@[simp] theorem wsAsg_eq (g : GT) : wsAsg g w env E x = w env (fun n e => g n e E.nx) x := rfl
@[simp] theorem wsPar_eq (i j : Nat) : wsPar i j a env E x = a env (fun vals e => onS (allT vals) fun ns => match ns with
  | [n, m] => E.nx ((e.set i (some n)).set j (some m))
  | _ => False) x := rfl
@[simp] theorem wsPar3_eq (i j l : Nat) : wsPar3 i j l a env E x = a env (fun vals e => onS (allT vals) fun ns => match ns with
  | [n, m, o] => E.nx (((e.set i (some n)).set j (some m)).set l (some o))
  | _ => False) x := rfl
@[simp] theorem gtNm_eq (i : Nat) (n : N) (kk : Env → Prop) : gtNm i n env kk = kk (env.set i (some n)) := rfl
@[simp] theorem gtsNil_eq (ns : List N) (kk : Env → Prop) : gtsNil ns env kk = (ns = [] ∧ kk env) := rfl
@[simp] theorem gtsCons_eq (g : GT) (r : GTs) (n : N) (l : List N) (kk : Env → Prop) : gtsCons g r (n :: l) env kk = g n env (fun e => r l e kk) := rfl
@[simp] theorem gtTp_eq (m : Nat) (g : GTs) (n : N) (kk : Env → Prop) : gtTp m g n env kk = onS (kids n) fun l => l.length = m ∧ g l env kk := rfl
@[simp] theorem wsFor_eq (wi : WI) (g : GT) (b : WS) : wsFor wi g b env E x = wi env (fun l e => forL g b x l e E) x := rfl
@[simp] theorem iSeq_eq (kk : List D → Env → Prop) : iSeq w env kk x = w env (fun n e => onS (seqOf n.view) fun l => kk l e) x := rfl
@[simp] theorem iRg1_eq (kk : List D → Env → Prop) : iRg1 a env kk x = a env (fun vals e => onS (getAll e vals) fun ns => match ns with
  | [.d (.int j)] => (-(2 ^ 62) ≤ j ∧ j < 2 ^ 62) ∧ kk (rangeD 0 j.toNat) e
  | _ => False) x := rfl
@[simp] theorem iRg2_eq (kk : List D → Env → Prop) : iRg2 a env kk x = a env (fun vals e => onS (getAll e vals) fun ns => match ns with
  | [.d (.int i), .d (.int j)] => (-(2 ^ 62) ≤ i ∧ i < 2 ^ 62 ∧ -(2 ^ 62) ≤ j ∧ j < 2 ^ 62) ∧ kk (rangeD i (j - i).toNat) e
  | _ => False) x := rfl
@[simp] theorem iEnm_eq (kk : List D → Env → Prop) : iEnm w env kk x = w env (fun n e => match n.view with
  | .lst l => kk (enumD l) e
  | _ => False) x := rfl
@[simp] theorem wLc_eq (wi : WI) (g : GT) (own : List Nat) : wLc wi g t w own env k x = wi env (fun l e => lcL g t w own l [] e (fun acc e2 => k (.lst acc) (wipeN e2 own))) x := rfl
@[simp] theorem wYes_eq : wYes env kt x = kt true env := rfl
@[simp] theorem wipeN_nil (e : Env) : wipeN e [] = e := rfl
@[simp] theorem wipeN_cons (e : Env) (i : Nat) (vs : List Nat) : wipeN e (i :: vs) = (wipeN e vs).set i none := rfl
@[simp] theorem wApp_eq (i : Nat) : wApp i w env k x = onS ((env[i]?).join) fun m => isL m = true ∧ w env (fun n e => match (e[i]?).join with
  | some (.lst ns) => ns.length < sizeLine ∧ k (.d .non) (e.set i (some (.lst (ns ++ [n]))))
  | _ => False) x := rfl
@[simp] theorem isL_lst (l : List N) : isL (.lst l) = true := rfl
@[simp] theorem wsPutL_eq (i : Nat) : wsPutL i o w env E x = w env (fun n e => onS ((e[i]?).join) fun m => isL m = true ∧ o e (fun val e2 => onS ((val.get e2).bind flat) fun d => match d, (e2[i]?).join with
  | .int k, some (.lst ns) => onS (ixN ns.length k) fun j => E.nx (e2.set i (some (.lst (ns.set j n))))
  | _, _ => False) x) x := rfl
@[simp] theorem wsFld_eq (at_ : Str → Str → Bool) (i : Nat) (f : Str) : wsFld at_ i f w env E x = w env (fun n e => match (e[i]?).join with
  | some (.obj c fs l) => at_ c f = true ∧ f ∉ fs ∧ fs.length < 1000 ∧ E.nx (e.set i (some (.obj c (fs ++ [f]) (l ++ [n]))))
  | _ => False) x := rfl
@[simp] theorem wSl_eq (lo hi : WP) : wSl o lo hi env k x = o env (fun a e => lo e (fun l e1 => hi e1 (fun h e2 => onS ((a.get e2).bind flat) fun d => onS (gSl d l h) fun r => k r e2) x) x) x := rfl
@[simp] theorem pNo_eq (kk : Option Int → Env → Prop) : pNo env kk x = kk none env := rfl
@[simp] theorem pSome_eq (kk : Option Int → Env → Prop) : pSome w env kk x = w env (fun n e => match n with
  | .d (.int i) => kk (some i) e
  | _ => False) x := rfl
@[simp] theorem wLRg_eq (r : WR) : wLRg r env k x = r env (fun a b e => RgOk a b ∧ k (.lst ((rangeD a (b - a).toNat).map N.d)) e) x := rfl
@[simp] theorem wRg1_eq (kk : Int → Int → Env → Prop) : wRg1 w env kk x = w env (fun n e => match n with
  | .d (.int j) => kk 0 j e
  | _ => False) x := rfl
@[simp] theorem wRg2_eq (kk : Int → Int → Env → Prop) : wRg2 w u env kk x = w env (fun n e => u e (fun m e2 => match n, m with
  | .d (.int i), .d (.int j) => kk i j e2
  | _, _ => False) x) x := rfl
@[simp] theorem wLenO_eq (c : Str) (fs : FS) : wLenO c fs o env k x = wCall 1 (fsO c fs) (aCons o aNil) env (fun r e => ∃ n : Int, r = .d (.int n) ∧ 0 ≤ n ∧ n < 2 ^ 63 ∧ k r e) noX := rfl
@[simp] theorem wInO_eq (neg : Bool) (c : Str) (fs : FS) : wInO neg c fs o1 o2 env k x = wCall 2 (fsO c fs) (aPick [1, 0] (aCons o1 (aCons o2 aNil))) env (fun r e => ∃ b : Bool, r = .d (.bl b) ∧ k (.d (.bl (if neg then !b else b))) e) noX := rfl
@[simp] theorem fsO_eq (c : Str) (fs : FS) (ns : List N) : fsO c fs ns k x = ((∃ n r cs l, ns = n :: r ∧ N.view n = .obj c cs l) ∧ fs ns k x) := rfl
@[simp] theorem aPick_eq (p : List Nat) : aPick p a env ka x = a env (fun vals e => p.Perm (List.range vals.length) ∧ ka (pick p vals) e) x := rfl
@[simp] theorem aKw_eq (n m : Nat) (pm : List Nat) : aKw n m pm a b env ka x = a env (fun vals e => b e (fun vals2 e2 => (vals.length = n ∧ vals2.length = m) ∧ pm.Perm (List.range (vals ++ vals2).length) ∧ ka (pick pm (vals ++ vals2)) e2) x) x := rfl
@[simp] theorem wMake_eq (c : Str) (np : Nat) (fs : FS) : wMake c np fs a env k x = a env (fun vals e => vals.length + 1 = np ∧ onS (takeAll e vals) fun p => fs (.obj c [] [] :: p.1) (fun r outs => r = .d .non ∧ (match outs with
  | some o :: os => k o (putBack p.2 vals os)
  | _ => False)) (fun ex outs => onS (exUpM vals ex) fun ex' => x ex' (putBack p.2 vals outs.tail))) x := rfl
@[simp] theorem wLenSet_eq : wLenSet o env k x = o env (fun a e => onS ((a.get e).bind flat) fun d => onS (seqI d) fun ns => ns.length < 4000 ∧ k (.d (.int ((ddp ns).length : Nat))) e) x := rfl
@[simp] theorem wRevL_eq : wRevL o env k x = o env (fun a e => match (a.get e).bind flat with
  | some (.lst l) => k (.lst (l.reverse.map N.d)) e
  | _ => False) x := rfl
end
theorem forL_nil (g : GT) (b : WS) (x : XP) (env : Env) (E : ED) : forL g b x [] env E = E.nx env := rfl
theorem forL_cons (g : GT) (b : WS) (x : XP) (d : D) (l : List D) (env : Env) (E : ED) : forL g b x (d :: l) env E = g (.d d) env fun e1 => b e1 { E with nx := fun e2 => forL g b x l e2 E, ct := fun e2 => forL g b x l e2 E, bk := E.nx } x := rfl
/-! ### contracts of functions that only look -/
def pureS (f : List D → Option D) : FS := fun ns k _ => onS (f (ns.map N.view)) fun r => scalD r = true ∧ k (.d r) (ns.map some)
@[simp] theorem pureS_eq (f : List D → Option D) (ns : List N) (k : N → Env → Prop) (x : XP) : pureS f ns k x = onS (f (ns.map N.view)) fun r => scalD r = true ∧ k (.d r) (ns.map some) := rfl

/-! ### comprehensions, over values -/
/-- what one turn gives: kk's word of what is kept -/
theorem lcL_opt {g : GT} {t : WT} {w : WE} {own : List Nat} {E0 : Env} (f : D → Option N) : ∀ {l : List D} {acc : List N} {e : Env} {k : List N → Env → Prop},
    (∀ d ∈ l, ∀ kk : Option N → Env → Prop, (∀ e', wipeN e' own = E0 → kk (f d) e') → g (.d d) E0 fun e1 => t e1 (fun b e2 => if b = true then w e2 (fun n e3 => kk (some n) e3) noX else kk none e2) noX) →
    acc.length + l.length ≤ sizeLine → wipeN e own = E0 → (∀ e', wipeN e' own = E0 → k (acc ++ l.filterMap f) e') → lcL g t w own l acc e k
  | [], acc, e, k, _, _, he, hk => by
    have := hk e he
    simpa [lcL] using this
  | d :: l, acc, e, k, h, hl, he, hk => by
    have ih : ∀ acc' : List N, acc'.length + l.length ≤ sizeLine → ∀ e', wipeN e' own = E0 → (∀ e'', wipeN e'' own = E0 → k (acc' ++ l.filterMap f) e'') → lcL g t w own l acc' e' k :=
      fun acc' h1 e' h2 h3 => lcL_opt f (fun d hd => h d (List.mem_cons_of_mem _ hd)) h1 h2 h3
    show g (.d d) (wipeN e own) fun e1 => t e1 (fun b e2 => if b = true then w e2 (fun n e3 => acc.length < sizeLine ∧ lcL g t w own l (acc ++ [n]) e3 k) noX else lcL g t w own l acc e2 k) noX
    rw [he]
    have hl' : acc.length + (l.length + 1) ≤ sizeLine := by simpa using hl
    refine h d List.mem_cons_self (fun o e3 => match o with | some n => acc.length < sizeLine ∧ lcL g t w own l (acc ++ [n]) e3 k | none => lcL g t w own l acc e3 k) fun e' h' => ?_
    cases q : f d with
    | none =>
      refine ih acc (by omega) e' h' fun e'' h'' => ?_
      have := hk e'' h''
      rwa [List.filterMap_cons, q] at this
    | some n =>
      refine ⟨by omega, ih (acc ++ [n]) (by rw [List.length_append, List.length_singleton]; omega) e' h' fun e'' h'' => ?_⟩
      have := hk e'' h''
      rw [List.filterMap_cons, q] at this
      simpa using this
theorem lcL_map {g : GT} {w : WE} {own : List Nat} {E0 : Env} (f : D → N) {l : List D} {e : Env} {k : List N → Env → Prop}
    (h : ∀ d ∈ l, ∀ kk : N → Env → Prop, (∀ e', wipeN e' own = E0 → kk (f d) e') → g (.d d) E0 fun e1 => w e1 (fun n e3 => kk n e3) noX)
    (hl : l.length ≤ sizeLine) (he : wipeN e own = E0) (hk : ∀ e', wipeN e' own = E0 → k (l.map f) e') : lcL g wYes w own l [] e k := by
  refine lcL_opt (fun d => some (f d)) (fun d hd kk hkk => ?_) (by simpa using hl) he fun e' h' => ?_
  · exact h d hd (fun n e => kk (some n) e) hkk
  · simpa using hk e' h'
theorem big_sizeLine : 1000000 ≤ sizeLine := by rw [sizeLine_eq]; omega

/-! ### append to a list that is held in a held tuple -/
section
variable {K : PySem.W.Frag} {W : WX} {X : Cx} {Fr Hf H : Hp}
theorem repNs_app {x : D} {v : V} (hx : Rep K Hf x v) : ∀ {l : List N} {vs : List V} {A : List Addr} {j : Nat} {ms : List N}, RepNs K Hf H l vs A → A.Nodup → l[j]? = some (.lst ms) →
    ∃ q us, vs[j]? = some (.ref q) ∧ q ∈ A ∧ H q = some (.lst us) ∧ us.length = ms.length ∧ RepNs K Hf (upd H q (.lst (us ++ [v]))) (l.set j (.lst (ms ++ [.d x]))) vs A
  | [], _, _, _, _, _, _, h => by simp at h
  | m :: l, vs, A, 0, ms, h, nd, e => by
    simp at e
    subst e
    unfold RepNs at h
    obtain ⟨u, ws, A1, A2, e1, e2, e3, e4⟩ := h
    unfold RepN at e3
    obtain ⟨q, us, B, f1, f2, f3, f4⟩ := e3
    subst e1 e2 f1 f2
    have np : q ∉ B ++ A2 := (List.nodup_cons.mp (by simpa using nd)).1
    refine ⟨q, us, rfl, by simp, f3, f4.length, ?_⟩
    rw [List.set_cons_zero]
    unfold RepNs
    refine ⟨_, ws, q :: B, A2, rfl, rfl, ?_, RepNs.stay (Same.refl _) _ _ _ e4 fun a ha => upd_ne fun z => np (by rw [← z]; exact List.mem_append_right _ ha)⟩
    unfold RepN
    refine ⟨q, _, B ++ [], rfl, by simp, upd_same, ?_⟩
    refine repNs_append (RepNs.stay (Same.refl _) _ _ _ f4 fun a ha => upd_ne fun z => np (by rw [← z]; exact List.mem_append_left _ ha)) ?_
    unfold RepNs
    refine ⟨v, [], [], [], rfl, rfl, ?_, ?_⟩
    · unfold RepN
      exact ⟨rfl, hx⟩
    · unfold RepNs
      exact ⟨rfl, rfl⟩
  | m :: l, vs, A, j + 1, ms, h, nd, e => by
    unfold RepNs at h
    obtain ⟨u, ws, A1, A2, e1, e2, e3, e4⟩ := h
    subst e1 e2
    have nd1 := List.nodup_append.mp nd
    obtain ⟨q, us, g1, g2, g3, g4, g5⟩ := repNs_app hx (j := j) e4 nd1.2.1 (by simpa using e)
    refine ⟨q, us, by simpa using g1, List.mem_append_right _ g2, g3, g4, ?_⟩
    rw [List.set_cons_succ]
    unfold RepNs
    exact ⟨u, ws, A1, A2, rfl, rfl, RepN.stay (Same.refl _) _ _ _ e3 fun a ha => upd_ne fun z => (nd1.2.2 a ha q g2) z, g5⟩
theorem St.appAt {r : V} {ns : List N} {j : Nat} {ms : List N} {x : D} {v : V} {qs : List (V × N)} (s : St K Fr Hf H ((r, .tup ns) :: qs)) (hj : ns[j]? = some (.lst ms)) (hx : Rep K Hf x v) :
    ∃ p vs q us, r = .ref p ∧ H p = some (.tup vs) ∧ vs.length = ns.length ∧ vs[j]? = some (.ref q) ∧ H q = some (.lst us) ∧ us.length = ms.length ∧ St K Fr Hf (upd H q (.lst (us ++ [v]))) ((r, .tup (ns.set j (.lst (ms ++ [.d x])))) :: qs) := by
  obtain ⟨A, rr, nd, d⟩ := s.own
  unfold RepPs at rr
  obtain ⟨A1, A2, eA, r1, r2⟩ := rr
  unfold RepN at r1
  obtain ⟨p, vs, B, e1, e2, e3, e4⟩ := r1
  subst e1 e2
  have hA : A = p :: (B ++ A2) := by rw [eA]; simp
  have nd0 := nd
  rw [hA] at nd
  have np := (List.nodup_cons.mp nd).1
  have nd1 := List.nodup_append.mp (List.nodup_cons.mp nd).2
  obtain ⟨q, us, g1, g2, g3, g4, g5⟩ := repNs_app hx e4 nd1.1 hj
  have dq := d q (by rw [hA]; simp [g2])
  have kF : ∀ {G : Hp} {b : Addr} {u : HO}, G q = none → G b = some u → b ≠ q := fun {G b u} g h z => by rw [z, g] at h; cases h
  refine ⟨p, vs, q, us, rfl, e3, e4.length, g1, g3, g4, fun b u h => by rw [upd_ne (kF dq.1 h)]; exact s.ex b u h, fun b u h => by rw [upd_ne (kF dq.2 h)]; exact s.fr b u h, s.dj, A, ?_, nd0, d⟩
  unfold RepPs
  refine ⟨p :: B, A2, eA, ?_, r2.stay (Same.refl _) fun a ha => upd_ne fun z => (nd1.2.2 q g2 a ha) z.symm⟩
  unfold RepN
  exact ⟨p, vs, B, rfl, rfl, by rw [upd_ne fun z => np (by rw [z]; exact List.mem_append_left _ g2)]; exact e3, g5⟩
def wAppAt (i j : Nat) (z : Str) : WE := fun env k _ => match (env[i]?).join with
  | some (.tup ns) => (match ns[j]? with
    | some (.lst ms) => ms.length < sizeLine ∧ k (.d .non) (env.set i (some (.tup (ns.set j (.lst (ms ++ [.d (.str z)]))))))
    | _ => False)
  | _ => False
theorem runs_wAppAt {i j : Nat} {z : Str} : Runs K W (wAppAt i j z) (tBM K "list" rAppend (tOp (rIx K) (tVar i) (tC (.int j))) (tCons (tC (.str z)) tNil)) := by
  intro σ H Fr Hf env ts k x Q s c hw q hx
  unfold wAppAt at hw
  split at hw
  · rename_i ns hi
    split at hw
    · rename_i ms hj
      obtain ⟨hz, hk⟩ := hw
      have hi := join_some hi
      obtain ⟨v0, hv0⟩ := c.has i _ hi
      have s1 := s.perm (List.Perm.append_left ts (slots_take hv0 hi))
      have s2 : St K Fr Hf H ((v0, .tup ns) :: (ts ++ slots σ (env.set i none))) := s1.perm List.perm_middle
      obtain ⟨p, vs, a, us, rfl, h1, h2, h3, h4, h5, s3⟩ := s2.appAt hj (show Rep K Hf (.str z) (.str z) by unfold Rep; rfl)
      have hlt : j < vs.length := (List.getElem?_eq_some_iff.mp h3).1
      have hat : atI vs (j : Int) = some (.ref a) := by
        unfold atI
        rw [show ixN vs.length (j : Int) = some j by unfold ixN; simp; omega]
        exact h3
      refine ⟨.ref p, hv0, .inr (.inl ⟨p, vs, j, .ref a, rfl, rfl, SqT.of h1, hat, ?_⟩)⟩
      refine ⟨.inl ⟨rfl, us, SqL.of h4⟩, ?_⟩
      refine ⟨a, us, .str z, rfl, rfl, h4, by rw [h5]; exact hz, ?_⟩
      refine q _ _ .non Hf _ hk (Same.refl _) (c.tree _ hi) (St.addD ?_ rep_non)
      exact s3.swapB.perm (List.Perm.append_left ts (slots_put (lt_of_get hi) hv0).symm)
    · exact hw.elim
  · exact hw.elim
theorem pd_appAt (i j : Nat) {x z : Str} {jj : Int} {k1 k2 : Nat} {np ip sp zp apos cpos : Pos} (hj : (j : Int) = jj := by rfl) (hN : X.N[i]? = some x := by rfl) (hvis : Vis X.env.scope x := by first | exact Or.inl rfl | exact Or.inr (Or.inl rfl) | exact Or.inr (Or.inr rfl))
    (hd : (x == ("__debug__" : Str)) = false := by decide) (hcd : (x == ("__classdict__" : Str)) = false := by decide) (hbase : attributeBase (.Subscript (.Name x np) (.Constant (.int jj) k1 ip) sp) "append" X.env (eval (.Subscript (.Name x np) (.Constant (.int jj) k1 ip) sp) X.env) = eval (.Subscript (.Name x np) (.Constant (.int jj) k1 ip) sp) X.env := by rfl)
    (hfew : ((backTo cpos (starEach [.Constant (.str z) k2 zp] X.env)).all (fun x => !x.1) && (backToKw cpos (keywordEach [] X.env)).all (fun x => x.1.isSome) && decide (([.Constant (.str z) k2 zp] : List Expr).length + ([] : List Keyword).length + (if ([] : List Keyword).isEmpty then 0 else 1) < 30)) = true := by rfl)
    (hline : (apos.endLine == cpos.line) = true := by rfl) (hs : starEach [.Constant (.str z) k2 zp] X.env = (false, eval (.Constant (.str z) k2 zp) X.env) :: starEach [] X.env := by rfl) :
    PD X W (.Call (.Attribute (.Subscript (.Name x np) (.Constant (.int jj) k1 ip) sp) "append" apos) [.Constant (.str z) k2 zp] [] cpos) (wAppAt i j z) := by
  subst hj
  exact ⟨_, pe_bm F.plainAttrs_list F.slot_list_append F.type_list_append mt_append (pe_ix ix_seq (pe_var hN hvis hd hcd) pe_int (by intro _ _; rfl)) (L2.pa_cons pe_str L2.pa_nil hs) hbase hfew hline hs, runs_wAppAt⟩
end

/-! ### the data of k40 -/
abbrev Cv := Option Nat × Int
abbrev Jb := Option Nat × Int × Int
def oD : Option Nat → D
  | none => .non
  | some i => .int i
def cD (c : Cv) : D := .tup [oD c.1, .int c.2]
def jD (j : Jb) : D := .tup [oD j.1, .int j.2.1, .int j.2.2]
@[simp] theorem oD_none : oD none = .non := rfl
@[simp] theorem oD_some (i : Nat) : oD (some i) = .int i := rfl
@[simp] theorem oD_inj {a b : Option Nat} : oD a = oD b ↔ a = b := by
  cases a <;> cases b <;> simp [oD] <;> omega
@[simp] theorem cD_inj {a b : Cv} : cD a = cD b ↔ a = b := by
  obtain ⟨a1, a2⟩ := a
  obtain ⟨b1, b2⟩ := b
  simp [cD]
@[simp] theorem jD_inj {a b : Jb} : jD a = jD b ↔ a = b := by
  obtain ⟨a1, a2, a3⟩ := a
  obtain ⟨b1, b2, b3⟩ := b
  simp [jD]
theorem map_inj' {α β : Type} {f : α → β} (h : ∀ {a b}, f a = f b ↔ a = b) {l m : List α} : l.map f = m.map f ↔ l = m :=
  ⟨fun e => List.map_inj_right (fun _ _ z => h.mp z) |>.mp e, fun e => by rw [e]⟩
def upTo (n : Nat) : Option Nat → Prop
  | none => True
  | some i => i < n
structure Wok (cs : List Cv) (js : List Jb) : Prop where
  c : ∀ (i : Nat) x, cs[i]? = some x → upTo i x.1 ∧ 1 ≤ x.2 ∧ x.2 ≤ 1000000
  j : ∀ x ∈ js, upTo cs.length x.1 ∧ (1 ≤ x.2.1 ∧ x.2.1 ≤ 1000000) ∧ 1 ≤ x.2.2 ∧ x.2.2 ≤ 1000000
  cl : cs.length ≤ 20
  jl : js.length ≤ 20
/-- the rows of all jobs -/
def rowsOf (cs : List Cv) (js : List Jb) : List Jb := cs.map (fun c => (c.1, c.2, (0 : Int))) ++ js
/-- what lies above: the outermost first -/
def pathA (cs : List Cv) : Nat → Option Nat → List Nat
  | 0, _ => []
  | _, none => []
  | k + 1, some i => pathA cs k (cs[i]?.bind (·.1)) ++ [i]
def iD (i : Nat) : D := .int (i : Int)
@[simp] theorem iD_inj {a b : Nat} : iD a = iD b ↔ a = b := by simp [iD]; omega
def nD (l : List Nat) : List D := l.map iD
@[simp] theorem nD_inj {l m : List Nat} : nD l = nD m ↔ l = m := map_inj' iD_inj
def covD (cs : List Cv) : D := .obj "Covers" ["rows", "paths"] [.tup (cs.map cD), .tup ((List.range cs.length).map fun i => .tup (nD (pathA cs (cs.length + 1) (some i))))]
def abvD (cs : List Cv) (js : List Jb) : D := .tup ((rowsOf cs js).map fun r => .tup (nD (pathA cs (cs.length + 1) r.1)))
def seaD (cs : List Cv) (js : List Jb) : D := .obj "Search" ["covers", "inspections", "rows", "above"] [covD cs, .tup (js.map jD), .tup ((rowsOf cs js).map jD), abvD cs js]
def worD (cs : List Cv) (js : List Jb) : D := .lst [.lst (cs.map cD), .lst (js.map jD)]
@[simp] theorem seaD_inj {cs cs' : List Cv} {js js' : List Jb} : seaD cs js = seaD cs' js' ↔ cs = cs' ∧ js = js' := by
  refine ⟨fun h => ?_, fun h => by rw [h.1, h.2]⟩
  simp only [seaD, covD, D.obj.injEq, D.tup.injEq, List.cons.injEq, true_and, and_true] at h
  exact ⟨(map_inj' cD_inj).mp h.1.1, (map_inj' jD_inj).mp h.2.1⟩
@[simp] theorem covD_inj {cs cs' : List Cv} : covD cs = covD cs' ↔ cs = cs' := by
  refine ⟨fun h => ?_, fun h => by rw [h]⟩
  simp only [covD, D.obj.injEq, D.tup.injEq, List.cons.injEq, true_and, and_true] at h
  exact (map_inj' cD_inj).mp h.1
@[simp] theorem worD_inj {cs cs' : List Cv} {js js' : List Jb} : worD cs js = worD cs' js' ↔ cs = cs' ∧ js = js' := by
  refine ⟨fun h => ?_, fun h => by rw [h.1, h.2]⟩
  simp only [worD, D.lst.injEq, List.cons.injEq, and_true] at h
  exact ⟨(map_inj' cD_inj).mp h.1, (map_inj' jD_inj).mp h.2⟩
def at_ : Str → Str → Bool := fun c f => (c == "Covers" && (f == "rows" || f == "paths")) || (c == "Search" && (f == "covers" || f == "inspections" || f == "rows" || f == "above"))
@[simp] theorem fld_cr (cs : List Cv) : gFld at_ "rows" (covD cs) = some (.d (.tup (cs.map cD))) := rfl
@[simp] theorem fld_sc (cs : List Cv) (js : List Jb) : gFld at_ "covers" (seaD cs js) = some (.d (covD cs)) := rfl
@[simp] theorem fld_si (cs : List Cv) (js : List Jb) : gFld at_ "inspections" (seaD cs js) = some (.d (.tup (js.map jD))) := rfl
@[simp] theorem fld_sr (cs : List Cv) (js : List Jb) : gFld at_ "rows" (seaD cs js) = some (.d (.tup ((rowsOf cs js).map jD))) := rfl
@[simp] theorem fld_sa (cs : List Cv) (js : List Jb) : gFld at_ "above" (seaD cs js) = some (.d (abvD cs js)) := rfl
@[simp] theorem ix_w0 (cs : List Cv) (js : List Jb) : gIx (worD cs js) (.int 0) = some (.d (.lst (cs.map cD))) := rfl
@[simp] theorem ix_w1 (cs : List Cv) (js : List Jb) : gIx (worD cs js) (.int 1) = some (.d (.lst (js.map jD))) := rfl
@[simp] theorem len_t (l : List D) : gLen [.tup l] = some (.d (.int l.length)) := rfl
@[simp] theorem len_l (l : List D) : gLen [.lst l] = some (.d (.int l.length)) := rfl
@[simp] theorem rows_len (cs : List Cv) (js : List Jb) : (rowsOf cs js).length = cs.length + js.length := by simp [rowsOf]
/-! ### small contracts -/
def isIntD : D → Bool
  | .int _ => true
  | _ => false
@[simp] theorem isIntD_int (i : Int) : isIntD (.int i) = true := rfl
@[simp] theorem isIntD_non : isIntD .non = false := rfl
@[simp] theorem isIntD_bl (b : Bool) : isIntD (.bl b) = false := rfl
def S_is_integer : FS := fun ns k _ => ∃ v, ns = [.d v] ∧ isaOk v = true ∧ k (.d (.bl (isIntD v))) [some (.d v)]
@[simp] theorem c_is_integer {v : D} {k : N → Env → Prop} {x : XP} : S_is_integer [.d v] k x ↔ isaOk v = true ∧ k (.d (.bl (isIntD v))) [some (.d v)] := by simp [S_is_integer, and_assoc]
def isPosD : D → Bool
  | .int i => decide (1 ≤ i)
  | _ => false
@[simp] theorem isPosD_int (i : Int) : isPosD (.int i) = decide (1 ≤ i) := rfl
def S_is_positive : FS := fun ns k _ => ∃ v, ns = [.d v] ∧ isaOk v = true ∧ k (.d (.bl (isPosD v))) [some (.d v)]
@[simp] theorem c_is_positive {v : D} {k : N → Env → Prop} {x : XP} : S_is_positive [.d v] k x ↔ isaOk v = true ∧ k (.d (.bl (isPosD v))) [some (.d v)] := by simp [S_is_positive, and_assoc]
def isIxD (m : Int) : D → Bool
  | .int i => decide (0 ≤ i) && decide (i < m)
  | _ => false
@[simp] theorem isIxD_int (m i : Int) : isIxD m (.int i) = (decide (0 ≤ i) && decide (i < m)) := rfl
@[simp] theorem isIxD_non (m : Int) : isIxD m .non = false := rfl
def S_is_index : FS := fun ns k _ => ∃ v m, ns = [.d v, .d (.int m)] ∧ isaOk v = true ∧ k (.d (.bl (isIxD m v))) [some (.d v), some (.d (.int m))]
@[simp] theorem c_is_index {v : D} {m : Int} {k : N → Env → Prop} {x : XP} : S_is_index [.d v, .d (.int m)] k x ↔ isaOk v = true ∧ k (.d (.bl (isIxD m v))) [some (.d v), some (.d (.int m))] := by simp [S_is_index, and_assoc]
def isSeqD : D → Bool
  | .lst _ => true
  | .tup _ => true
  | .scr _ => true
  | _ => false
@[simp] theorem isSeqD_lst (l : List D) : isSeqD (.lst l) = true := rfl
@[simp] theorem isSeqD_tup (l : List D) : isSeqD (.tup l) = true := rfl
def S_is_list : FS := fun ns k _ => ∃ v, ns = [.d v] ∧ isaOk v = true ∧ k (.d (.bl (isSeqD v))) [some (.d v)]
@[simp] theorem c_is_list {v : D} {k : N → Env → Prop} {x : XP} : S_is_list [.d v] k x ↔ isaOk v = true ∧ k (.d (.bl (isSeqD v))) [some (.d v)] := by simp [S_is_list, and_assoc]
def isTupD (m : Int) : D → Bool
  | .tup l => decide ((l.length : Int) = m)
  | _ => false
@[simp] theorem isTupD_tup (m : Int) (l : List D) : isTupD m (.tup l) = decide ((l.length : Int) = m) := rfl
def S_is_tuple : FS := fun ns k _ => ∃ v m, ns = [.d v, .d (.int m)] ∧ isaOk v = true ∧ k (.d (.bl (isTupD m v))) [some (.d v), some (.d (.int m))]
@[simp] theorem c_is_tuple {v : D} {m : Int} {k : N → Env → Prop} {x : XP} : S_is_tuple [.d v, .d (.int m)] k x ↔ isaOk v = true ∧ k (.d (.bl (isTupD m v))) [some (.d v), some (.d (.int m))] := by simp [S_is_tuple, and_assoc]
@[simp] theorem isaOk_int (i : Int) : isaOk (.int i) = true := rfl
@[simp] theorem isaOk_non : isaOk .non = true := rfl
@[simp] theorem isaOk_bl (b : Bool) : isaOk (.bl b) = true := rfl
@[simp] theorem isaOk_lst (l : List D) : isaOk (.lst l) = true := rfl
@[simp] theorem isaOk_tup (l : List D) : isaOk (.tup l) = true := rfl
@[simp] theorem isaOk_oD (o : Option Nat) : isaOk (oD o) = true := by cases o <;> rfl
@[simp] theorem isaOk_jD (o : Jb) : isaOk (jD o) = true := rfl
@[simp] theorem isaOk_cD (o : Cv) : isaOk (cD o) = true := rfl
@[simp] theorem startE_eq (Ns : List Str) (ns : List N) : startE Ns ns = ns.map some ++ List.replicate (Ns.length - ns.length) none := rfl
def N_is_integer : List Str := ["value"]
def W_is_integer : WS := (wsRet (wBor (wAndV (wIsi (oS 0) ["int"]) (wNotV (oE (wIsi (oS 0) ["bool"]))))))
def N_is_positive : List Str := ["value"]
def W_is_positive : WS := (wsRet (wBor (wAndV (wCall 1 S_is_integer (aCons (oS 0) aNil)) (wOp2 (up2 gGe) (oS 0) (oE (wC (.int 1)))))))
def N_is_index : List Str := ["value", "many"]
def W_is_index : WS := (wsRet (wBor (wAndV (wCall 1 S_is_integer (aCons (oS 0) aNil)) (wChain (up2 gLe) (up2 gLt) (oE (wC (.int 0))) (oS 0) (oS 1)))))
def N_is_list : List Str := ["value"]
def W_is_list : WS := (wsRet (wBor (wIsi (oS 0) ["list", "tuple"])))
def N_is_tuple : List Str := ["value", "many"]
def W_is_tuple : WS := (wsRet (wBor (wAndV (wIsi (oS 0) ["tuple"]) (wOp2 (up2 gEq) (oE (wCB (upL gLen) (aCons (oS 0) aNil))) (oS 1)))))
theorem s_is_integer : ∀ ns k x, S_is_integer ns k x → ns.length = 1 → W_is_integer (startE N_is_integer ns) (endsOf 1 k) (xOf 1 x) := by
  rintro _ k x ⟨v, rfl, ho, h⟩ _
  cases v <;> simp [W_is_integer, N_is_integer, endsOf, isaB, isaOk] at h ho ⊢ <;> exact h
theorem s_is_positive : ∀ ns k x, S_is_positive ns k x → ns.length = 1 → W_is_positive (startE N_is_positive ns) (endsOf 1 k) (xOf 1 x) := by
  rintro _ k x ⟨v, rfl, ho, h⟩ _
  cases v <;> simp [W_is_positive, N_is_positive, endsOf, isIntD, isPosD, isaOk, gGe] at h ho ⊢ <;> exact h
theorem s_is_index : ∀ ns k x, S_is_index ns k x → ns.length = 2 → W_is_index (startE N_is_index ns) (endsOf 2 k) (xOf 2 x) := by
  rintro _ k x ⟨v, m, rfl, ho, h⟩ _
  cases v
  case int => 
    rename_i i _
    by_cases c : 0 ≤ i <;> simp [W_is_index, N_is_index, endsOf, isIntD, isIxD, isaOk, gLe, gLt, c] at h ⊢ <;> exact h
  all_goals (simp [W_is_index, N_is_index, endsOf, isIntD, isIxD, isaOk] at h ho ⊢ <;> exact h)
theorem s_is_list : ∀ ns k x, S_is_list ns k x → ns.length = 1 → W_is_list (startE N_is_list ns) (endsOf 1 k) (xOf 1 x) := by
  rintro _ k x ⟨v, rfl, ho, h⟩ _
  cases v <;> simp [W_is_list, N_is_list, endsOf, isSeqD, isaOk, isaB] at h ho ⊢ <;> exact h
theorem s_is_tuple : ∀ ns k x, S_is_tuple ns k x → ns.length = 2 → W_is_tuple (startE N_is_tuple ns) (endsOf 2 k) (xOf 2 x) := by
  rintro _ k x ⟨v, m, rfl, ho, h⟩ _
  cases v <;> simp [W_is_tuple, N_is_tuple, endsOf, isTupD, isaOk, isaB, gEq, eqD] at h ho ⊢ <;> exact h

def N_is_inspection : List Str := ["value", "covers", "cover", "minutes", "weight"]
def W_is_inspection : WS := (wsCons (wsIf (wBorT (wNot (wB (wCall 2 S_is_tuple (aCons (oS 0) (aCons (oE (wC (.int 3))) aNil)))))) (wsRet (wC (.bl false))) wsNil) (wsCons (wsAsg (gtTp 3 (gtsCons (gtNm 2) (gtsCons (gtNm 3) (gtsCons (gtNm 4) gtsNil)))) (wVar 0)) (wsRet (wBor (wAndV (wOrV (wOp2 (up2 gIs) (oS 2) (oE (wC .non))) (wCall 2 S_is_index (aCons (oS 2) (aCons (oS 1) aNil)))) (wAndV (wCall 1 S_is_positive (aCons (oS 3) aNil)) (wCall 1 S_is_positive (aCons (oS 4) aNil))))))))
def N_is_row : List Str := ["value", "number", "above", "minutes"]
def W_is_row : WS := (wsCons (wsIf (wBorT (wNot (wB (wCall 2 S_is_tuple (aCons (oS 0) (aCons (oE (wC (.int 2))) aNil)))))) (wsRet (wC (.bl false))) wsNil) (wsCons (wsAsg (gtTp 2 (gtsCons (gtNm 2) (gtsCons (gtNm 3) gtsNil))) (wVar 0)) (wsRet (wBor (wAndV (wOrV (wOp2 (up2 gIs) (oS 2) (oE (wC .non))) (wCall 2 S_is_index (aCons (oS 2) (aCons (oS 1) aNil)))) (wCall 1 S_is_positive (aCons (oS 3) aNil)))))))
/-! ### rows -/
def S_is_inspection : FS := fun ns k _ => ∃ (j : Jb) (n : Nat), ns = [.d (jD j), .d (.int n)] ∧ (upTo n j.1 ∧ 1 ≤ j.2.1 ∧ 1 ≤ j.2.2) ∧ k (.d (.bl true)) [some (.d (jD j)), some (.d (.int n))]
@[simp] theorem c_is_inspection {j : Jb} {n : Nat} {k : N → Env → Prop} {x : XP} : S_is_inspection [.d (jD j), .d (.int n)] k x ↔ (upTo n j.1 ∧ 1 ≤ j.2.1 ∧ 1 ≤ j.2.2) ∧ k (.d (.bl true)) [some (.d (jD j)), some (.d (.int n))] := by
  constructor
  · rintro ⟨j', n', e, h1, h2⟩
    simp at e
    obtain ⟨rfl, e2⟩ := e
    obtain rfl : n = n' := by omega
    exact ⟨h1, h2⟩
  · rintro ⟨h1, h2⟩
    exact ⟨j, n, rfl, h1, h2⟩
theorem s_is_inspection : ∀ ns k x, S_is_inspection ns k x → ns.length = 2 → W_is_inspection (startE N_is_inspection ns) (endsOf 2 k) (xOf 2 x) := by
  rintro _ k x ⟨⟨c, m, w⟩, n, rfl, h0, h⟩ _
  cases c <;> simp [W_is_inspection, N_is_inspection, endsOf, jD, gIs, isD, upTo] at h h0 ⊢
  · simp [h0]; exact h
  · simp [h0]; exact h
def S_is_row : FS := fun ns k _ => ∃ (c : Cv) (n : Nat), ns = [.d (cD c), .d (.int n)] ∧ (upTo n c.1 ∧ 1 ≤ c.2) ∧ k (.d (.bl true)) [some (.d (cD c)), some (.d (.int n))]
@[simp] theorem c_is_row {c : Cv} {n : Nat} {k : N → Env → Prop} {x : XP} : S_is_row [.d (cD c), .d (.int n)] k x ↔ (upTo n c.1 ∧ 1 ≤ c.2) ∧ k (.d (.bl true)) [some (.d (cD c)), some (.d (.int n))] := by
  constructor
  · rintro ⟨j', n', e, h1, h2⟩
    simp at e
    obtain ⟨rfl, e2⟩ := e
    obtain rfl : n = n' := by omega
    exact ⟨h1, h2⟩
  · rintro ⟨h1, h2⟩
    exact ⟨c, n, rfl, h1, h2⟩
theorem s_is_row : ∀ ns k x, S_is_row ns k x → ns.length = 2 → W_is_row (startE N_is_row ns) (endsOf 2 k) (xOf 2 x) := by
  rintro _ k x ⟨⟨c, m⟩, n, rfl, h0, h⟩ _
  cases c <;> simp [W_is_row, N_is_row, endsOf, cD, gIs, isD, upTo] at h h0 ⊢
  · simp [h0]; exact h
  · simp [h0]; exact h
/-! ### loops, over values -/
theorem forL_ind {g : GT} {b : WS} {x : XP} {E : ED} (I : Nat → Env → Prop) : ∀ {l : List D} {e : Env} (s : Nat), I s e →
    (∀ i (h : i < l.length) e (kk : Env → Prop), I (s + i) e → (∀ e', I (s + i + 1) e' → kk e') → g (.d l[i]) e fun e1 => b e1 { E with nx := kk, ct := kk, bk := E.nx } x) →
    (∀ e, I (s + l.length) e → E.nx e) → forL g b x l e E
  | [], e, s, h0, _, hd => hd e h0
  | d :: l, e, s, h0, st, hd => by
    rw [forL_cons]
    refine st 0 (by simp) e _ h0 fun e' h' => ?_
    refine forL_ind I (s + 1) h' (fun i h e kk hi hk => ?_) (fun e he => hd e ?_)
    · have := st (i + 1) (by simpa using h) e kk (by rw [show s + (i + 1) = s + 1 + i by omega]; exact hi) (fun e' he' => hk e' (by rw [show s + 1 + i + 1 = s + (i + 1) + 1 by omega]; exact he'))
      simpa using this
    · rw [show s + (d :: l).length = s + 1 + l.length by simp; omega]; exact he
/-- as before, with a way out -/
theorem forL_ind0 {g : GT} {b : WS} {x : XP} {E : ED} {l : List D} {e : Env} (I : Nat → Env → Prop) (h0 : I 0 e)
    (st : ∀ i (h : i < l.length) e (kk : Env → Prop), I i e → (∀ e', I (i + 1) e' → kk e') → g (.d l[i]) e fun e1 => b e1 { E with nx := kk, ct := kk, bk := E.nx } x)
    (hd : ∀ e, I l.length e → E.nx e) : forL g b x l e E :=
  forL_ind I 0 h0 (fun i h e kk hi hk => st i h e kk (by simpa using hi) fun e' he' => hk e' (by simpa using he')) fun e he => hd e (by simpa using he)
/-! ### comprehensions over a mapped list -/
theorem lcL_optX {α : Type} {g : GT} {t : WT} {w : WE} {own : List Nat} {E0 : Env} (m : α → D) (f : α → Option N) : ∀ {xs : List α} {acc : List N} {e : Env} {k : List N → Env → Prop},
    (∀ a ∈ xs, ∀ kk : Option N → Env → Prop, (∀ e', wipeN e' own = E0 → kk (f a) e') → g (.d (m a)) E0 fun e1 => t e1 (fun b e2 => if b = true then w e2 (fun n e3 => kk (some n) e3) noX else kk none e2) noX) →
    acc.length + xs.length ≤ sizeLine → wipeN e own = E0 → (∀ e', wipeN e' own = E0 → k (acc ++ xs.filterMap f) e') → lcL g t w own (xs.map m) acc e k
  | [], acc, e, k, _, _, he, hk => by
    have := hk e he
    simpa [lcL] using this
  | d :: l, acc, e, k, h, hl, he, hk => by
    have ih : ∀ acc' : List N, acc'.length + l.length ≤ sizeLine → ∀ e', wipeN e' own = E0 → (∀ e'', wipeN e'' own = E0 → k (acc' ++ l.filterMap f) e'') → lcL g t w own (l.map m) acc' e' k :=
      fun acc' h1 e' h2 h3 => lcL_optX m f (fun d hd => h d (List.mem_cons_of_mem _ hd)) h1 h2 h3
    show g (.d (m d)) (wipeN e own) fun e1 => t e1 (fun b e2 => if b = true then w e2 (fun n e3 => acc.length < sizeLine ∧ lcL g t w own (l.map m) (acc ++ [n]) e3 k) noX else lcL g t w own (l.map m) acc e2 k) noX
    rw [he]
    have hl' : acc.length + (l.length + 1) ≤ sizeLine := by simpa using hl
    refine h d List.mem_cons_self (fun o e3 => match o with | some n => acc.length < sizeLine ∧ lcL g t w own (l.map m) (acc ++ [n]) e3 k | none => lcL g t w own (l.map m) acc e3 k) fun e' h' => ?_
    cases q : f d with
    | none =>
      refine ih acc (by omega) e' h' fun e'' h'' => ?_
      have := hk e'' h''
      rwa [List.filterMap_cons, q] at this
    | some n =>
      refine ⟨by omega, ih (acc ++ [n]) (by rw [List.length_append, List.length_singleton]; omega) e' h' fun e'' h'' => ?_⟩
      have := hk e'' h''
      rw [List.filterMap_cons, q] at this
      simpa using this
theorem lcL_mapX {α : Type} {g : GT} {w : WE} {own : List Nat} {E0 : Env} (m : α → D) (f : α → N) {xs : List α} {e : Env} {k : List N → Env → Prop}
    (h : ∀ a ∈ xs, ∀ kk : N → Env → Prop, (∀ e', wipeN e' own = E0 → kk (f a) e') → g (.d (m a)) E0 fun e1 => w e1 (fun n e3 => kk n e3) noX)
    (hl : xs.length ≤ sizeLine) (he : wipeN e own = E0) (hk : ∀ e', wipeN e' own = E0 → k (xs.map f) e') : lcL g wYes w own (xs.map m) [] e k := by
  refine lcL_optX m (fun d => some (f d)) (fun d hd kk hkk => ?_) (by simpa using hl) he fun e' h' => ?_
  · exact h d hd (fun n e => kk (some n) e) hkk
  · simpa using hk e' h'
theorem lcL_filX {α : Type} {g : GT} {t : WT} {w : WE} {own : List Nat} {E0 : Env} (m : α → D) (p : α → Bool) (f : α → N) {xs : List α} {e : Env} {k : List N → Env → Prop}
    (h : ∀ a ∈ xs, ∀ kk : Option N → Env → Prop, (∀ e', wipeN e' own = E0 → kk (if p a = true then some (f a) else none) e') → g (.d (m a)) E0 fun e1 => t e1 (fun b e2 => if b = true then w e2 (fun n e3 => kk (some n) e3) noX else kk none e2) noX)
    (hl : xs.length ≤ sizeLine) (he : wipeN e own = E0) (hk : ∀ e', wipeN e' own = E0 → k ((xs.filter p).map f) e') : lcL g t w own (xs.map m) [] e k := by
  refine lcL_optX m (fun d => if p d = true then some (f d) else none) h (by simpa using hl) he fun e' h' => ?_
  have : xs.filterMap (fun d => if p d = true then some (f d) else none) = (xs.filter p).map f := by
    clear h hl hk
    induction xs with
    | nil => rfl
    | cons a l ih => by_cases c : p a = true <;> simp [c, ih]
  rw [List.nil_append, this]
  exact hk e' h'
theorem forL_rec {α : Type} {g : GT} {b : WS} {x : XP} {E : ED} (m : α → D) (I : List α → List α → Env → Prop)
    (st : ∀ dn a r e (kk : Env → Prop), I dn (a :: r) e → (∀ e', I (dn ++ [a]) r e' → kk e') → g (.d (m a)) e fun e1 => b e1 { E with nx := kk, ct := kk, bk := E.nx } x)
    (hd : ∀ dn e, I dn [] e → E.nx e) : ∀ (r dn : List α) (e : Env), I dn r e → forL g b x (r.map m) e E
  | [], dn, e, h => hd dn e h
  | a :: r, dn, e, h => by
    rw [List.map_cons, forL_cons]
    exact st dn a r e _ h fun e' h' => forL_rec m I st hd r (dn ++ [a]) e' h'
@[simp] theorem pick10 {α : Type} (a b : α) : pick [1, 0] [a, b] = [b, a] := rfl
@[simp] theorem pick01 {α : Type} (a b : α) : pick [0, 1] [a, b] = [a, b] := rfl
@[simp] theorem pick0 {α : Type} (a : α) : pick [0] [a] = [a] := rfl
@[simp] theorem perm10 : [1, 0].Perm (List.range 2) := by decide
@[simp] theorem perm01 : [0, 1].Perm (List.range 2) := by decide
@[simp] theorem perm0 : [0].Perm (List.range 1) := by decide

structure Cok (cs : List Cv) : Prop where
  c : ∀ (i : Nat) x, cs[i]? = some x → upTo i x.1 ∧ 1 ≤ x.2 ∧ x.2 ≤ 1000000
  cl : cs.length ≤ 20
theorem Wok.cok {cs : List Cv} {js : List Jb} (h : Wok cs js) : Cok cs := ⟨h.c, h.cl⟩
def S_are_rows : FS := fun ns k _ => ∃ cs : List Cv, ns = [.d (.lst (cs.map cD))] ∧ Cok cs ∧ k (.d (.bl true)) [some (.d (.lst (cs.map cD)))]
@[simp] theorem c_are_rows {cs : List Cv} {k : N → Env → Prop} {x : XP} : S_are_rows [.d (.lst (cs.map cD))] k x ↔ Cok cs ∧ k (.d (.bl true)) [some (.d (.lst (cs.map cD)))] := by
  simp [S_are_rows, map_inj' cD_inj]
def N_are_rows : List Str := ["value", "number", "row"]
def W_are_rows : WS := (wsRet (wBor (wAndV (wCall 1 S_is_list (aCons (oS 0) aNil)) (wCB (upL gAll) (aCons (oE (wLc (iEnm (wVar 0)) (gtTp 2 (gtsCons (gtNm 1) (gtsCons (gtNm 2) gtsNil))) wYes (wFr (wCall 2 S_is_row (aCons (oS 2) (aCons (oS 1) aNil)))) [1, 2])) aNil)))))
theorem mem_enumD {l : List D} {d : D} (h : d ∈ enumD l) : ∃ (i : Nat) (x : D), l[i]? = some x ∧ d = .tup [.int i, x] := by
  unfold enumD at h
  obtain ⟨i, hi, rfl⟩ := List.mem_mapIdx.mp h
  exact ⟨i, l[i], by simp [hi], rfl⟩
@[simp] theorem len_enumD (l : List D) : (enumD l).length = l.length := by simp [enumD]
theorem allB_mapf {α : Type} (f : α → Bool) : ∀ l : List α, allB (l.map fun a => .bl (f a)) = some (l.map f)
  | [] => rfl
  | a :: l => by
    rw [List.map_cons, allB, allB_mapf f l]
    rfl
theorem allI_mapf {α : Type} (f : α → Int) : ∀ l : List α, allI (l.map fun a => .int (f a)) = some (l.map f)
  | [] => rfl
  | a :: l => by
    rw [List.map_cons, allI, allI_mapf f l]
    rfl
theorem views_mapD {α : Type} (f : α → D) (l : List α) : allD (l.map fun a => N.d (f a)) = some (l.map f) := by
  have := allD_map (l.map f)
  rwa [List.map_map] at this
theorem gAll_map {α : Type} (f : α → Bool) (l : List α) : gAll [.lst (l.map fun a => D.bl (f a))] = some (.d (.bl (l.all f))) := by
  show (allB (l.map fun a => D.bl (f a))).map (fun bs => N.d (.bl (bs.all id))) = _
  rw [allB_mapf f l]
  simp [List.all_map]
theorem gSum_map {α : Type} (f : α → Int) (l : List α) : gSum [.lst (l.map fun a => D.int (f a))] = some (.d (.int (l.map f).sum)) := by
  show (allI (l.map fun a => D.int (f a))).map (fun ns => N.d (.int ns.sum)) = _
  rw [allI_mapf f l]
  rfl
theorem all_yes {α : Type} (l : List α) : gAll [.lst (l.map fun _ => D.bl true)] = some (.d (.bl true)) := by
  rw [gAll_map (fun _ : α => true) l, show (l.all fun _ => true) = true by rw [List.all_eq_true]; intro _ _; rfl]
theorem s_are_rows : ∀ ns k x, S_are_rows ns k x → ns.length = 1 → W_are_rows (startE N_are_rows ns) (endsOf 1 k) (xOf 1 x) := by
  rintro _ k x ⟨cs, rfl, hc, h⟩ _
  simp [W_are_rows, N_are_rows, endsOf, frzE]
  refine lcL_map (fun _ => .d (.bl true)) (fun d hd kk hk => ?_) ?_ rfl fun e he => ?_
  · obtain ⟨i, y, hy, rfl⟩ := mem_enumD hd
    rw [List.getElem?_map] at hy
    cases q : cs[i]? with
    | none => rw [q] at hy; cases hy
    | some c =>
      rw [q] at hy
      cases hy
      have := hc.c i c q
      simp [this]
      exact hk _ rfl
  · have := hc.cl
    have := big_sizeLine
    simp [enumD]
    omega
  · simp [views_mapD, all_yes]
    exact h

theorem atI_nat {α : Type} (l : List α) (i : Nat) : atI l (i : Int) = l[i]? := by
  unfold atI ixN
  by_cases h : i < l.length
  · simp [h]
  · simp [h]
@[simp] theorem gIx_lst (l : List D) (i : Nat) : gIx (.lst l) (.int (i : Int)) = l[i]?.map N.d := by
  show (atI l (i : Int)).map N.d = _
  rw [atI_nat]
@[simp] theorem gIx_tup (l : List D) (i : Nat) : gIx (.tup l) (.int (i : Int)) = l[i]?.map N.d := by
  show (atI l (i : Int)).map N.d = _
  rw [atI_nat]
theorem pathA_fuel {cs : List Cv} (hc : ∀ (i : Nat) x, cs[i]? = some x → upTo i x.1) : ∀ (m : Nat) (o : Option Nat) (k k' : Nat), upTo m o → m ≤ k → m ≤ k' → pathA cs k o = pathA cs k' o := by
  intro m
  induction m using Nat.strongRecOn with
  | _ m ih =>
    intro o k k' h1 h2 h3
    cases o with
    | none => cases k <;> cases k' <;> rfl
    | some i =>
      have hi : i < m := h1
      obtain ⟨k, rfl⟩ : ∃ z, k = z + 1 := ⟨k - 1, by omega⟩
      obtain ⟨k', rfl⟩ : ∃ z, k' = z + 1 := ⟨k' - 1, by omega⟩
      show pathA cs k _ ++ [i] = pathA cs k' _ ++ [i]
      congr 1
      cases q : cs[i]? with
      | none => exact ih i hi _ k k' trivial (by omega) (by omega)
      | some x => exact ih i hi _ k k' (hc i x q) (by omega) (by omega)
/-- the path of a place, as a reader of cs takes it -/
abbrev pathN (cs : List Cv) (o : Option Nat) : List Nat := pathA cs (cs.length + 1) o
theorem pathN_some {cs : List Cv} (h : Cok cs) {i : Nat} {x : Cv} (e : cs[i]? = some x) : pathN cs (some i) = pathN cs x.1 ++ [i] := by
  show pathA cs cs.length _ ++ [i] = _
  have hi : i < cs.length := (List.getElem?_eq_some_iff.mp e).1
  rw [e]
  congr 1
  exact pathA_fuel (fun i x e => (h.c i x e).1) i _ _ _ (h.c i x e).1 (by omega) (by omega)
@[simp] theorem pathN_none (cs : List Cv) : pathN cs none = [] := rfl
def pT (cs : List Cv) (o : Option Nat) : D := .tup (nD (pathN cs o))
theorem rows_up {cs : List Cv} {js : List Jb} (w : Wok cs js) {i : Nat} {r : Jb} (h : (rowsOf cs js)[i]? = some r) : upTo (min i cs.length) r.1 := by
  unfold rowsOf at h
  by_cases c : i < cs.length
  · rw [List.getElem?_append_left (by simpa using c), List.getElem?_map] at h
    cases q : cs[i]? with
    | none => rw [q] at h; cases h
    | some x =>
      rw [q] at h
      cases h
      rw [Nat.min_eq_left (by omega)]
      exact (w.c i x q).1
  · rw [List.getElem?_append_right (by simpa using c)] at h
    rw [Nat.min_eq_right (by omega)]
    exact (w.j _ (List.mem_of_getElem? h)).1
theorem rows_lt {cs : List Cv} {js : List Jb} {i : Nat} (h : i < cs.length) : (rowsOf cs js)[i]? = cs[i]?.map fun c => (c.1, c.2, 0) := by
  unfold rowsOf
  rw [List.getElem?_append_left (by simpa using h), List.getElem?_map]
def S_above_by : FS := fun ns k _ => ∃ cs js, ns = [.d (.tup ((rowsOf cs js).map jD))] ∧ Wok cs js ∧ k (.d (abvD cs js)) [some (.d (.tup ((rowsOf cs js).map jD)))]
def N_above_by : List Str := ["rows", "found", "above", "_"]
def W_above_by : WS := (wsCons (wsSet 1 (wLst aNil)) (wsCons (wsFor (iSeq (wVar 0)) (gtTp 3 (gtsCons (gtNm 2) (gtsCons (gtNm 3) (gtsCons (gtNm 3) gtsNil)))) (wsEx (wApp 1 (wFr (wIf (wBorT (wB (wOp2 (up2 gIs) (oS 2) (oE (wC .non))))) (wTup aNil) (wTup (aStar (wOp2 (up2 gIx) (oS 1) (oS 2)) (aCons (oF (wVar 2)) aNil)))))))) (wsRet (wFr (wCB fTuple (aCons (oS 1) aNil))))))
theorem nD_app (l m : List Nat) : nD (l ++ m) = nD l ++ nD m := by simp [nD]
@[simp] theorem nD_len (l : List Nat) : (nD l).length = l.length := by simp [nD]
def tkM {α β : Type} (f : α → β) (l : List α) (i : Nat) : List β := (l.take i).map f
@[simp] theorem tkM_zero {α β : Type} (f : α → β) (l : List α) : tkM f l 0 = [] := rfl
theorem tkM_succ {α β : Type} (f : α → β) {l : List α} {i : Nat} {r : α} (h : l[i]? = some r) : tkM f l (i + 1) = tkM f l i ++ [f r] := by
  unfold tkM
  rw [List.take_succ, h]
  simp
theorem tkM_all {α β : Type} (f : α → β) (l : List α) : tkM f l l.length = l.map f := by simp [tkM]
theorem tkM_get {α β : Type} (f : α → β) {l : List α} {i a : Nat} {r : α} (h : l[a]? = some r) (ha : a < i) : (tkM f l i)[a]? = some (f r) := by
  unfold tkM
  rw [List.getElem?_map, List.getElem?_take_of_lt ha, h]
  rfl
theorem tkM_len {α β : Type} (f : α → β) (l : List α) (i : Nat) : (tkM f l i).length = min i l.length := by simp [tkM]
@[simp] theorem allD_tkM {α : Type} (f : α → D) (l : List α) (i : Nat) : allD (tkM (fun a => N.d (f a)) l i) = some (tkM f l i) := views_mapD f _
@[simp] theorem views_tkM {α : Type} (f : α → D) (l : List α) (i : Nat) : N.views (tkM (fun a => N.d (f a)) l i) = tkM f l i := by
  have := views_map_d (tkM f l i)
  unfold tkM at this ⊢
  rwa [List.map_map] at this
theorem seq_tup (l : List D) : seqOf (.tup l) = some l := rfl
theorem seq_lst (l : List D) : seqOf (.lst l) = some l := rfl
theorem allT_map {α : Type} (f : α → D) : ∀ (l : List α) (r : List Val), allT ((l.map fun a => Val.t (.d (f a))) ++ r) = (allT r).map ((l.map fun a => N.d (f a)) ++ ·)
  | [], r => by simp
  | a :: l, r => by
    rw [List.map_cons, List.cons_append, allT_t, allT_map f l r]
    cases allT r <;> rfl
@[simp] theorem allT_mapD (l : List D) (r : List Val) : allT ((l.map fun a => Val.t (.d a)) ++ r) = (allT r).map ((l.map N.d) ++ ·) := allT_map (fun a => a) l r
@[simp] theorem views_md (l m : List N) : N.views (l ++ m) = N.views l ++ N.views m := views_append l m
theorem views_mapF {α : Type} (f : α → D) (l : List α) : N.views (l.map fun a => N.d (f a)) = l.map f := by
  have := views_map_d (l.map f)
  rwa [List.map_map] at this
theorem fTuple_map {α : Type} (f : α → D) (l : List α) : fTuple [.lst (l.map fun a => N.d (f a))] = some (.tup (l.map fun a => N.d (f a))) := by
  show (match flat (.lst (l.map fun a => N.d (f a))) with
    | some (.lst l) => some (N.tup (l.map N.d))
    | _ => none) = _
  rw [flat_lst, views_mapD]
  simp
theorem pathA_len (cs : List Cv) : ∀ (k : Nat) (o : Option Nat), (pathA cs k o).length ≤ k
  | 0, _ => by simp [pathA]
  | k + 1, none => by simp [pathA]
  | k + 1, some i => by
    have := pathA_len cs k (cs[i]?.bind (·.1))
    rw [pathA, List.length_append, List.length_singleton]
    omega
theorem s_above_by : ∀ ns k x, S_above_by ns k x → ns.length = 1 → W_above_by (startE N_above_by ns) (endsOf 1 k) (xOf 1 x) := by
  rintro _ k x ⟨cs, js, rfl, hw, h⟩ _
  simp [W_above_by, N_above_by, endsOf]
  refine forL_ind0 (fun i e => ∃ x y, e = [some (.d (.tup ((rowsOf cs js).map jD))), some (.lst (tkM (fun r => .d (pT cs r.1)) (rowsOf cs js) i)), x, y]) ⟨none, none, by simp⟩ ?_ ?_
  · rintro i hi _ kk ⟨u, v, rfl⟩ hk
    have hi' : i < (rowsOf cs js).length := by simpa using hi
    obtain ⟨r, hr⟩ : ∃ r, (rowsOf cs js)[i]? = some r := ⟨_, List.getElem?_eq_getElem hi'⟩
    have hr2 : (rowsOf cs js)[i] = r := by simpa [List.getElem?_eq_getElem hi'] using hr
    have up := rows_up hw hr
    have big := big_sizeLine
    have l20 := hw.cl
    have l21 := hw.jl
    have hlen : cs.length + js.length ≤ 40 := by omega
    have hi2 : i < cs.length + js.length := by simpa using hi'
    obtain ⟨a, m, wt⟩ := r
    have fin := tkM_succ (fun r : Jb => N.d (pT cs r.1)) hr
    rw [fin] at hk
    have hb : (tkM (fun r : Jb => N.d (pT cs r.1)) (rowsOf cs js) i).length < sizeLine := by rw [tkM_len]; omega
    simp [hr2, jD]
    cases a with
    | none =>
      simp [gIs, isD, frzE]
      exact ⟨hb, hk _ ⟨_, _, rfl⟩⟩
    | some a =>
      have ha : a < min i cs.length := up
      have ha1 : a < cs.length := by omega
      obtain ⟨c, hc⟩ : ∃ c, cs[a]? = some c := ⟨_, List.getElem?_eq_getElem ha1⟩
      have hra : (rowsOf cs js)[a]? = some (c.1, c.2, 0) := by rw [rows_lt ha1, hc]; rfl
      have hga := tkM_get (fun r : Jb => pT cs r.1) (i := i) hra (by omega)
      have hp := pathN_some hw.cok hc
      have hpl : (pathN cs c.1).length ≤ cs.length + 1 := pathA_len cs (cs.length + 1) c.1
      simp [gIs, isD, frzE, hga]
      rw [show pT cs c.1 = .tup (nD (pathN cs c.1)) from rfl]
      simp [seq_tup]
      have e2 : pT cs (some a) = .tup (nD (pathN cs c.1) ++ [.int a]) := by rw [pT, hp, nD_app]; rfl
      refine ⟨by omega, hb, ?_⟩
      rw [← e2]
      exact hk _ ⟨_, _, rfl⟩
  · rintro _ ⟨u, v, rfl⟩
    rw [show (List.map jD (rowsOf cs js)).length = (rowsOf cs js).length by simp, tkM_all]
    simp [fTuple_map (fun r : Jb => pT cs r.1), views_mapF (fun r : Jb => pT cs r.1)]
    exact h

def S_paths_by : FS := fun ns k _ => ∃ cs, ns = [.d (.lst (cs.map cD))] ∧ Cok cs ∧ k (.d (.tup ((List.range cs.length).map fun i => pT cs (some i)))) [some (.d (.lst (cs.map cD)))]
def N_paths_by : List Str := ["rows", "paths", "number", "above", "_"]
def W_paths_by : WS := (wsCons (wsSet 1 (wLst aNil)) (wsCons (wsFor (iEnm (wVar 0)) (gtTp 2 (gtsCons (gtNm 2) (gtsCons (gtTp 2 (gtsCons (gtNm 3) (gtsCons (gtNm 4) gtsNil))) gtsNil))) (wsEx (wApp 1 (wFr (wIf (wBorT (wB (wOp2 (up2 gIs) (oS 3) (oE (wC .non))))) (wTup (aCons (oF (wVar 2)) aNil)) (wTup (aStar (wOp2 (up2 gIx) (oS 1) (oS 3)) (aCons (oF (wVar 2)) aNil)))))))) (wsRet (wFr (wCB fTuple (aCons (oS 1) aNil))))))
theorem enumD_get (l : List D) {i : Nat} {d : D} (h : l[i]? = some d) : (enumD l)[i]? = some (.tup [.int i, d]) := by
  unfold enumD
  rw [List.getElem?_mapIdx, h]
  rfl
theorem enumD_get' {l : List D} {i : Nat} {d : D} (h : l[i]? = some d) (hi : i < (enumD l).length) : (enumD l)[i] = .tup [.int i, d] := by
  have := enumD_get l h
  rw [List.getElem?_eq_getElem hi] at this
  exact Option.some.inj this
theorem getD_map {α : Type} {f : α → D} {l : List α} {i : Nat} {a : α} (h : l[i]? = some a) (hi : i < (l.map f).length) : (l.map f)[i] = f a := by
  have : (l.map f)[i]? = some (f a) := by rw [List.getElem?_map, h]; rfl
  rw [List.getElem?_eq_getElem hi] at this
  exact Option.some.inj this
theorem s_paths_by : ∀ ns k x, S_paths_by ns k x → ns.length = 1 → W_paths_by (startE N_paths_by ns) (endsOf 1 k) (xOf 1 x) := by
  rintro _ k x ⟨cs, rfl, hw, h⟩ _
  simp [W_paths_by, N_paths_by, endsOf]
  refine forL_ind0 (fun i e => ∃ x y z, e = [some (.d (.lst (cs.map cD))), some (.lst (tkM (fun j => .d (pT cs (some j))) (List.range cs.length) i)), x, y, z]) ⟨none, none, none, by simp⟩ ?_ ?_
  · rintro i hi _ kk ⟨u, v, z, rfl⟩ hk
    have hi' : i < cs.length := by simpa using hi
    obtain ⟨r, hr⟩ : ∃ r, cs[i]? = some r := ⟨_, List.getElem?_eq_getElem hi'⟩
    have hrD : (cs.map cD)[i]? = some (cD r) := by rw [List.getElem?_map, hr]; rfl
    have hrg : (List.range cs.length)[i]? = some i := by simp [hi']
    have up := (hw.c i r hr).1
    have big := big_sizeLine
    have l20 := hw.cl
    have fin := tkM_succ (fun j : Nat => N.d (pT cs (some j))) hrg
    rw [fin] at hk
    have hb : (tkM (fun j : Nat => N.d (pT cs (some j))) (List.range cs.length) i).length < sizeLine := by rw [tkM_len]; simp; omega
    have hp := pathN_some hw hr
    obtain ⟨a, m⟩ := r
    rw [enumD_get' hrD hi]
    have hpl : (pathN cs a).length ≤ cs.length + 1 := pathA_len cs (cs.length + 1) a
    have e2 : pT cs (some i) = .tup (nD (pathN cs a) ++ [.int i]) := by rw [pT, hp, nD_app]; rfl
    simp [cD]
    cases a with
    | none =>
      simp [gIs, isD, frzE]
      refine ⟨by omega, hb, ?_⟩
      have e2 : pT cs (some i) = .tup [.int i] := e2
      rw [← e2]
      exact hk _ ⟨_, _, _, rfl⟩
    | some a =>
      have ha : a < i := up
      have hra : (List.range cs.length)[a]? = some a := by rw [List.getElem?_range (by omega)]
      have hga := tkM_get (fun j : Nat => pT cs (some j)) (i := i) hra ha
      simp [gIs, isD, frzE, hga]
      rw [show pT cs (some a) = .tup (nD (pathN cs (some a))) from rfl]
      simp [seq_tup]
      refine ⟨by omega, hb, ?_⟩
      rw [← e2]
      exact hk _ ⟨_, _, _, rfl⟩
  · rintro _ ⟨u, v, z, rfl⟩
    rw [show (enumD (List.map cD cs)).length = (List.range cs.length).length by simp, tkM_all]
    simp [fTuple_map (fun j : Nat => pT cs (some j)), views_mapF (fun j : Nat => pT cs (some j))]
    exact h

def covN (cs : List Cv) : N := .obj "Covers" ["rows", "paths"] [.d (.tup (cs.map cD)), .d (.tup ((List.range cs.length).map fun i => pT cs (some i)))]
@[simp] theorem covN_view (cs : List Cv) : (covN cs).view = covD cs := by simp [covN, covD, pT]
def S_Covers_init : FS := fun ns k _ => ∃ cs, ns = [.obj "Covers" [] [], .d (.lst (cs.map cD))] ∧ Cok cs ∧ k (.d .non) [some (covN cs), some (.d (.lst (cs.map cD)))]
@[simp] theorem c_Covers_init {cs : List Cv} {k : N → Env → Prop} {x : XP} : S_Covers_init [.obj "Covers" [] [], .d (.lst (cs.map cD))] k x ↔ Cok cs ∧ k (.d .non) [some (covN cs), some (.d (.lst (cs.map cD)))] := by
  simp [S_Covers_init, map_inj' cD_inj]
@[simp] theorem c_paths_by {cs : List Cv} {k : N → Env → Prop} {x : XP} : S_paths_by [.d (.lst (cs.map cD))] k x ↔ Cok cs ∧ k (.d (.tup ((List.range cs.length).map fun i => pT cs (some i)))) [some (.d (.lst (cs.map cD)))] := by
  simp [S_paths_by, map_inj' cD_inj]
@[simp] theorem atOk_cr : at_ "Covers" "rows" = true := by decide +kernel
@[simp] theorem atOk_cp : at_ "Covers" "paths" = true := by decide +kernel
@[simp] theorem atOk_sc : at_ "Search" "covers" = true := by decide +kernel
@[simp] theorem atOk_si : at_ "Search" "inspections" = true := by decide +kernel
@[simp] theorem atOk_sr : at_ "Search" "rows" = true := by decide +kernel
@[simp] theorem atOk_sa : at_ "Search" "above" = true := by decide +kernel
def S_Covers_len : FS := fun ns k _ => ∃ cs, ns = [.d (covD cs)] ∧ k (.d (.int (cs.length : Nat))) [some (.d (covD cs))]
@[simp] theorem c_Covers_len {cs : List Cv} {k : N → Env → Prop} {x : XP} : S_Covers_len [.d (covD cs)] k x ↔ k (.d (.int (cs.length : Nat))) [some (.d (covD cs))] := by
  simp [S_Covers_len]
def S_Search_len : FS := fun ns k _ => ∃ cs js, ns = [.d (seaD cs js)] ∧ k (.d (.int ((cs.length + js.length : Nat) : Int))) [some (.d (seaD cs js))]
@[simp] theorem c_Search_len {cs : List Cv} {js : List Jb} {k : N → Env → Prop} {x : XP} : S_Search_len [.d (seaD cs js)] k x ↔ k (.d (.int ((cs.length + js.length : Nat) : Int))) [some (.d (seaD cs js))] := by
  constructor
  · rintro ⟨cs', js', e, h⟩
    simp at e
    obtain ⟨rfl, rfl⟩ := e
    exact h
  · intro h
    exact ⟨cs, js, rfl, h⟩
def S_Search_contains : FS := fun ns k _ => ∃ cs js v, ns = [.d (seaD cs js), .d v] ∧ isaOk v = true ∧ k (.d (.bl (isIxD ((cs.length + js.length : Nat) : Int) v))) [some (.d (seaD cs js)), some (.d v)]
@[simp] theorem c_Search_contains {cs : List Cv} {js : List Jb} {v : D} {k : N → Env → Prop} {x : XP} : S_Search_contains [.d (seaD cs js), .d v] k x ↔ isaOk v = true ∧ k (.d (.bl (isIxD ((cs.length + js.length : Nat) : Int) v))) [some (.d (seaD cs js)), some (.d v)] := by
  constructor
  · rintro ⟨cs', js', v', e, h⟩
    simp at e
    obtain ⟨⟨rfl, rfl⟩, rfl⟩ := e
    exact h
  · intro h
    exact ⟨cs, js, v, rfl, h⟩
def seaN (cs : List Cv) (js : List Jb) : N := .obj "Search" ["covers", "inspections", "rows", "above"] [.d (covD cs), .d (.tup (js.map jD)), .d (.tup ((rowsOf cs js).map jD)), .d (abvD cs js)]
@[simp] theorem seaN_view (cs : List Cv) (js : List Jb) : (seaN cs js).view = seaD cs js := by simp [seaN, seaD]
def insD (b : Bool) (js : List Jb) : D := if b then .tup (js.map jD) else .lst (js.map jD)
@[simp] theorem insD_inj {b b' : Bool} {js js' : List Jb} : insD b js = insD b' js' ↔ b = b' ∧ js = js' := by
  cases b <;> cases b' <;> simp [insD, map_inj' jD_inj]
def S_Search_init : FS := fun ns k _ => ∃ cs js b, ns = [.obj "Search" [] [], .d (covD cs), .d (insD b js)] ∧ Wok cs js ∧ k (.d .non) [some (seaN cs js), some (.d (covD cs)), some (.d (insD b js))]
theorem c_Search_init {b : Bool} {cs : List Cv} {js : List Jb} {k : N → Env → Prop} {x : XP} : S_Search_init [.obj "Search" [] [], .d (covD cs), .d (insD b js)] k x ↔ Wok cs js ∧ k (.d .non) [some (seaN cs js), some (.d (covD cs)), some (.d (insD b js))] := by
  constructor
  · rintro ⟨cs', js', b', e, h⟩
    simp at e
    obtain ⟨rfl, rfl, rfl⟩ := e
    exact h
  · intro h
    exact ⟨cs, js, b, rfl, h⟩
theorem x_above_by {cs : List Cv} {js : List Jb} {k : N → Env → Prop} {x : XP} (hw : Wok cs js) (h : k (.d (abvD cs js)) [some (.d (.tup ((rowsOf cs js).map jD)))]) : S_above_by [.d (.tup ((rowsOf cs js).map jD))] k x := ⟨cs, js, rfl, hw, h⟩
@[simp] theorem views_comp {α : Type} (f : α → D) (l : List α) : N.views (l.map (N.d ∘ f)) = l.map f := views_mapF f l
@[simp] theorem allD_comp {α : Type} (f : α → D) (l : List α) : allD (l.map (N.d ∘ f)) = some (l.map f) := views_mapD f l
@[simp] theorem ne_pr : ¬ (Str.ofString "paths" = Str.ofString "rows") := by decide +kernel
@[simp] theorem ne_ic : ¬ (Str.ofString "inspections" = Str.ofString "covers") := by decide +kernel
@[simp] theorem ne_rc : ¬ (Str.ofString "rows" = Str.ofString "covers") := by decide +kernel
@[simp] theorem ne_ri : ¬ (Str.ofString "rows" = Str.ofString "inspections") := by decide +kernel
@[simp] theorem ne_ac : ¬ (Str.ofString "above" = Str.ofString "covers") := by decide +kernel
@[simp] theorem ne_ai : ¬ (Str.ofString "above" = Str.ofString "inspections") := by decide +kernel
@[simp] theorem ne_ar : ¬ (Str.ofString "above" = Str.ofString "rows") := by decide +kernel
@[simp] theorem covD_obj (cs : List Cv) : (∃ x y, covD cs = .obj "Covers" x y) := ⟨_, _, rfl⟩
@[simp] theorem seaD_obj (cs : List Cv) (js : List Jb) : (∃ x y, seaD cs js = .obj "Search" x y) := ⟨_, _, rfl⟩
@[simp] theorem fld_p3 (a b c : D) : gFld at_ "rows" (.obj "Search" ["covers", "inspections", "rows"] [a, b, c]) = some (.d c) := rfl
def N_Covers_init : List Str := ["self", "rows"]
def W_Covers_init : WS := (wsCons (wsIf (wBorT (wNot (wB (wCall 1 S_are_rows (aCons (oS 1) aNil))))) wsNever wsNil) (wsCons (wsFld at_ 0 "rows" (wFr (wCB fTuple (aCons (oS 1) aNil)))) (wsFld at_ 0 "paths" (wFr (wCall 1 S_paths_by (aCons (oS 1) aNil))))))
def N_Covers_len : List Str := ["self"]
def W_Covers_len : WS := (wsRet (wFr (wCB (upL gLen) (aCons (oE (wOp1 (up1 (gFld at_ "rows")) (oS 0))) aNil))))
def N_Search_init : List Str := ["self", "covers", "inspections", "above", "minutes", "item"]
def W_Search_init : WS := (wsCons (wsIf (wBorT (wOr (wNot (wB (wCall 1 S_is_list (aCons (oS 2) aNil)))) (wNot (wB (wCB (upL gAll) (aCons (oE (wLc (iSeq (wVar 2)) (gtNm 5) wYes (wFr (wCall 2 S_is_inspection (aCons (oS 5) (aCons (oF (wLenO "Covers" S_Covers_len (oS 1))) aNil)))) [5])) aNil)))))) wsNever wsNil) (wsCons (wsFld at_ 0 "covers" (wFr (wVar 1))) (wsCons (wsFld at_ 0 "inspections" (wFr (wCB fTuple (aCons (oS 2) aNil)))) (wsCons (wsFld at_ 0 "rows" (wFr (wTup (aStar (wLc (iSeq (wOp1 (up1 (gFld at_ "rows")) (oS 1))) (gtTp 2 (gtsCons (gtNm 3) (gtsCons (gtNm 4) gtsNil))) wYes (wFr (wTup (aCons (oF (wVar 3)) (aCons (oF (wVar 4)) (aCons (oF (wC (.int 0))) aNil))))) [3, 4]) (aStar (wVar 2) aNil))))) (wsFld at_ 0 "above" (wFr (wCall 1 S_above_by (aCons (oF (wOp1 (up1 (gFld at_ "rows")) (oS 0))) aNil))))))))
def N_Search_len : List Str := ["self"]
def W_Search_len : WS := (wsRet (wFr (wCB (upL gLen) (aCons (oE (wOp1 (up1 (gFld at_ "rows")) (oS 0))) aNil))))
def N_Search_contains : List Str := ["self", "value"]
def W_Search_contains : WS := (wsRet (wBor (wCall 2 S_is_index (aCons (oS 1) (aCons (oF (wCB (upL gLen) (aCons (oE (wOp1 (up1 (gFld at_ "rows")) (oS 0))) aNil))) aNil)))))
theorem s_Covers_init : ∀ ns k x, S_Covers_init ns k x → ns.length = 2 → W_Covers_init (startE N_Covers_init ns) (endsOf 2 k) (xOf 2 x) := by
  rintro _ k x ⟨cs, rfl, hw, h⟩ _
  simp [W_Covers_init, N_Covers_init, endsOf, frzE, hw, fTuple]
  exact h
theorem s_Covers_len : ∀ ns k x, S_Covers_len ns k x → ns.length = 1 → W_Covers_len (startE N_Covers_len ns) (endsOf 1 k) (xOf 1 x) := by
  rintro _ k x ⟨cs, rfl, h⟩ _
  simp [W_Covers_len, N_Covers_len, endsOf]
  exact h
theorem s_Search_len : ∀ ns k x, S_Search_len ns k x → ns.length = 1 → W_Search_len (startE N_Search_len ns) (endsOf 1 k) (xOf 1 x) := by
  rintro _ k x ⟨cs, js, rfl, h⟩ _
  simp [W_Search_len, N_Search_len, endsOf] at h ⊢
  exact h
theorem s_Search_contains : ∀ ns k x, S_Search_contains ns k x → ns.length = 2 → W_Search_contains (startE N_Search_contains ns) (endsOf 2 k) (xOf 2 x) := by
  rintro _ k x ⟨cs, js, v, rfl, ho, h⟩ _
  simp [W_Search_contains, N_Search_contains, endsOf, frzE, ho] at h ⊢
  exact h
theorem s_Search_init : ∀ ns k x, S_Search_init ns k x → ns.length = 3 → W_Search_init (startE N_Search_init ns) (endsOf 3 k) (xOf 3 x) := by
  rintro _ k x ⟨cs, js, b, rfl, hw, h⟩ _
  have hs : seqOf (insD b js) = some (js.map jD) := by cases b <;> rfl
  have hq : isSeqD (insD b js) = true := by cases b <;> rfl
  have ho : isaOk (insD b js) = true := by cases b <;> rfl
  have ht : (fTuple [.d (insD b js)]).map N.view = some (.tup (js.map jD)) := by cases b <;> simp [fTuple, insD]
  have l20 := hw.cl
  have l21 := hw.jl
  have big := big_sizeLine
  obtain ⟨ft, hft, hfv⟩ : ∃ ft, fTuple [.d (insD b js)] = some ft ∧ ft.view = .tup (js.map jD) := by
    cases b
    · exact ⟨_, rfl, by simp⟩
    · exact ⟨_, rfl, by simp [insD]⟩
  simp [W_Search_init, N_Search_init, endsOf, frzE, hs, hq, ho, -wipeN_nil, -wipeN_cons]
  have z : (cs.length : Int) < 9223372036854775808 := by omega
  refine lcL_mapX jD (fun _ => .d (.bl true)) (fun r hr kk hk => ?_) (by omega) rfl fun e he => ?_
  · have := hw.j r hr
    simp [this, wipeN, z]
    exact hk _ rfl
  · simp [views_mapD, all_yes, hft, hfv, -wipeN_nil, -wipeN_cons]
    refine lcL_mapX cD (fun c => .d (jD (c.1, c.2, 0))) (fun r hr kk hk => ?_) (by omega) rfl fun e he => ?_
    · obtain ⟨a, m⟩ := r
      simp [cD, wipeN]
      exact ⟨by omega, hk _ rfl⟩
    · rw [he]
      have hm : cs.map (fun a => jD (a.1, a.2, 0)) ++ js.map jD = (rowsOf cs js).map jD := by simp [rowsOf]
      simp [wipeN, hs, views_mapF, hm]
      refine ⟨by omega, x_above_by hw ?_⟩
      simp
      exact h

/-! ### plain: jobs -/
def insN (n m : Nat) : List Nat := (List.range m).map (n + ·)
@[simp] theorem insN_len (n m : Nat) : (insN n m).length = m := by simp [insN]
theorem mem_insN {n m i : Nat} : i ∈ insN n m ↔ n ≤ i ∧ i < n + m := by
  unfold insN
  rw [List.mem_map]
  constructor
  · rintro ⟨a, h, rfl⟩
    have := List.mem_range.mp h
    omega
  · rintro ⟨h1, h2⟩
    exact ⟨i - n, List.mem_range.mpr (by omega), by omega⟩
theorem rangeD_insN (n m : Nat) : rangeD (n : Int) m = nD (insN n m) := by
  simp [rangeD, nD, insN, iD]
theorem rangeD_zero (m : Nat) : rangeD 0 m = nD (List.range m) := by
  simp [rangeD, nD, iD]
def sqD (b : Bool) (l : List Nat) : D := if b then .tup (nD l) else .lst (nD l)
@[simp] theorem sqD_inj {b b' : Bool} {l l' : List Nat} : sqD b l = sqD b' l' ↔ b = b' ∧ l = l' := by
  cases b <;> cases b' <;> simp [sqD]
@[simp] theorem seq_sqD (b : Bool) (l : List Nat) : seqOf (sqD b l) = some (nD l) := by cases b <;> rfl
@[simp] theorem isaOk_sqD (b : Bool) (l : List Nat) : isaOk (sqD b l) = true := by cases b <;> rfl
@[simp] theorem isSeqD_sqD (b : Bool) (l : List Nat) : isSeqD (sqD b l) = true := by cases b <;> rfl
@[simp] theorem gLen_sqD (b : Bool) (l : List Nat) : gLen [sqD b l] = some (.d (.int l.length)) := by cases b <;> simp [sqD]
theorem sqD_lst (l : List Nat) : D.lst (nD l) = sqD false l := rfl
theorem sqD_tup (l : List Nat) : D.tup (nD l) = sqD true l := rfl
def iV (i : Nat) : V := .int (i : Int)
theorem scVs_nD : ∀ l : List Nat, scVs (nD l) = some (l.map iV)
  | [] => rfl
  | i :: l => by
    show (scVs (iD i :: nD l)) = _
    unfold scVs
    rw [List.mapM_cons]
    have := scVs_nD l
    unfold scVs at this
    rw [this]
    rfl
theorem inV_nD (i : Nat) (l : List Nat) : inV (.int i) (l.map iV) = decide (i ∈ l) := by
  unfold inV
  rw [List.any_map, Bool.eq_iff_iff, List.any_eq_true]
  simp [eqV, iV]
  constructor
  · rintro ⟨x, h1, h2⟩
    obtain rfl : x = i := by omega
    exact h1
  · intro h
    exact ⟨i, h, rfl⟩
theorem inV_non (l : List Nat) : inV .non (l.map iV) = false := by
  unfold inV
  rw [List.any_map, Bool.eq_false_iff, Ne, List.any_eq_true]
  simp [eqV, iV]
@[simp] theorem inD_sq (i : Nat) (b : Bool) (l : List Nat) : inD (.int i) (sqD b l) = some (decide (i ∈ l)) := by
  cases b <;> simp [sqD, inD, scV, scVs_nD, inV_nD]
@[simp] theorem inD_iD (i : Nat) (b : Bool) (l : List Nat) : inD (iD i) (sqD b l) = some (decide (i ∈ l)) := inD_sq i b l
@[simp] theorem inD_oD (o : Option Nat) (b : Bool) (l : List Nat) : inD (oD o) (sqD b l) = some (decide (o ∈ l.map some)) := by
  cases o with
  | none => cases b <;> simp [sqD, inD, scV, scVs_nD, inV_non]
  | some i => simp
@[simp] theorem view_iD (i : Nat) : N.view (.d (iD i)) = iD i := by simp
@[simp] theorem eqD_iD (i j : Nat) : eqD (iD i) (iD j) = some (decide (i = j)) := by simp [eqD, iD]; omega
@[simp] theorem eqD_iO (i : Nat) (o : Option Nat) : eqD (iD i) (oD o) = some (decide (some i = o)) := by
  cases o with
  | none => simp [eqD, iD]
  | some j => simp [eqD, iD]; omega
def S_inspections_in : FS := fun ns k _ => ∃ cs js, ns = [.d (seaD cs js)] ∧ Wok cs js ∧ k (.d (sqD false (insN cs.length js.length))) [some (.d (seaD cs js))]
theorem c_inspections_in {cs : List Cv} {js : List Jb} {k : N → Env → Prop} {x : XP} (hw : Wok cs js) : S_inspections_in [.d (seaD cs js)] k x ↔ k (.d (sqD false (insN cs.length js.length))) [some (.d (seaD cs js))] := by
  constructor
  · rintro ⟨cs', js', e, _, h⟩
    simp at e
    obtain ⟨rfl, rfl⟩ := e
    exact h
  · intro h
    exact ⟨cs, js, rfl, hw, h⟩
def leftN (cs : List Cv) (js : List Jb) (l : List Nat) : List Nat := (insN cs.length js.length).filter fun i => decide (i ∉ l)
def S_left_out : FS := fun ns k _ => ∃ cs js b l, ns = [.d (seaD cs js), .d (sqD b l)] ∧ Wok cs js ∧ k (.d (sqD false (leftN cs js l))) [some (.d (seaD cs js)), some (.d (sqD b l))]
theorem c_left_out {cs : List Cv} {js : List Jb} {b : Bool} {l : List Nat} {k : N → Env → Prop} {x : XP} (hw : Wok cs js) : S_left_out [.d (seaD cs js), .d (sqD b l)] k x ↔ k (.d (sqD false (leftN cs js l))) [some (.d (seaD cs js)), some (.d (sqD b l))] := by
  constructor
  · rintro ⟨cs', js', b', l', e, _, h⟩
    simp at e
    obtain ⟨⟨rfl, rfl⟩, rfl, rfl⟩ := e
    exact h
  · intro h
    exact ⟨cs, js, b, l, rfl, hw, h⟩
def N_inspections_in : List Str := ["search"]
def W_inspections_in : WS := (wsRet (wFr (wLRg (wRg2 (wLenO "Covers" S_Covers_len (oE (wOp1 (up1 (gFld at_ "covers")) (oS 0)))) (wLenO "Search" S_Search_len (oS 0))))))
def N_left_out : List Str := ["search", "jobs", "job"]
def W_left_out : WS := (wsRet (wFr (wLc (iSeq (wCall 1 S_inspections_in (aCons (oS 0) aNil))) (gtNm 2) (wBorT (wB (wOp2 (up2 gNotIn) (oS 2) (oS 1)))) (wFr (wVar 2)) [2])))
theorem s_inspections_in : ∀ ns k x, S_inspections_in ns k x → ns.length = 1 → W_inspections_in (startE N_inspections_in ns) (endsOf 1 k) (xOf 1 x) := by
  rintro _ k x ⟨cs, js, rfl, hw, h⟩ _
  have l20 := hw.cl
  have l21 := hw.jl
  have z : (cs.length : Int) < 9223372036854775808 := by omega
  have z2 : (cs.length : Int) + (js.length : Int) < 9223372036854775808 := by omega
  have z3 : RgOk (cs.length : Int) ((cs.length : Int) + (js.length : Int)) := RgOk.of_le (by omega) (by omega) (by omega) (by omega)
  have z4 : ((cs.length : Int) + (js.length : Int) - (cs.length : Int)).toNat = js.length := by omega
  have z5 : (0 : Int) ≤ (cs.length : Int) + (js.length : Int) := by omega
  simp [W_inspections_in, N_inspections_in, endsOf, z, z2, z3, z4, z5, rangeD_insN, sqD_lst]
  exact h
theorem s_left_out : ∀ ns k x, S_left_out ns k x → ns.length = 2 → W_left_out (startE N_left_out ns) (endsOf 2 k) (xOf 2 x) := by
  rintro _ k x ⟨cs, js, b, l, rfl, hw, h⟩ _
  have big := big_sizeLine
  have l21 := hw.jl
  simp [W_left_out, N_left_out, endsOf, c_inspections_in hw, -wipeN_nil, -wipeN_cons]
  refine lcL_filX iD (fun i => decide (i ∉ l)) (fun i => .d (iD i)) (fun i hi kk hk => ?_) (by simp; omega) rfl fun e he => ?_
  · by_cases c : i ∈ l
    · simp [wipeN, gNotIn, frzE, c] at hk ⊢
      exact hk _ rfl
    · simp [wipeN, gNotIn, frzE, c] at hk ⊢
      exact hk _ rfl
  · rw [he]
    simp [wipeN, views_mapF]
    simpa [leftN, sqD, nD] using h

/-! ### sets of ints by two for-clauses -/
def iZ (i : Nat) : Int := (i : Int)
def zI (l : List Nat) : List Int := l.map iZ
theorem scI_all {g1 : GT} {w : WE} {own vs1 : List Nat} {E0 : Env}
    (h1 : ∀ (i : Nat) (e : Env) (kk : N → Env → Prop), wipeN e own = E0 → (∀ e', wipeN e' own = E0 → kk (.d (iD i)) e') → g1 (.d (iD i)) (wipeN e vs1) fun e1 => w e1 (fun n e3 => kk n e3) noX) :
    ∀ (l : List Nat) (zs : List Int) (e : Env) (k : List Int → Env → Prop), zs.length + l.length < 4000 → wipeN e own = E0 → (∀ e', wipeN e' own = E0 → k ((zI l).reverse ++ zs) e') → scI g1 wYes w vs1 (nD l) zs e k
  | [], zs, e, k, _, he, hk => by simpa [nD, scI, zI] using hk e he
  | i :: l, zs, e, k, hl, he, hk => by
    show g1 (.d (iD i)) (wipeN e vs1) fun e1 => w e1 (fun n e3 => match n with
      | .d (.int z) => zs.length < 4000 ∧ scI g1 wYes w vs1 (nD l) (z :: zs) e3 k
      | _ => False) noX
    refine h1 i e _ he fun e' he' => ?_
    have hl' : zs.length + (l.length + 1) < 4000 := by simpa using hl
    refine ⟨by omega, scI_all h1 l _ e' k (by simp; omega) he' fun e2 h2 => ?_⟩
    have := hk e2 h2
    simpa [zI, iZ] using this
theorem scL_all {α : Type} {g : GT} {wi1 : WI} {g1 : GT} {w : WE} {own vs1 : List Nat} {E0 : Env} (m : α → D) (p : α → List Nat)
    (h1 : ∀ (i : Nat) (e : Env) (kk : N → Env → Prop), wipeN e own = E0 → (∀ e', wipeN e' own = E0 → kk (.d (iD i)) e') → g1 (.d (iD i)) (wipeN e vs1) fun e1 => w e1 (fun n e3 => kk n e3) noX) :
    ∀ (xs : List α) (zs : List Int) (e : Env) (k : List Int → Env → Prop),
    (∀ a ∈ xs, ∀ kk : List D → Env → Prop, (∀ e', wipeN e' own = E0 → kk (nD (p a)) e') → g (.d (m a)) E0 fun e1 => wi1 e1 (fun l e3 => kk l e3) noX) →
    zs.length + (xs.flatMap p).length < 4000 → wipeN e own = E0 → (∀ e', wipeN e' own = E0 → k ((zI (xs.flatMap p)).reverse ++ zs) e') → scL g wYes wi1 g1 wYes w own vs1 (xs.map m) zs e k
  | [], zs, e, k, _, _, he, hk => by simpa [scL, zI] using hk e he
  | a :: xs, zs, e, k, h, hl, he, hk => by
    show g (.d (m a)) (wipeN e own) fun e1 => wi1 e1 (fun l1 e3 => scI g1 wYes w vs1 l1 zs e3 fun zs' e4 => scL g wYes wi1 g1 wYes w own vs1 (xs.map m) zs' e4 k) noX
    rw [he]
    rw [List.flatMap_cons, List.length_append] at hl
    refine h a List.mem_cons_self _ fun e' he' => ?_
    refine scI_all h1 (p a) zs e' _ (by omega) he' fun e2 h2 => ?_
    refine scL_all m p h1 xs _ e2 k (fun b hb => h b (List.mem_cons_of_mem _ hb)) (by simp [zI]; simp at hl; omega) h2 fun e3 h3 => ?_
    have := hk e3 h3
    simpa [zI] using this
@[simp] theorem wSortS_eq {Wd : World} {w : WE} {env : Env} {k : N → Env → Prop} {x : XP} : wSortS Wd w env k x = w env (fun n e => ∃ zs : List Int, n = .ext (seO Wd zs) ∧ (ddp zs).length < 64 ∧ k (.lst (((sortI (ddp zs)).map D.int).map N.d)) e) x := rfl
@[simp] theorem wSc2_eq {W : World} {wi wi1 : WI} {g g1 : GT} {t t1 : WT} {w : WE} {own vs1 : List Nat} {env : Env} {k : N → Env → Prop} {x : XP} : wSc2 W wi g t wi1 g1 t1 w own vs1 env k x = wi env (fun l e => scL g t wi1 g1 t1 w own vs1 l [] e (fun zs e2 => k (.ext (seO W zs)) (wipeN e2 own))) x := rfl
/-- sorted, of a list that has just the members of an ascending list -/
theorem sort_same {zs ms : List Int} (nd : zs.Nodup) (h : ms.Pairwise (· < ·)) (e : ∀ z, z ∈ zs ↔ z ∈ ms) : sortI zs = ms := by
  refine (sortI_eq ?_ (h.imp fun h => Int.le_of_lt h)).symm
  exact (List.perm_ext_iff_of_nodup (h.imp fun h z => by omega) nd).mpr fun z => (e z).symm
theorem zI_pw {l : List Nat} (h : l.Pairwise (· < ·)) : (zI l).Pairwise (· < ·) := by
  unfold zI
  rw [List.pairwise_map]
  exact h.imp fun h => by unfold iZ; omega
@[simp] theorem mem_zI {l : List Nat} {z : Int} : z ∈ zI l ↔ ∃ i ∈ l, (i : Int) = z := by simp [zI, iZ]
theorem map_zI (l : List Nat) : (zI l).map D.int = nD l := by simp [zI, nD]; exact fun a _ => rfl
/-! ### plain: what is needed -/
def aboveJ (cs : List Cv) (js : List Jb) (j : Nat) : Option Nat := ((rowsOf cs js)[j]?).bind (·.1)
def minJ (cs : List Cv) (js : List Jb) (j : Nat) : Int := (((rowsOf cs js)[j]?).map (·.2.1)).getD 0
def othN (cs : List Cv) (js : List Jb) (o : Option Nat) : List Nat := (insN cs.length js.length).filter fun j => decide (some j ≠ o)
def covL (cs : List Cv) (js : List Jb) (o : Option Nat) : List Nat := (othN cs js o).flatMap fun j => pathN cs (aboveJ cs js j)
def needC (cs : List Cv) (js : List Jb) (o : Option Nat) : List Nat := (List.range cs.length).filter fun c => decide (c ∈ covL cs js o)
def need (cs : List Cv) (js : List Jb) (o : Option Nat) : List Nat := needC cs js o ++ othN cs js o
theorem pathA_lt {cs : List Cv} : ∀ (k : Nat) (o : Option Nat), (∀ (i : Nat) x, cs[i]? = some x → upTo i x.1) → upTo cs.length o → ∀ i ∈ pathA cs k o, i < cs.length
  | 0, _, _, _, i, hi => by simp [pathA] at hi
  | k + 1, none, _, _, i, hi => by simp [pathA] at hi
  | k + 1, some a, hc, ho, i, hi => by
    rw [pathA, List.mem_append, List.mem_singleton] at hi
    have ha : a < cs.length := ho
    rcases hi with hi | rfl
    · refine pathA_lt k _ hc ?_ i hi
      rw [List.getElem?_eq_getElem ha]
      have := hc a _ (List.getElem?_eq_getElem ha)
      show upTo cs.length cs[a].1
      cases q : cs[a].1 with
      | none => trivial
      | some b =>
        rw [q] at this
        exact Nat.lt_trans this ha
    · exact ha
theorem aboveJ_up {cs : List Cv} {js : List Jb} (w : Wok cs js) (j : Nat) : upTo (min j cs.length) (aboveJ cs js j) := by
  unfold aboveJ
  cases q : (rowsOf cs js)[j]? with
  | none => trivial
  | some r => exact rows_up w q
theorem upTo_mono {a b : Nat} {o : Option Nat} (h : upTo a o) (e : a ≤ b) : upTo b o := by
  cases o with
  | none => trivial
  | some i => exact Nat.lt_of_lt_of_le h e
theorem covL_lt {cs : List Cv} {js : List Jb} (w : Wok cs js) (o : Option Nat) : ∀ c ∈ covL cs js o, c < cs.length := by
  intro c hc
  obtain ⟨j, _, hj⟩ := List.mem_flatMap.mp hc
  exact pathA_lt _ _ (fun i x h => (w.c i x h).1) (upTo_mono (aboveJ_up w j) (Nat.min_le_right _ _)) c hj
theorem needC_pw (cs : List Cv) (js : List Jb) (o : Option Nat) : (needC cs js o).Pairwise (· < ·) := List.Pairwise.filter _ List.pairwise_lt_range
theorem mem_needC {cs : List Cv} {js : List Jb} (w : Wok cs js) {o : Option Nat} {c : Nat} : c ∈ needC cs js o ↔ c ∈ covL cs js o := by
  unfold needC
  rw [List.mem_filter, List.mem_range]
  simp
  exact fun h => covL_lt w o c h
theorem flat_le {α β : Type} (f : α → List β) (b : Nat) : ∀ (l : List α), (∀ a ∈ l, (f a).length ≤ b) → (l.flatMap f).length ≤ l.length * b
  | [], _ => by simp
  | a :: l, h => by
    have h1 := h a List.mem_cons_self
    have h2 := flat_le f b l fun a ha => h a (List.mem_cons_of_mem _ ha)
    rw [List.flatMap_cons, List.length_append, List.length_cons, Nat.succ_mul]
    omega
theorem othN_len (cs : List Cv) (js : List Jb) (o : Option Nat) : (othN cs js o).length ≤ js.length := by
  have := List.length_filter_le (fun j => decide (some j ≠ o)) (insN cs.length js.length)
  rwa [insN_len] at this
theorem covL_len {cs : List Cv} {js : List Jb} (w : Wok cs js) (o : Option Nat) : (covL cs js o).length ≤ 420 := by
  have h := flat_le (fun j => pathN cs (aboveJ cs js j)) 21 (othN cs js o) fun j _ => Nat.le_trans (pathA_len _ _ _) (by have := w.cl; omega)
  have h2 := othN_len cs js o
  have h3 := w.jl
  have : (othN cs js o).length * 21 ≤ 20 * 21 := Nat.mul_le_mul_right _ (by omega)
  unfold covL
  omega
theorem needC_len (cs : List Cv) (js : List Jb) (o : Option Nat) : (needC cs js o).length ≤ cs.length := by
  have := List.length_filter_le (fun c => decide (c ∈ covL cs js o)) (List.range cs.length)
  rwa [List.length_range] at this
def S_jobs_without : FS := fun ns k _ => ∃ cs js o, ns = [.d (seaD cs js), .d (oD o)] ∧ Wok cs js ∧ k (.lst ((nD (need cs js o)).map N.d)) [some (.d (seaD cs js)), some (.d (oD o))]
theorem c_jobs_without {cs : List Cv} {js : List Jb} {o : Option Nat} {k : N → Env → Prop} {x : XP} (hw : Wok cs js) : S_jobs_without [.d (seaD cs js), .d (oD o)] k x ↔ k (.lst ((nD (need cs js o)).map N.d)) [some (.d (seaD cs js)), some (.d (oD o))] := by
  constructor
  · rintro ⟨cs', js', o', e, _, h⟩
    simp at e
    obtain ⟨⟨rfl, rfl⟩, rfl⟩ := e
    exact h
  · intro h
    exact ⟨cs, js, o, rfl, hw, h⟩
def N_jobs_without : List Str := ["search", "left", "others", "job", "cover"]
def W_jobs_without (P : Program) (w : World) : WS := (wsCons (wsSet 2 (wLc (iSeq (wCall 1 S_inspections_in (aCons (oS 0) aNil))) (gtNm 3) (wBorT (wB (wOp2 (up2 gNe) (oS 3) (oS 1)))) (wFr (wVar 3)) [3])) (wsRet (wOp2 (up2 gAdd) (oE (wSortS w (wSc2 w (iSeq (wVar 2)) (gtNm 3) wYes (iSeq (wOp2 (up2 gIx) (oE (wOp1 (up1 (gFld at_ "above")) (oS 0))) (oS 3))) (gtNm 4) wYes (wVar 4) [3, 4] [4]))) (oS 2))))
theorem wipe34 {e : Env} {a b c : Option N} (h : wipeN e [3, 4] = [a, b, c, none, none]) : ∃ x y, e = [a, b, c, x, y] := by
  match e, h with
  | [a', b', c', x, y], h =>
    simp [wipeN] at h
    exact ⟨x, y, by simp [h]⟩
  | [], h => simp [wipeN] at h
  | [_], h => simp [wipeN] at h
  | [_, _], h => simp [wipeN] at h
  | [_, _, _], h => simp [wipeN] at h
  | [_, _, _, _], h => simp [wipeN] at h
  | _ :: _ :: _ :: _ :: _ :: _ :: _, h => simp [wipeN] at h
theorem s_jobs_without (P : Program) (w : World) : ∀ ns k x, S_jobs_without ns k x → ns.length = 2 → W_jobs_without P w (startE N_jobs_without ns) (endsOf 2 k) (xOf 2 x) := by
  rintro _ k x ⟨cs, js, o, rfl, hw, h⟩ _
  have big := big_sizeLine
  have l20 := hw.cl
  have l21 := hw.jl
  have hol := othN_len cs js o
  have hcl := needC_len cs js o
  simp [W_jobs_without, N_jobs_without, endsOf, c_inspections_in hw, -wipeN_nil, -wipeN_cons]
  refine lcL_filX (E0 := [some (.d (seaD cs js)), some (.d (oD o)), none, none, none]) iD (fun j => decide (some j ≠ o)) (fun i => .d (iD i)) (fun i hi kk hk => ?_) (by simp; omega) rfl fun e he => ?_
  · by_cases c : some i = o
    · simp [wipeN, gNe, frzE, c] at hk ⊢
      exact hk _ rfl
    · simp [wipeN, gNe, frzE, c] at hk ⊢
      exact hk _ rfl
  · rw [he]
    rw [show (insN cs.length js.length).filter (fun j => decide (some j ≠ o)) = othN cs js o from rfl]
    simp [views_mapF, seq_lst, -wipeN_nil, -wipeN_cons]
    refine scL_all (E0 := [some (.d (seaD cs js)), some (.d (oD o)), some (.d (.lst ((othN cs js o).map iD))), none, none]) iD (fun j => pathN cs (aboveJ cs js j)) (fun i e kk he hk => ?_) (othN cs js o) [] _ _ (fun j hj kk hk => ?_) ?_ rfl fun e2 h2 => ?_
    · obtain ⟨u, v, rfl⟩ := wipe34 he
      simp [wipeN]
      refine hk _ rfl
    · have hjn := mem_insN.mp (List.mem_filter.mp hj).1
      obtain ⟨r, hr⟩ : ∃ r, (rowsOf cs js)[j]? = some r := ⟨_, List.getElem?_eq_getElem (by simp; omega)⟩
      have ha : aboveJ cs js j = r.1 := by rw [aboveJ, hr]; rfl
      rw [ha] at hk
      have hg : gIx (abvD cs js) (iD j) = some (.d (pT cs r.1)) := by
        show gIx (.tup ((rowsOf cs js).map fun r => pT cs r.1)) (.int (j : Int)) = _
        rw [gIx_tup, List.getElem?_map, hr]
        rfl
      simp [wipeN, hg]
      exact hk _ rfl
    · have := covL_len hw o
      unfold covL at this
      simp only [List.length_nil]
      omega
    · have hz : sortI (ddp ((zI ((othN cs js o).flatMap fun j => pathN cs (aboveJ cs js j))).reverse ++ [])) = zI (needC cs js o) := by
        refine sort_same (nodup_ddp _) (zI_pw (needC_pw cs js o)) fun z => ?_
        rw [mem_ddp, List.append_nil, List.mem_reverse, mem_zI, mem_zI]
        constructor
        · rintro ⟨i, hi, e⟩
          exact ⟨i, (mem_needC hw).mpr hi, e⟩
        · rintro ⟨i, hi, e⟩
          exact ⟨i, (mem_needC hw).mp hi, e⟩
      refine ⟨_, rfl, ?_, ?_⟩
      · have h1 := congrArg List.length hz
        unfold sortI at h1
        rw [List.length_mergeSort] at h1
        rw [h1]
        simp [zI]
        omega
      · rw [hz, map_zI, h2]
        have hlen : (needC cs js o).length + (othN cs js o).length ≤ sizeLine := by omega
        simp [gAdd, hlen]
        simpa [need, nD] using h

/-! ### plain: orders -/
def sumM (cs : List Cv) (js : List Jb) (l : List Nat) : Int := (l.map (minJ cs js)).sum
def S_minutes_in : FS := fun ns k _ => ∃ cs js b l, ns = [.d (seaD cs js), .d (sqD b l)] ∧ (∀ j ∈ l, j < cs.length + js.length) ∧ l.length ≤ 1000 ∧ k (.d (.int (sumM cs js l))) [some (.d (seaD cs js)), some (.d (sqD b l))]
theorem x_minutes_in {cs : List Cv} {js : List Jb} {b : Bool} {l : List Nat} {k : N → Env → Prop} {x : XP} (h1 : ∀ j ∈ l, j < cs.length + js.length) (h2 : l.length ≤ 1000) (h : k (.d (.int (sumM cs js l))) [some (.d (seaD cs js)), some (.d (sqD b l))]) : S_minutes_in [.d (seaD cs js), .d (sqD b l)] k x := ⟨cs, js, b, l, rfl, h1, h2, h⟩
/-- what can be left out -/
def choO (cs : List Cv) (js : List Jb) : List (Option Nat) := if js = [] then [none] else (insN cs.length js.length).map some
def S_choices : FS := fun ns k _ => ∃ cs js, ns = [.d (seaD cs js)] ∧ Wok cs js ∧ k (.d (.lst ((choO cs js).map oD))) [some (.d (seaD cs js))]
theorem x_choices {cs : List Cv} {js : List Jb} {k : N → Env → Prop} {x : XP} (hw : Wok cs js) (h : k (.d (.lst ((choO cs js).map oD))) [some (.d (seaD cs js))]) : S_choices [.d (seaD cs js)] k x := ⟨cs, js, rfl, hw, h⟩
def abvOk (dn : List Nat) : Option Nat → Bool
  | none => true
  | some a => decide (a ∈ dn)
/-- each job behind what is above it, none twice -/
def begB (cs : List Cv) (js : List Jb) : List Nat → List Nat → Bool
  | _, [] => true
  | dn, j :: l => !decide (j ∈ dn) && (abvOk dn (aboveJ cs js j) && begB cs js (dn ++ [j]) l)
def jv : Option (Bool × List Nat) → D
  | none => .non
  | some (b, l) => sqD b l
def jvOk (n : Nat) : Option (Bool × List Nat) → Prop
  | none => True
  | some (_, l) => (∀ j ∈ l, j < n) ∧ l.length ≤ 1000
def jvB (p : List Nat → Bool) : Option (Bool × List Nat) → Bool
  | none => false
  | some (_, l) => p l
def S_is_beginning : FS := fun ns k _ => ∃ cs js q, ns = [.d (seaD cs js), .d (jv q)] ∧ Wok cs js ∧ jvOk (cs.length + js.length) q ∧ k (.d (.bl (jvB (begB cs js []) q))) [some (.d (seaD cs js)), some (.d (jv q))]
theorem x_is_beginning {cs : List Cv} {js : List Jb} {q : Option (Bool × List Nat)} {k : N → Env → Prop} {x : XP} (hw : Wok cs js) (h1 : jvOk (cs.length + js.length) q) (h : k (.d (.bl (jvB (begB cs js []) q))) [some (.d (seaD cs js)), some (.d (jv q))]) : S_is_beginning [.d (seaD cs js), .d (jv q)] k x := ⟨cs, js, q, rfl, hw, h1, h⟩
theorem row_get {cs : List Cv} {js : List Jb} {j : Nat} (h : j < cs.length + js.length) : ∃ r, (rowsOf cs js)[j]? = some r ∧ aboveJ cs js j = r.1 ∧ minJ cs js j = r.2.1 := by
  obtain ⟨r, hr⟩ : ∃ r, (rowsOf cs js)[j]? = some r := ⟨_, List.getElem?_eq_getElem (by simpa using h)⟩
  exact ⟨r, hr, by rw [aboveJ, hr]; rfl, by rw [minJ, hr]; rfl⟩
theorem row_ix {cs : List Cv} {js : List Jb} {j : Nat} {r : Jb} (h : (rowsOf cs js)[j]? = some r) : gIx (.tup ((rowsOf cs js).map jD)) (iD j) = some (.d (jD r)) := by
  show gIx _ (.int (j : Int)) = _
  rw [gIx_tup, List.getElem?_map, h]
  rfl
@[simp] theorem jD_0 (r : Jb) : gIx (jD r) (.int 0) = some (.d (oD r.1)) := rfl
@[simp] theorem jD_1 (r : Jb) : gIx (jD r) (.int 1) = some (.d (.int r.2.1)) := rfl
@[simp] theorem jD_2 (r : Jb) : gIx (jD r) (.int 2) = some (.d (.int r.2.2)) := rfl
@[simp] theorem cD_0 (r : Cv) : gIx (cD r) (.int 0) = some (.d (oD r.1)) := rfl
@[simp] theorem cD_1 (r : Cv) : gIx (cD r) (.int 1) = some (.d (.int r.2)) := rfl
/-- the marks of what is done -/
def doneN (n : Nat) (dn : List Nat) : List N := (List.range n).map fun i => .d (.bl (decide (i ∈ dn)))
theorem doneN_get {n : Nat} {dn : List Nat} {j : Nat} (h : j < n) : (doneN n dn)[j]? = some (.d (.bl (decide (j ∈ dn)))) := by
  unfold doneN
  rw [List.getElem?_map, List.getElem?_range h]
  rfl
theorem doneN_set {n : Nat} {dn : List Nat} {j : Nat} (h : j < n) : (doneN n dn).set j (.d (.bl true)) = doneN n (dn ++ [j]) := by
  refine List.ext_getElem? fun i => ?_
  by_cases e : j = i
  · subst e
    rw [List.getElem?_set_self (by simp [doneN, h]), doneN_get h]
    simp
  · rw [List.getElem?_set_ne e]
    by_cases hi : i < n
    · rw [doneN_get hi, doneN_get hi]
      have : ¬ i = j := fun z => e z.symm
      simp [this]
    · rw [List.getElem?_eq_none (by simp [doneN]; omega), List.getElem?_eq_none (by simp [doneN]; omega)]
@[simp] theorem doneN_len (n : Nat) (dn : List Nat) : (doneN n dn).length = n := by simp [doneN]
def doneD (n : Nat) (dn : List Nat) : List D := (List.range n).map fun i => .bl (decide (i ∈ dn))
@[simp] theorem doneN_allD (n : Nat) (dn : List Nat) : allD (doneN n dn) = some (doneD n dn) := views_mapD (fun i => D.bl (decide (i ∈ dn))) _
@[simp] theorem doneN_views (n : Nat) (dn : List Nat) : N.views (doneN n dn) = doneD n dn := views_mapF (fun i => D.bl (decide (i ∈ dn))) _
theorem doneD_get {n : Nat} {dn : List Nat} {j : Nat} (h : j < n) : (doneD n dn)[j]? = some (.bl (decide (j ∈ dn))) := by
  rw [doneD, List.getElem?_map, List.getElem?_range h]
  rfl
theorem doneD_ix {n : Nat} {dn : List Nat} {j : Nat} (h : j < n) : gIx (.lst (doneD n dn)) (iD j) = some (.d (.bl (decide (j ∈ dn)))) := by
  show gIx _ (.int (j : Int)) = _
  rw [gIx_lst, doneD, List.getElem?_map, List.getElem?_range h]
  rfl
theorem doneN_nil (n : Nat) : List.replicate n (N.d (.bl false)) = doneN n [] := by
  refine List.ext_getElem? fun i => ?_
  by_cases hi : i < n
  · rw [doneN_get hi, List.getElem?_replicate, if_pos hi]
    rfl
  · rw [List.getElem?_eq_none (by simpa using hi), List.getElem?_eq_none (by simpa using hi)]
theorem flat_rep (n : Nat) : (List.replicate n [D.bl false]).flatten.map N.d = List.replicate n (N.d (.bl false)) := by
  induction n with
  | zero => rfl
  | succ n ih => rw [List.replicate_succ, List.flatten_cons, List.map_append, ih]; rfl
theorem gMul_done {n : Nat} (h : n ≤ 1000) : gMul (.lst [.bl false]) (.int (n : Int)) = some (.lst (doneN n [])) := by
  have big := big_sizeLine
  have c : 0 ≤ (n : Int) ∧ (n : Int) < 2 ^ 62 ∧ [D.bl false].length * (n : Int).toNat ≤ sizeLine := ⟨by omega, by omega, by simp; omega⟩
  rw [gMul.eq_2, if_pos c, ← doneN_nil, Int.toNat_natCast, flat_rep]
def N_minutes_in : List Str := ["search", "jobs", "job"]
def W_minutes_in : WS := (wsRet (wFr (wCB (upL gSum) (aCons (oE (wLc (iSeq (wVar 1)) (gtNm 2) wYes (wFr (wOp2 (up2 gIx) (oE (wOp2 (up2 gIx) (oE (wOp1 (up1 (gFld at_ "rows")) (oS 0))) (oS 2))) (oE (wC (.int 1))))) [2])) aNil))))
def N_choices : List Str := ["search"]
def W_choices : WS := (wsRet (wFr (wIf (wBorT (wB (wOp2 (up2 gGt) (oE (wCB (upL gLen) (aCons (oE (wOp1 (up1 (gFld at_ "inspections")) (oS 0))) aNil))) (oE (wC (.int 0)))))) (wCall 1 S_inspections_in (aCons (oS 0) aNil)) (wLst (aCons (oF (wC .non)) aNil)))))
def N_is_beginning : List Str := ["search", "value", "done", "job", "above"]
def V_is_beginning (gm gp : G2) : WS := (wsCons (wsIf (wBorT (wNot (wB (wCall 1 S_is_list (aCons (oS 1) aNil))))) (wsRet (wC (.bl false))) wsNil) (wsCons (wsSet 2 (wOp2 (up2 gm) (oE (wLst (aCons (oF (wC (.bl false))) aNil))) (oE (wLenO "Search" S_Search_len (oS 0))))) (wsCons (wsFor (iSeq (wVar 1)) (gtNm 3) (wsCons (wsIf (wBorT (wOr (wB (wInO true "Search" S_Search_contains (oS 3) (oS 0))) (wTr (oE (wOp2 (up2 gIx) (oS 2) (oS 3)))))) (wsRet (wC (.bl false))) wsNil) (wsCons (wsSet 4 (wFr (wOp2 (up2 gIx) (oE (wOp2 (up2 gIx) (oE (wOp1 (up1 (gFld at_ "rows")) (oS 0))) (oS 3))) (oE (wC (.int 0)))))) (wsCons (wsIf (wBorT (wAnd (wB (wOp2 (up2 gIsNot) (oS 4) (oE (wC .non)))) (wNot (wTr (oE (wOp2 (up2 gIx) (oS 2) (oS 4))))))) (wsRet (wC (.bl false))) wsNil) (wsPutL 2 (oS 3) (wFr (wC (.bl true)))))))) (wsRet (wC (.bl true))))))
def W_is_beginning : WS := V_is_beginning gMul gPow
theorem s_minutes_in : ∀ ns k x, S_minutes_in ns k x → ns.length = 2 → W_minutes_in (startE N_minutes_in ns) (endsOf 2 k) (xOf 2 x) := by
  rintro _ k x ⟨cs, js, b, l, rfl, h1, h2, h⟩ _
  have big := big_sizeLine
  simp [W_minutes_in, N_minutes_in, endsOf, -wipeN_nil, -wipeN_cons]
  refine lcL_mapX (E0 := [some (.d (seaD cs js)), some (.d (sqD b l)), none]) iD (fun j => .d (.int (minJ cs js j))) (fun j hj kk hk => ?_) (by omega) rfl fun e he => ?_
  · obtain ⟨r, hr, ha, hm⟩ := row_get (h1 j hj)
    rw [hm] at hk
    simp [row_ix hr]
    exact hk _ rfl
  · rw [he]
    simp [views_mapD, gSum_map]
    exact h
theorem s_choices : ∀ ns k x, S_choices ns k x → ns.length = 1 → W_choices (startE N_choices ns) (endsOf 1 k) (xOf 1 x) := by
  rintro _ k x ⟨cs, js, rfl, hw, h⟩ _
  have big := big_sizeLine
  simp [W_choices, N_choices, endsOf, frzE, gGt, c_inspections_in hw]
  cases js with
  | nil =>
    simp [choO] at h ⊢
    exact ⟨by omega, h⟩
  | cons j js =>
    rw [if_pos (by simp)]
    have e : oD ∘ some = iD := rfl
    simpa [choO, sqD, nD, e] using h

theorem s_is_beginning : ∀ ns k x, S_is_beginning ns k x → ns.length = 2 → W_is_beginning (startE N_is_beginning ns) (endsOf 2 k) (xOf 2 x) := by
  rintro _ k x ⟨cs, js, q, rfl, hw, h1, h⟩ _
  have big := big_sizeLine
  have l20 := hw.cl
  have l21 := hw.jl
  have z2 : (cs.length : Int) + (js.length : Int) < 9223372036854775808 := by omega
  have z5 : (0 : Int) ≤ (cs.length : Int) + (js.length : Int) := by omega
  have z1 : 1 ≤ sizeLine := by omega
  have aux : ∀ gm gp : G2, gm (.lst [.bl false]) (.int ((cs.length : Int) + (js.length : Int))) = some (.lst (doneN (cs.length + js.length) [])) →
      V_is_beginning gm gp (startE N_is_beginning [.d (seaD cs js), .d (jv q)]) (endsOf 2 k) (xOf 2 x) := by
    intro gm gp hm
    cases q with
    | none =>
      simp [V_is_beginning, N_is_beginning, endsOf, frzE, jv, isSeqD]
      exact h
    | some q =>
      obtain ⟨b, l⟩ := q
      obtain ⟨h1, h2⟩ := h1
      simp [V_is_beginning, N_is_beginning, endsOf, frzE, jv, z2, z5, z1, hm]
      refine forL_rec iD (fun dn r e => (∃ u v, e = [some (.d (seaD cs js)), some (.d (sqD b l)), some (.lst (doneN (cs.length + js.length) dn)), u, v]) ∧ begB cs js [] l = begB cs js dn r ∧ ∀ j ∈ r, j < cs.length + js.length) ?_ ?_ l [] _ ⟨⟨_, _, rfl⟩, rfl, h1⟩
      · rintro dn j r _ kk ⟨⟨u, v, rfl⟩, hb, hr⟩ hk
        have hj := hr j List.mem_cons_self
        have hr' : ∀ i ∈ r, i < cs.length + js.length := fun i hi => hr i (List.mem_cons_of_mem _ hi)
        have hjI : (j : Int) < (cs.length : Int) + (js.length : Int) := by omega
        obtain ⟨row, hrow, ha, _⟩ := row_get hj
        have up := upTo_mono (aboveJ_up hw j) (Nat.min_le_right _ _)
        rw [ha] at up
        by_cases c : j ∈ dn
        · have hf : begB cs js [] l = false := by rw [hb]; simp [begB, c]
          simp [frzE, doneD_get hj, iD, isIxD, hjI, c]
          simpa [jvB, hf, jv] using h
        · have hbb : begB cs js [] l = (abvOk dn row.1 && begB cs js (dn ++ [j]) r) := by rw [hb, begB, ha]; simp [c]
          have hix : ixN (cs.length + js.length) (j : Int) = some j := by
            unfold ixN
            rw [if_pos (by omega), if_pos (by omega), Int.toNat_natCast]
          have hset := doneN_set (dn := dn) hj
          cases q : row.1 with
          | none =>
            rw [q] at hbb
            simp [frzE, doneD_get hj, iD, isIxD, hjI, c, hrow, q, gIsNot, isD, hix, hset]
            exact hk _ ⟨⟨_, _, rfl⟩, by rw [hbb]; rfl, hr'⟩
          | some a =>
            rw [q] at hbb up
            have ha1 : a < cs.length := up
            have ha2 : a < cs.length + js.length := by omega
            by_cases d : a ∈ dn
            · simp [frzE, doneD_get hj, doneD_get ha2, iD, isIxD, hjI, c, hrow, q, gIsNot, isD, hix, hset, d]
              exact hk _ ⟨⟨_, _, rfl⟩, by rw [hbb]; simp [abvOk, d], hr'⟩
            · have hf : begB cs js [] l = false := by rw [hbb]; simp [abvOk, d]
              simp [frzE, doneD_get hj, doneD_get ha2, iD, isIxD, hjI, c, hrow, q, gIsNot, isD, hix, hset, d]
              simpa [jvB, hf, jv] using h
      · rintro dn _ ⟨⟨u, v, rfl⟩, hb, _⟩
        have hf : begB cs js [] l = true := by rw [hb]; rfl
        simpa [jvB, hf, jv] using h
  exact aux gMul gPow (by have := gMul_done (n := cs.length + js.length) (by omega); rwa [Int.natCast_add] at this)

/-! ### lists are equal -/
theorem toPys_map {α : Type} (f : α → D) (p : α → PyData) (h : ∀ a, toPy (f a) = some (p a)) : ∀ l : List α, toPys (l.map f) = some (l.map p)
  | [] => by simp [toPys]
  | a :: l => by
    rw [List.map_cons, toPys, h a, toPys_map f p h l]
    rfl
theorem canAll {α : Type} (p : α → PyData) (h : ∀ a, (p a).canLay0 = true) : ∀ l : List α, PyData.canLayAll0 (l.map p) = true
  | [] => by simp [PyData.canLayAll0]
  | a :: l => by
    rw [List.map_cons, PyData.canLayAll0, h a, canAll p h l]
    rfl
theorem depAll {α : Type} (p : α → PyData) (n : Nat) (h : ∀ a, (p a).depth ≤ n) : ∀ l : List α, PyData.depthAll (l.map p) ≤ n
  | [] => by simp [PyData.depthAll]
  | a :: l => by
    rw [List.map_cons, PyData.depthAll]
    have := h a
    have := depAll p n h l
    omega
theorem shp_map {α : Type} (p : α → PyData) (n : Nat) (h : ∀ a, (p a).canLay0 = true) (h2 : ∀ a, (p a).depth ≤ n) (hn : n ≤ 60) (l : List α) : SeqAt.shaped (.list (l.map p)) = true := by
  unfold SeqAt.shaped
  rw [PyData.canLay0, canAll p h l, PyData.depth]
  have := depAll p n h2 l
  simp
  omega
theorem eqD_lists {l m : List D} {ps qs : List PyData} (h1 : toPys l = some ps) (h2 : toPys m = some qs) (h3 : SeqAt.shaped (.list ps) = true) (h4 : SeqAt.shaped (.list qs) = true) : eqD (.lst l) (.lst m) = some (PyData.eqvAll ps qs) := by
  have e1 : toPy (.lst l) = some (.list ps) := by rw [toPy, h1]; rfl
  have e2 : toPy (.lst m) = some (.list qs) := by rw [toPy, h2]; rfl
  unfold eqD
  simp only [e1, e2]
  rw [if_pos ⟨h3, h4⟩, PyData.eqv]
theorem eqvAll_int : ∀ l m : List Int, PyData.eqvAll (l.map PyData.int) (m.map PyData.int) = decide (l = m)
  | [], [] => by simp [PyData.eqvAll]
  | [], _ :: _ => by simp [PyData.eqvAll]
  | _ :: _, [] => by simp [PyData.eqvAll]
  | a :: l, b :: m => by
    rw [List.map_cons, List.map_cons, PyData.eqvAll, eqvAll_int l m, PyData.eqv, Bool.eq_iff_iff]
    simp
theorem eqvAll_nil (l : List PyData) : PyData.eqvAll l [] = decide (l = []) := by
  cases l <;> simp [PyData.eqvAll]
theorem shp_int (l : List Int) : SeqAt.shaped (.list (l.map PyData.int)) = true := shp_map PyData.int 0 (fun _ => by rw [PyData.canLay0]) (fun _ => by rw [PyData.depth]; exact Nat.le_refl _) (by omega) l
theorem toPys_int (l : List Int) : toPys (l.map D.int) = some (l.map PyData.int) := toPys_map D.int PyData.int (fun _ => by rw [toPy]) l
@[simp] theorem eqD_ints (l m : List Int) : eqD (.lst (l.map D.int)) (.lst (m.map D.int)) = some (decide (l = m)) := by
  rw [eqD_lists (toPys_int l) (toPys_int m) (shp_int l) (shp_int m), eqvAll_int]
theorem zI_inj {l m : List Nat} : zI l = zI m ↔ l = m := map_inj' (by intro a b; unfold iZ; omega)
theorem eqD_intsN (l : List Int) (m : List Nat) : eqD (.lst (l.map D.int)) (.lst (nD m)) = some (decide (l = zI m)) := by
  rw [← map_zI, eqD_ints]
theorem eqD_sq (l m : List Nat) : eqD (.lst (nD l)) (.lst (nD m)) = some (decide (l = m)) := by
  rw [← map_zI, ← map_zI, eqD_ints]
  simp [zI_inj]
theorem eqD_sq0 (l : List Nat) : eqD (.lst (nD l)) (.lst []) = some (decide (l = [])) := eqD_sq l []
def oPy : Option Nat → PyData
  | none => .none
  | some i => .int i
theorem toPy_oD (o : Option Nat) : toPy (oD o) = some (oPy o) := by cases o <;> simp [oD, toPy, oPy]
theorem oPy_can (o : Option Nat) : (oPy o).canLay0 = true := by cases o <;> simp [oPy, PyData.canLay0]
theorem oPy_dep (o : Option Nat) : (oPy o).depth = 0 := by cases o <;> simp [oPy, PyData.depth]
theorem shp_nil : SeqAt.shaped (.list []) = true := shp_int []
theorem eqD_os0 (l : List (Option Nat)) : eqD (.lst (l.map oD)) (.lst []) = some (decide (l = [])) := by
  rw [eqD_lists (toPys_map oD oPy toPy_oD l) (by rw [toPys]) (shp_map oPy 0 oPy_can (fun o => by rw [oPy_dep]; exact Nat.le_refl _) (by omega) l) shp_nil, eqvAll_nil]
  simp
def jPy (j : Jb) : PyData := .tuple [oPy j.1, .int j.2.1, .int j.2.2]
theorem toPy_jD (j : Jb) : toPy (jD j) = some (jPy j) := by simp [jD, toPy, toPys, toPy_oD, jPy]
theorem eqD_js0 (l : List Jb) : eqD (.lst (l.map jD)) (.lst []) = some (decide (l = [])) := by
  rw [eqD_lists (toPys_map jD jPy toPy_jD l) (by rw [toPys]) (shp_map jPy 1 (fun j => by simp [jPy, PyData.canLay0, PyData.canLayAll0, oPy_can]) (fun o => by simp [jPy, PyData.depth, PyData.depthAll, oPy_dep]) (by omega) l) shp_nil, eqvAll_nil]
  simp
/-! ### plain: short orders -/
/-- l is a short order -/
def shoB (cs : List Cv) (js : List Jb) (l : List Nat) : Bool :=
  begB cs js [] l && (decide ((leftN cs js l).length = min 1 js.length) && decide (sortI (zI l) = zI (need cs js (leftN cs js l).head?)))
def S_is_short_order : FS := fun ns k _ => ∃ cs js q, ns = [.d (seaD cs js), .d (jv q)] ∧ Wok cs js ∧ jvOk (cs.length + js.length) q ∧ k (.d (.bl (jvB (shoB cs js) q))) [some (.d (seaD cs js)), some (.d (jv q))]
theorem x_is_short_order {cs : List Cv} {js : List Jb} {q : Option (Bool × List Nat)} {k : N → Env → Prop} {x : XP} (hw : Wok cs js) (h1 : jvOk (cs.length + js.length) q) (h : k (.d (.bl (jvB (shoB cs js) q))) [some (.d (seaD cs js)), some (.d (jv q))]) : S_is_short_order [.d (seaD cs js), .d (jv q)] k x := ⟨cs, js, q, rfl, hw, h1, h⟩
theorem allI_nD (l : List Nat) : allI (nD l) = some (zI l) := by rw [← map_zI, allI_map]
theorem gSortA_sq (b : Bool) (l : List Nat) : gSortA [sqD b l] = some (.lst (((sortI (zI l)).map D.int).map N.d)) := by
  cases b <;> simp [sqD, gSortA, allI_nD]
def N_is_short_order : List Str := ["search", "value", "left"]
def W_is_short_order : WS := (wsCons (wsIf (wBorT (wNot (wB (wCall 2 S_is_beginning (aCons (oS 0) (aCons (oS 1) aNil)))))) (wsRet (wC (.bl false))) wsNil) (wsCons (wsSet 2 (wFr (wCall 2 S_left_out (aCons (oS 0) (aCons (oS 1) aNil))))) (wsCons (wsIf (wBorT (wB (wOp2 (up2 gNe) (oE (wCB (upL gLen) (aCons (oS 2) aNil))) (oE (wCB (upL gMin) (aCons (oE (wC (.int 1))) (aCons (oE (wCB (upL gLen) (aCons (oE (wOp1 (up1 (gFld at_ "inspections")) (oS 0))) aNil))) aNil))))))) (wsRet (wC (.bl false))) wsNil) (wsRet (wBor (wOp2 (up2 gEq) (oE (wCB (upL gSortA) (aCons (oS 1) aNil))) (oF (wCall 2 S_jobs_without (aCons (oS 0) (aCons (oF (wIf (wBorT (wB (wOp2 (up2 gNe) (oS 2) (oE (wLst aNil))))) (wOp2 (up2 gIx) (oS 2) (oE (wC (.int 0)))) (wC .non))) aNil))))))))))
theorem s_is_short_order : ∀ ns k x, S_is_short_order ns k x → ns.length = 2 → W_is_short_order (startE N_is_short_order ns) (endsOf 2 k) (xOf 2 x) := by
  rintro _ k x ⟨cs, js, q, rfl, hw, h1, h⟩ _
  have big := big_sizeLine
  have l20 := hw.cl
  have l21 := hw.jl
  cases q with
  | none =>
    simp [W_is_short_order, N_is_short_order, endsOf, frzE]
    refine x_is_beginning hw h1 ?_
    simpa [jvB] using h
  | some q =>
    obtain ⟨b, l⟩ := q
    simp [W_is_short_order, N_is_short_order, endsOf, frzE]
    refine x_is_beginning hw h1 ?_
    cases hb : begB cs js [] l with
    | false => simpa [jvB, shoB, hb] using h
    | true =>
      have hmin : gMin [D.int 1, D.int (js.length : Int)] = some (.d (.int ((min 1 js.length : Nat) : Int))) := by
        show some (N.d (.int (if (js.length : Int) < 1 then (js.length : Int) else 1))) = _
        congr 3
        omega
      simp [jvB, hb, c_left_out hw, jv]
      rw [hmin]
      have hne : gNe (D.int (leftN cs js l).length) (D.int ((min 1 js.length : Nat) : Int)) = some (.d (.bl (!decide ((leftN cs js l).length = min 1 js.length)))) := by
        simp [gNe, eqD]
        omega
      by_cases hlen : (leftN cs js l).length = min 1 js.length
      · have hsh : shoB cs js l = decide (sortI (zI l) = zI (need cs js (leftN cs js l).head?)) := by simp [shoB, hb, hlen]
        simp only [jvB, hsh, jv] at h
        have g2 : ∀ m : List Nat, gEq (.lst ((sortI (zI l)).map D.int)) (.lst (nD m)) = some (.d (.bl (decide (sortI (zI l) = zI m)))) := fun m => by
          simp [gEq, eqD_intsN]
        have hn0 : gNe (D.int ((min 1 js.length : Nat) : Int)) (D.int ((min 1 js.length : Nat) : Int)) = some (.d (.bl false)) := by simp [gNe, eqD]
        rw [hlen]
        simp only [onS_some, flat_d, Option.bind_some, hn0, asBl_d, Bool.false_eq_true, if_false]
        cases hL : leftN cs js l with
        | nil =>
          rw [hL] at h hne hlen
          have g1 : gNe (sqD false []) (.lst []) = some (.d (.bl false)) := by simp [gNe, sqD, eqD_sq0]
          simp only [onS_some, flat_d, Option.bind_some, asBl_d, Bool.false_eq_true, if_false, gSortA_sq, g1]
          refine (c_jobs_without (o := none) hw).mpr ?_
          simp [g2]
          exact h
        | cons i t =>
          rw [hL] at h hne hlen
          have g1 : gNe (sqD false (i :: t)) (.lst []) = some (.d (.bl true)) := by simp [gNe, sqD, eqD_sq0]
          have g3 : gIx (sqD false (i :: t)) (.int 0) = some (.d (oD (some i))) := by
            show gIx (.lst (nD (i :: t))) (.int ((0 : Nat) : Int)) = _
            rw [gIx_lst]
            rfl
          simp only [onS_some, flat_d, Option.bind_some, asBl_d, Bool.false_eq_true, if_false, gSortA_sq, g1, if_true, g3, view_d]
          refine (c_jobs_without (o := some i) hw).mpr ?_
          simp [g2]
          exact h
      · have hsh : shoB cs js l = false := by simp [shoB, hb, hlen]
        simp only [jvB, hsh, jv] at h
        simp [hne, hlen]
        exact h

theorem need_lt {cs : List Cv} {js : List Jb} (o : Option Nat) : ∀ j ∈ need cs js o, j < cs.length + js.length := by
  intro j hj
  rcases List.mem_append.mp hj with h | h
  · have := List.mem_range.mp (List.mem_filter.mp h).1
    omega
  · exact (mem_insN.mp (List.mem_filter.mp h).1).2
theorem need_len {cs : List Cv} {js : List Jb} (hw : Wok cs js) (o : Option Nat) : (need cs js o).length ≤ 40 := by
  have := hw.cl
  have := hw.jl
  have := needC_len cs js o
  have := othN_len cs js o
  unfold need
  rw [List.length_append]
  omega
def minsO (cs : List Cv) (js : List Jb) (o : Option Nat) : Int := sumM cs js (need cs js o)
def stepQ (cs : List Cv) (js : List Jb) : Option (Option Nat) → Option Nat → Option (Option Nat)
  | none, o => some o
  | some b, o => if minsO cs js o < minsO cs js b then some o else some b
def quickO (cs : List Cv) (js : List Jb) : Option Nat := ((choO cs js).foldl (stepQ cs js) none).getD none
def foundN (cs : List Cv) (js : List Jb) (o : Option Nat) : N := .tup [.d (.int (minsO cs js o)), .lst ((nD (need cs js o)).map N.d), .d (oD o)]
def foundO (cs : List Cv) (js : List Jb) : Option (Option Nat) → N
  | none => .d .non
  | some o => foundN cs js o
def S_quickest_short_order : FS := fun ns k _ => ∃ cs js, ns = [.d (seaD cs js)] ∧ Wok cs js ∧ k (foundN cs js (quickO cs js)) [some (.d (seaD cs js))]
theorem x_quickest {cs : List Cv} {js : List Jb} {k : N → Env → Prop} {x : XP} (hw : Wok cs js) (h : k (foundN cs js (quickO cs js)) [some (.d (seaD cs js))]) : S_quickest_short_order [.d (seaD cs js)] k x := ⟨cs, js, rfl, hw, h⟩
theorem stepQ_some (cs : List Cv) (js : List Jb) (l : List (Option Nat)) (b : Option Nat) : ∃ c, l.foldl (stepQ cs js) (some b) = some c := by
  induction l generalizing b with
  | nil => exact ⟨b, rfl⟩
  | cons o l ih =>
    rw [List.foldl_cons]
    have : stepQ cs js (some b) o = if minsO cs js o < minsO cs js b then some o else some b := rfl
    rw [this]
    split
    · exact ih o
    · exact ih b
theorem choO_ne (cs : List Cv) (js : List Jb) : choO cs js ≠ [] := by
  unfold choO
  split
  · simp
  · rename_i h
    intro z
    have := congrArg List.length z
    simp at this
    exact h this
theorem quickO_eq (cs : List Cv) (js : List Jb) : (choO cs js).foldl (stepQ cs js) none = some (quickO cs js) := by
  have : ∃ c, (choO cs js).foldl (stepQ cs js) none = some c := by
    cases q : choO cs js with
    | nil => exact absurd q (choO_ne cs js)
    | cons o l =>
      rw [List.foldl_cons]
      exact stepQ_some cs js l o
  obtain ⟨c, hc⟩ := this
  unfold quickO
  rw [hc]
  rfl
def N_quickest_short_order : List Str := ["search", "found", "left", "jobs", "minutes"]
def W_quickest_short_order : WS := (wsCons (wsSet 1 (wC .non)) (wsCons (wsFor (iSeq (wCall 1 S_choices (aCons (oS 0) aNil))) (gtNm 2) (wsCons (wsSet 3 (wCall 2 S_jobs_without (aCons (oS 0) (aCons (oS 2) aNil)))) (wsCons (wsSet 4 (wFr (wBor (wCall 2 S_minutes_in (aCons (oS 0) (aCons (oS 3) aNil)))))) (wsIf (wBorT (wOr (wB (wOp2 (up2 gIs) (oS 1) (oE (wC .non)))) (wB (wOp2 (up2 gLt) (oS 4) (oE (wOp2 (up2 gIx) (oS 1) (oE (wC (.int 0))))))))) (wsSet 1 (wTup (aCons (oF (wVar 4)) (aCons (oE (wMv 3)) (aCons (oF (wVar 2)) aNil))))) wsNil)))) (wsRet (wMv 1))))
theorem s_quickest_short_order : ∀ ns k x, S_quickest_short_order ns k x → ns.length = 1 → W_quickest_short_order (startE N_quickest_short_order ns) (endsOf 1 k) (xOf 1 x) := by
  rintro _ k x ⟨cs, js, rfl, hw, h⟩ _
  have big := big_sizeLine
  have z3 : 3 ≤ sizeLine := by omega
  simp [W_quickest_short_order, N_quickest_short_order, endsOf]
  refine x_choices hw ?_
  simp [seq_lst]
  refine forL_rec oD (fun dn r e => (∃ u v y, e = [some (.d (seaD cs js)), some (foundO cs js (dn.foldl (stepQ cs js) none)), u, v, y]) ∧ dn ++ r = choO cs js) ?_ ?_ (choO cs js) [] _ ⟨⟨_, _, _, rfl⟩, rfl⟩
  · rintro dn o r _ kk ⟨⟨u, v, y, rfl⟩, hd⟩ hk
    have hm : ∀ b : Bool, S_minutes_in [.d (seaD cs js), .d (.lst (nD (need cs js o)))] = S_minutes_in [.d (seaD cs js), .d (sqD false (need cs js o))] := fun _ => rfl
    have hl := need_len hw o
    simp
    refine (c_jobs_without hw).mpr ?_
    simp [frzE]
    rw [hm false]
    refine x_minutes_in (need_lt o) (by omega) ?_
    rw [List.foldl_append] at hk
    simp only [List.foldl_cons, List.foldl_nil] at hk
    cases q : dn.foldl (stepQ cs js) none with
    | none =>
      rw [q] at hk
      simp [foundO, gIs, isD, z3]
      exact hk _ ⟨⟨_, _, _, rfl⟩, by simpa using hd⟩
    | some b =>
      rw [q] at hk
      have g0 : ∀ a c d : D, gIx (.tup [a, c, d]) (.int 0) = some (.d a) := fun _ _ _ => rfl
      by_cases c : minsO cs js o < minsO cs js b
      · simp [stepQ, c] at hk
        have c' : sumM cs js (need cs js o) < minsO cs js b := c
        simp [foundO, foundN, gIs, isD, z3, g0, gLt, c']
        exact hk _ _ _ _ rfl (by simpa using hd)
      · simp [stepQ, c] at hk
        have c' : ¬ sumM cs js (need cs js o) < minsO cs js b := c
        simp [foundO, foundN, gIs, isD, z3, g0, gLt, c']
        exact hk _ _ _ _ rfl (by simpa using hd)
  · rintro dn _ ⟨⟨u, v, y, rfl⟩, hd⟩
    rw [List.append_nil] at hd
    rw [hd, quickO_eq]
    simp [foundO]
    exact h

/-! ### what is_quickest_short_order is asked -/
def flatA : D → Bool
  | .non => true
  | .bl _ => true
  | .int _ => true
  | _ => false
abbrev Tri := D × Option (Bool × List Nat) × Option Nat
def vOk (n : Nat) (v : D) : Option Tri → Prop
  | none => isaOk v = true ∧ isTupD 3 v = false
  | some (a, q, c) => v = .tup [a, jv q, oD c] ∧ flatA a = true ∧ jvOk n q
def tellB (cs : List Cv) (js : List Jb) : Option Tri → Bool
  | none => false
  | some (a, q, c) => isIntD a && jvB (fun l => shoB cs js l && decide (c = (leftN cs js l).head?)) q
def S_tells_left : FS := fun ns k _ => ∃ cs js v z, ns = [.d (seaD cs js), .d v] ∧ Wok cs js ∧ vOk (cs.length + js.length) v z ∧ k (.d (.bl (tellB cs js z))) [some (.d (seaD cs js)), some (.d v)]
theorem x_tells_left {cs : List Cv} {js : List Jb} {v : D} {z : Option Tri} {k : N → Env → Prop} {x : XP} (hw : Wok cs js) (h1 : vOk (cs.length + js.length) v z) (h : k (.d (.bl (tellB cs js z))) [some (.d (seaD cs js)), some (.d v)]) : S_tells_left [.d (seaD cs js), .d v] k x := ⟨cs, js, v, z, rfl, hw, h1, h⟩
def isInt (a : D) (i : Int) : Bool := match a with
  | .int j => decide (j = i)
  | _ => false
def qckB (cs : List Cv) (js : List Jb) : Option Tri → Bool
  | none => false
  | some (a, q, c) => tellB cs js (some (a, q, c)) && (isInt a (minsO cs js (quickO cs js)) && jvB (fun l => isInt a (sumM cs js l)) q)
def S_is_quickest_short_order : FS := fun ns k _ => ∃ cs js v z, ns = [.d (seaD cs js), .d v] ∧ Wok cs js ∧ vOk (cs.length + js.length) v z ∧ k (.d (.bl (qckB cs js z))) [some (.d (seaD cs js)), some (.d v)]
theorem x_is_quickest {cs : List Cv} {js : List Jb} {v : D} {z : Option Tri} {k : N → Env → Prop} {x : XP} (hw : Wok cs js) (h1 : vOk (cs.length + js.length) v z) (h : k (.d (.bl (qckB cs js z))) [some (.d (seaD cs js)), some (.d v)]) : S_is_quickest_short_order [.d (seaD cs js), .d v] k x := ⟨cs, js, v, z, rfl, hw, h1, h⟩
theorem flatA_ok {a : D} (h : flatA a = true) : isaOk a = true := by cases a <;> first | rfl | cases h
def N_tells_left : List Str := ["search", "value", "out", "number", "jobs", "left"]
def W_tells_left : WS := (wsCons (wsIf (wBorT (wNot (wB (wCall 2 S_is_tuple (aCons (oS 1) (aCons (oE (wC (.int 3))) aNil)))))) (wsRet (wC (.bl false))) wsNil) (wsCons (wsAsg (gtTp 3 (gtsCons (gtNm 3) (gtsCons (gtNm 4) (gtsCons (gtNm 5) gtsNil)))) (wVar 1)) (wsCons (wsIf (wBorT (wOr (wNot (wB (wCall 1 S_is_integer (aCons (oS 3) aNil)))) (wNot (wB (wCall 2 S_is_short_order (aCons (oS 0) (aCons (oS 4) aNil))))))) (wsRet (wC (.bl false))) wsNil) (wsCons (wsSet 2 (wFr (wCall 2 S_left_out (aCons (oS 0) (aCons (oS 4) aNil))))) (wsRet (wFr (wIf (wBorT (wB (wOp2 (up2 gEq) (oS 2) (oE (wLst aNil))))) (wOp2 (up2 gIs) (oS 5) (oE (wC .non))) (wAndV (wCall 1 S_is_integer (aCons (oS 5) aNil)) (wOp2 (up2 gEq) (oS 2) (oE (wLst (aCons (oF (wVar 5)) aNil))))))))))))
theorem s_tells_left : ∀ ns k x, S_tells_left ns k x → ns.length = 2 → W_tells_left (startE N_tells_left ns) (endsOf 2 k) (xOf 2 x) := by
  rintro _ k x ⟨cs, js, v, z, rfl, hw, h1, h⟩ _
  have big := big_sizeLine
  have z1 : 1 ≤ sizeLine := by omega
  cases z with
  | none =>
    obtain ⟨ho, ht⟩ := h1
    simp [W_tells_left, N_tells_left, endsOf, frzE, ho, ht]
    exact h
  | some z =>
    obtain ⟨a, q, c⟩ := z
    obtain ⟨rfl, ha, hq⟩ := h1
    have ha' := flatA_ok ha
    simp [W_tells_left, N_tells_left, endsOf, frzE, ha']
    cases hi : isIntD a with
    | false =>
      simp [tellB, hi] at h ⊢
      exact h
    | true =>
      simp [tellB, hi] at h ⊢
      refine x_is_short_order hw hq ?_
      cases q with
      | none =>
        simp [jvB] at h ⊢
        exact h
      | some q =>
        obtain ⟨b, l⟩ := q
        cases hs : shoB cs js l with
        | false =>
          simp [jvB, hs] at h ⊢
          exact h
        | true =>
          have hlen : (leftN cs js l).length = min 1 js.length := by
            unfold shoB at hs
            simp at hs
            exact hs.2.1
          simp [jvB, hs, jv, c_left_out hw] at h ⊢
          cases hL : leftN cs js l with
          | nil =>
            rw [hL] at h
            cases c with
            | none => simp [sqD, gEq, eqD_sq0, gIs, isD] at h ⊢; exact h
            | some c => simp [sqD, gEq, eqD_sq0, gIs, isD] at h ⊢; exact h
          | cons i t =>
            rw [hL] at h hlen
            have ht : t = [] := by
              cases t with
              | nil => rfl
              | cons _ _ => simp at hlen; omega
            subst ht
            have g1 : gEq (sqD false [i]) (.lst []) = some (.d (.bl false)) := by simp [gEq, sqD, eqD_sq0]
            cases c with
            | none => simp [g1] at h ⊢; exact h
            | some c =>
              have g2 : gEq (sqD false [i]) (.lst [D.int (c : Int)]) = some (.d (.bl (decide (c = i)))) := by
                have := eqD_sq [i] [c]
                simp [nD, iD] at this
                simp [gEq, sqD, nD, iD, this]
                omega
              simp [g1, g2, z1] at h ⊢
              exact h

def N_is_quickest_short_order : List Str := ["search", "value", "minutes", "jobs", "_"]
def W_is_quickest_short_order : WS := (wsCons (wsIf (wBorT (wNot (wB (wCall 2 S_tells_left (aCons (oS 0) (aCons (oS 1) aNil)))))) (wsRet (wC (.bl false))) wsNil) (wsCons (wsAsg (gtTp 3 (gtsCons (gtNm 2) (gtsCons (gtNm 3) (gtsCons (gtNm 4) gtsNil)))) (wVar 1)) (wsRet (wBor (wAndV (wOp2 (up2 gEq) (oS 2) (oF (wCall 2 S_minutes_in (aCons (oS 0) (aCons (oS 3) aNil))))) (wOp2 (up2 gEq) (oS 2) (oE (wOp2 (up2 gIx) (oF (wCall 1 S_quickest_short_order (aCons (oS 0) aNil))) (oE (wC (.int 0)))))))))))
theorem s_is_quickest_short_order : ∀ ns k x, S_is_quickest_short_order ns k x → ns.length = 2 → W_is_quickest_short_order (startE N_is_quickest_short_order ns) (endsOf 2 k) (xOf 2 x) := by
  rintro _ k x ⟨cs, js, v, z, rfl, hw, h1, h⟩ _
  simp [W_is_quickest_short_order, N_is_quickest_short_order, endsOf, frzE]
  refine x_tells_left hw h1 ?_
  cases z with
  | none =>
    simp [tellB, qckB] at h ⊢
    exact h
  | some z =>
    obtain ⟨a, q, c⟩ := z
    obtain ⟨rfl, ha, hq⟩ := h1
    cases ht : tellB cs js (some (a, q, c)) with
    | false =>
      simp [qckB, ht] at h ⊢
      exact h
    | true =>
      have hi : isIntD a = true := by
        unfold tellB at ht
        simp at ht
        exact ht.1
      cases q with
      | none => simp [tellB, jvB] at ht
      | some q =>
        obtain ⟨b, l⟩ := q
        obtain ⟨hl, hn⟩ := hq
        cases a with
        | int i =>
          simp [qckB, ht, jvB, isInt] at h ⊢
          simp [jv] at h ⊢
          refine x_minutes_in hl hn ?_
          by_cases c1 : i = sumM cs js l
          · have g1 : gEq (.int i) (.int (sumM cs js l)) = some (.d (.bl true)) := by simp [gEq, eqD, c1]
            simp [g1]
            refine x_quickest hw ?_
            have g0 : ∀ a c d : D, gIx (.tup [a, c, d]) (.int 0) = some (.d a) := fun _ _ _ => rfl
            simp [foundN, g0, gEq, eqD]
            simpa [c1] using h
          · have g1 : gEq (.int i) (.int (sumM cs js l)) = some (.d (.bl false)) := by simp [gEq, eqD, c1]
            simp [g1]
            simpa [c1] using h
        | _ => cases hi

/-! ### the law's box of draws: any draws -/
abbrev Box := Int × Bool × Int × Int
def boxN (b : Box) : N := .lst [.d (.int b.1), .d (.bl b.2.1), .d (.int b.2.2.1), .d (.int b.2.2.2)]
def S__law_take : FS := fun ns k _ => ∃ (b : Box) (m : Int), ns = [boxN b, .d (.int m)] ∧ 1 ≤ m ∧ m ≤ 1000000 ∧ ∀ r b', 0 ≤ r → r < m → k (.d (.int r)) [some (boxN b'), some (.d (.int m))]
theorem x_take {b : Box} {m : Int} {k : N → Env → Prop} {x : XP} (hm : 1 ≤ m) (hm2 : m ≤ 1000000) (h : ∀ r b', 0 ≤ r → r < m → k (.d (.int r)) [some (boxN b'), some (.d (.int m))]) : S__law_take [boxN b, .d (.int m)] k x := ⟨b, m, rfl, hm, hm2, h⟩
def S__law_box : FS := fun ns k _ => ∃ g : Int, ns = [.d (.int g)] ∧ ∀ b', k (boxN b') [some (.d (.int g))]
theorem x_box {g : Int} {k : N → Env → Prop} {x : XP} (h : ∀ b', k (boxN b') [some (.d (.int g))]) : S__law_box [.d (.int g)] k x := ⟨g, rfl, h⟩
def S__law_cell : FS := fun ns k _ => ∃ (sc : List Int) (i : Nat), ns = [.d (.scr sc), .d (.int i)] ∧ (i : Int) < 1000 ∧ ∀ g, k (.d (.int g)) [some (.d (.scr sc)), some (.d (.int i))]
theorem x_cell {sc : List Int} {i : Nat} {k : N → Env → Prop} {x : XP} (hi : (i : Int) < 1000) (h : ∀ g, k (.d (.int g)) [some (.d (.scr sc)), some (.d (.int i))]) : S__law_cell [.d (.scr sc), .d (.int i)] k x := ⟨sc, i, rfl, hi, h⟩
theorem mul_lo (a b : Int) (h : -(2 ^ 64) < a ∧ a < 2 ^ 64 ∨ -(2 ^ 64) < b ∧ b < 2 ^ 64) : gMul (.int a) (.int b) = some (.d (.int (a * b))) := by
  rw [gMul.eq_1, if_pos h]
def N__law_take : List Str := ["box", "many", "digit"]
def V__law_take (gm gp : G2) : WS := (wsCons (wsIf (wBorT (wAnd (wTr (oE (wOp2 (up2 gIx) (oS 0) (oE (wC (.int 1)))))) (wB (wOp2 (up2 gGt) (oE (wOp2 (up2 gIx) (oS 0) (oE (wC (.int 0))))) (oE (wC (.int 0))))))) (wsCons (wsSet 2 (wFr (wOp2 (up2 gMod) (oE (wCB (upL gInt) (aCons (oE (wOp2 (up2 gIx) (oS 0) (oE (wC (.int 0))))) aNil))) (oS 1)))) (wsCons (wsPutL 0 (oE (wC (.int 0))) (wFr (wOp2 (up2 gDiv) (oE (wCB (upL gInt) (aCons (oE (wOp2 (up2 gIx) (oS 0) (oE (wC (.int 0))))) aNil))) (oS 1)))) (wsRet (wVar 2)))) wsNil) (wsCons (wsPutL 0 (oE (wC (.int 3))) (wFr (wOp2 (up2 gAdd) (oE (wOp2 (up2 gIx) (oS 0) (oE (wC (.int 3))))) (oE (wC (.int 1)))))) (wsCons (wsPutL 0 (oE (wC (.int 2))) (wFr (wOp2 (up2 gMod) (oE (wOp2 (up2 gAdd) (oE (wOp2 (up2 gAdd) (oE (wOp2 (up2 gm) (oE (wOp2 (up2 gIx) (oS 0) (oE (wC (.int 2))))) (oE (wC (.int 69621))))) (oE (wOp2 (up2 gm) (oE (wC (.int 1327))) (oE (wOp2 (up2 gIx) (oS 0) (oE (wC (.int 3))))))))) (oE (wC (.int 7))))) (oE (wC (.int 2147483629)))))) (wsRet (wFr (wOp2 (up2 gMod) (oE (wOp2 (up2 gDiv) (oE (wOp2 (up2 gIx) (oS 0) (oE (wC (.int 2))))) (oE (wC (.int 64))))) (oS 1)))))))
def W__law_take : WS := V__law_take gMul gPow
def N__law_box : List Str := ["great"]
def V__law_box (gm gp : G2) : WS := (wsRet (wLst (aCons (oF (wCB (upL gAbs) (aCons (oS 0) aNil))) (aCons (oF (wOp2 (up2 gGe) (oE (wCB (upL gAbs) (aCons (oS 0) aNil))) (oE (wOp2 (up2 gp) (oE (wC (.int 10))) (oE (wC (.int 18))))))) (aCons (oF (wOp2 (up2 gMod) (oE (wCB (upL gInt) (aCons (oE (wCB (upL gAbs) (aCons (oS 0) aNil))) aNil))) (oE (wC (.int 2147483629))))) (aCons (oF (wC (.int 0))) aNil))))))
def W__law_box : WS := V__law_box gMul gPow
def N__law_cell : List Str := ["script", "k"]
def V__law_cell (gm gp : G2) : WS := (wsRet (wFr (wIf (wBorT (wB (wOp2 (up2 gLt) (oS 1) (oE (wCB (upL gLen) (aCons (oS 0) aNil)))))) (wOp2 (up2 gIx) (oS 0) (oS 1)) (wOp2 (up2 gAdd) (oE (wOp2 (up2 gm) (oE (wC (.int 6173))) (oS 1))) (oE (wOp2 (up2 gMod) (oE (wCB (upL gSum) (aCons (oE (wSl (oS 0) pNo (pSome (wC (.int 1))))) aNil))) (oE (wC (.int 1000033)))))))))
def W__law_cell : WS := V__law_cell gMul gPow
theorem s__law_take : ∀ ns k x, S__law_take ns k x → ns.length = 2 → W__law_take (startE N__law_take ns) (endsOf 2 k) (xOf 2 x) := by
  rintro _ k x ⟨⟨b0, b1, b2, b3⟩, m, rfl, hm, hm2, h⟩ _
  have aux : ∀ gm gp : G2, (∀ a : Int, gm (.int a) (.int 69621) = some (.d (.int (a * 69621)))) → (∀ a : Int, gm (.int 1327) (.int a) = some (.d (.int (1327 * a)))) →
      V__law_take gm gp (startE N__law_take [boxN (b0, b1, b2, b3), .d (.int m)]) (endsOf 2 k) (xOf 2 x) := by
    intro gm gp m1 m2
    have i0 : ∀ a b c d : D, gIx (.lst [a, b, c, d]) (.int 0) = some (.d a) := fun _ _ _ _ => rfl
    have i1 : ∀ a b c d : D, gIx (.lst [a, b, c, d]) (.int 1) = some (.d b) := fun _ _ _ _ => rfl
    have i2 : ∀ a b c d : D, gIx (.lst [a, b, c, d]) (.int 2) = some (.d c) := fun _ _ _ _ => rfl
    have i3 : ∀ a b c d : D, gIx (.lst [a, b, c, d]) (.int 3) = some (.d d) := fun _ _ _ _ => rfl
    have x0 : ixN 4 0 = some 0 := rfl
    have x2 : ixN 4 2 = some 2 := rfl
    have x3 : ixN 4 3 = some 3 := rfl
    have md : ∀ a c : Int, 1 ≤ c → gMod (.int a) (.int c) = some (.d (.int (a % c))) := by
      intro a c hc
      rw [gMod, if_pos (by omega)]
    have dv : ∀ a c : Int, 1 ≤ c → c ≤ 1000000 → gDiv (.int a) (.int c) = some (.d (.int (a / c))) := by
      intro a c hc hd
      rw [gDiv, if_pos (by omega)]
    simp [V__law_take, N__law_take, endsOf, frzE, boxN, i0, i1, i2, i3, gGt, gInt, gAdd, m1, m2, x0, x2, x3, md, dv, hm, hm2]
    have pos : ∀ a : Int, 0 ≤ a % m ∧ a % m < m := fun a => ⟨Int.emod_nonneg _ (by omega), Int.emod_lt_of_pos _ (by omega)⟩
    have k2 : k (.d (.int ((b2 * 69621 + 1327 * (b3 + 1) + 7) % 2147483629 / 64 % m))) [some (.lst [.d (.int b0), .d (.bl b1), .d (.int ((b2 * 69621 + 1327 * (b3 + 1) + 7) % 2147483629)), .d (.int (b3 + 1))]), some (.d (.int m))] :=
      h _ (b0, b1, (b2 * 69621 + 1327 * (b3 + 1) + 7) % 2147483629, b3 + 1) (pos _).1 (pos _).2
    split
    · split
      · exact h _ (b0 / m, b1, b2, b3) (pos _).1 (pos _).2
      · exact k2
    · exact k2
  exact aux gMul gPow (fun a => mul_lo _ _ (.inr ⟨by omega, by omega⟩)) (fun a => mul_lo _ _ (.inl ⟨by omega, by omega⟩))
theorem s__law_box : ∀ ns k x, S__law_box ns k x → ns.length = 1 → W__law_box (startE N__law_box ns) (endsOf 1 k) (xOf 1 x) := by
  rintro _ k x ⟨g, rfl, h⟩ _
  have big := big_sizeLine
  have z4 : 4 ≤ sizeLine := by omega
  have aux : ∀ gm gp : G2, gp (.int 10) (.int 18) = some (.d (.int (10 ^ 18))) → V__law_box gm gp (startE N__law_box [.d (.int g)]) (endsOf 1 k) (xOf 1 x) := by
    intro gm gp p1
    have md : ∀ a : Int, gMod (.int a) (.int 2147483629) = some (.d (.int (a % 2147483629))) := by
      intro a
      rw [gMod, if_pos (by omega)]
    simp [V__law_box, N__law_box, endsOf, gAbs, gInt, gGe, p1, md, z4]
    exact h (_, _, _, _)
  exact aux gMul gPow (by rw [gPow, if_pos ⟨by omega, by omega, by decide⟩]; rfl)
theorem s__law_cell : ∀ ns k x, S__law_cell ns k x → ns.length = 2 → W__law_cell (startE N__law_cell ns) (endsOf 2 k) (xOf 2 x) := by
  rintro _ k x ⟨sc, i, rfl, hi, h⟩ _
  have aux : ∀ gm gp : G2, (∀ a : Int, gm (.int 6173) (.int a) = some (.d (.int (6173 * a)))) → V__law_cell gm gp (startE N__law_cell [.d (.scr sc), .d (.int i)]) (endsOf 2 k) (xOf 2 x) := by
    intro gm gp p1
    have md : ∀ a : Int, gMod (.int a) (.int 1000033) = some (.d (.int (a % 1000033))) := by
      intro a
      rw [gMod, if_pos (by omega)]
    have hl : gLen [.scr sc] = some (.d (.int sc.length)) := rfl
    simp [V__law_cell, N__law_cell, endsOf, frzE, p1, md, hl, gLt]
    by_cases c : i < sc.length
    · have hx : gIx (.scr sc) (.int i) = some (.d (.int sc[i])) := by
        show (atI sc (i : Int)).map (fun n => N.d (.int n)) = _
        rw [atI_nat, List.getElem?_eq_getElem c]
        rfl
      simp [c, hx]
      exact h _
    · have hsl : gSl (.scr sc) none (some 1) = some (.lst (((cutD sc none (some 1)).map D.int).map N.d)) := rfl
      have hsu : ∀ l : List Int, gSum [.lst (l.map D.int)] = some (.d (.int l.sum)) := fun l => by
        have := gSum_map (fun i : Int => i) l
        simpa using this
      simp [c, hsl, hsu, gAdd, md, -List.map_map]
      exact h _
  exact aux gMul gPow (fun a => mul_lo _ _ (.inl ⟨by omega, by omega⟩))

/-! ### the law's readings -/
def S__law_job : FS := fun ns k _ => ∃ cs js j, ns = [.d (worD cs js), .d (iD j)] ∧ j < cs.length + js.length ∧ ∀ r, (rowsOf cs js)[j]? = some r → k (.d (jD r)) [some (.d (worD cs js)), some (.d (iD j))]
theorem x_job {cs : List Cv} {js : List Jb} {j : Nat} {k : N → Env → Prop} {x : XP} (h1 : j < cs.length + js.length) (h : ∀ r, (rowsOf cs js)[j]? = some r → k (.d (jD r)) [some (.d (worD cs js)), some (.d (iD j))]) : S__law_job [.d (worD cs js), .d (iD j)] k x := ⟨cs, js, j, rfl, h1, h⟩
def S__law_lefts : FS := fun ns k _ => ∃ cs js, ns = [.d (worD cs js)] ∧ Wok cs js ∧ k (.d (.lst ((choO cs js).map oD))) [some (.d (worD cs js))]
theorem x_lefts {cs : List Cv} {js : List Jb} {k : N → Env → Prop} {x : XP} (hw : Wok cs js) (h : k (.d (.lst ((choO cs js).map oD))) [some (.d (worD cs js))]) : S__law_lefts [.d (worD cs js)] k x := ⟨cs, js, rfl, hw, h⟩
def isNumB (m : Int) : D → Bool
  | .int i => decide (0 ≤ i) && decide (i < m)
  | _ => false
def S__law_is_number : FS := fun ns k _ => ∃ v m, ns = [.d v, .d (.int m)] ∧ isaOk v = true ∧ k (.d (.bl (isNumB m v))) [some (.d v), some (.d (.int m))]
theorem x_is_number {v : D} {m : Int} {k : N → Env → Prop} {x : XP} (ho : isaOk v = true) (h : k (.d (.bl (isNumB m v))) [some (.d v), some (.d (.int m))]) : S__law_is_number [.d v, .d (.int m)] k x := ⟨v, m, rfl, ho, h⟩
def S__law_minutes : FS := fun ns k _ => ∃ cs js b l, ns = [.d (worD cs js), .d (sqD b l)] ∧ (∀ j ∈ l, j < cs.length + js.length) ∧ l.length ≤ 1000 ∧ k (.d (.int (sumM cs js l))) [some (.d (worD cs js)), some (.d (sqD b l))]
theorem x_minutes {cs : List Cv} {js : List Jb} {b : Bool} {l : List Nat} {k : N → Env → Prop} {x : XP} (h1 : ∀ j ∈ l, j < cs.length + js.length) (h2 : l.length ≤ 1000) (h : k (.d (.int (sumM cs js l))) [some (.d (worD cs js)), some (.d (sqD b l))]) : S__law_minutes [.d (worD cs js), .d (sqD b l)] k x := ⟨cs, js, b, l, rfl, h1, h2, h⟩
/-- the path, the innermost first -/
def S__law_above : FS := fun ns k _ => ∃ cs o, ns = [.d (.lst (cs.map cD)), .d (oD o)] ∧ Cok cs ∧ upTo cs.length o ∧ k (.d (.lst (nD (pathN cs o).reverse))) [some (.d (.lst (cs.map cD))), some (.d (oD o))]
theorem x_above {cs : List Cv} {o : Option Nat} {k : N → Env → Prop} {x : XP} (hc : Cok cs) (ho : upTo cs.length o) (h : k (.d (.lst (nD (pathN cs o).reverse))) [some (.d (.lst (cs.map cD))), some (.d (oD o))]) : S__law_above [.d (.lst (cs.map cD)), .d (oD o)] k x := ⟨cs, o, rfl, hc, ho, h⟩
def N__law_is_number : List Str := ["value", "many"]
def W__law_is_number : WS := (wsRet (wBor (wAndV (wIsi (oS 0) ["int"]) (wAndV (wNotV (oE (wIsi (oS 0) ["bool"]))) (wChain (up2 gLe) (up2 gLt) (oE (wC (.int 0))) (oS 0) (oS 1))))))
def N__law_job : List Str := ["world", "job", "many"]
def W__law_job : WS := (wsCons (wsSet 2 (wFr (wCB (upL gLen) (aCons (oE (wOp2 (up2 gIx) (oS 0) (oE (wC (.int 0))))) aNil)))) (wsRet (wFr (wIf (wBorT (wB (wOp2 (up2 gLt) (oS 1) (oS 2)))) (wTup (aCons (oF (wOp2 (up2 gIx) (oE (wOp2 (up2 gIx) (oE (wOp2 (up2 gIx) (oS 0) (oE (wC (.int 0))))) (oS 1))) (oE (wC (.int 0))))) (aCons (oF (wOp2 (up2 gIx) (oE (wOp2 (up2 gIx) (oE (wOp2 (up2 gIx) (oS 0) (oE (wC (.int 0))))) (oS 1))) (oE (wC (.int 1))))) (aCons (oF (wC (.int 0))) aNil)))) (wOp2 (up2 gIx) (oE (wOp2 (up2 gIx) (oS 0) (oE (wC (.int 1))))) (oE (wOp2 (up2 gSub) (oS 1) (oS 2))))))))
def N__law_lefts : List Str := ["world", "k"]
def W__law_lefts : WS := (wsRet (wFr (wIf (wBorT (wB (wOp2 (up2 gNe) (oE (wOp2 (up2 gIx) (oS 0) (oE (wC (.int 1))))) (oE (wLst aNil))))) (wLc (iRg1 (aCons (oF (wCB (upL gLen) (aCons (oE (wOp2 (up2 gIx) (oS 0) (oE (wC (.int 1))))) aNil))) aNil)) (gtNm 1) wYes (wFr (wOp2 (up2 gAdd) (oE (wCB (upL gLen) (aCons (oE (wOp2 (up2 gIx) (oS 0) (oE (wC (.int 0))))) aNil))) (oS 1))) [1]) (wLst (aCons (oF (wC .non)) aNil)))))
def N__law_minutes : List Str := ["world", "jobs", "job"]
def W__law_minutes : WS := (wsRet (wFr (wCB (upL gSum) (aCons (oE (wLc (iSeq (wVar 1)) (gtNm 2) wYes (wFr (wOp2 (up2 gIx) (oF (wCall 2 S__law_job (aCons (oS 0) (aCons (oS 2) aNil)))) (oE (wC (.int 1))))) [2])) aNil))))
theorem s__law_is_number : ∀ ns k x, S__law_is_number ns k x → ns.length = 2 → W__law_is_number (startE N__law_is_number ns) (endsOf 2 k) (xOf 2 x) := by
  rintro _ k x ⟨v, m, rfl, ho, h⟩ _
  cases v
  case int =>
    rename_i i _
    by_cases c : 0 ≤ i <;> simp [W__law_is_number, N__law_is_number, endsOf, frzE, isNumB, isaOk, isaB, gLe, gLt, c] at h ⊢ <;> exact h
  all_goals (simp [W__law_is_number, N__law_is_number, endsOf, frzE, isNumB, isaOk, isaB] at h ho ⊢ <;> exact h)
theorem s__law_job : ∀ ns k x, S__law_job ns k x → ns.length = 2 → W__law_job (startE N__law_job ns) (endsOf 2 k) (xOf 2 x) := by
  rintro _ k x ⟨cs, js, j, rfl, hj, h⟩ _
  have big := big_sizeLine
  have z3 : 3 ≤ sizeLine := by omega
  by_cases c : j < cs.length
  · obtain ⟨r, hr⟩ : ∃ r, cs[j]? = some r := ⟨_, List.getElem?_eq_getElem c⟩
    have hr2 : cs[j] = r := by rw [List.getElem?_eq_getElem c] at hr; exact Option.some.inj hr
    have := h _ (by rw [rows_lt c, hr]; rfl)
    simp [W__law_job, N__law_job, endsOf, frzE, iD, gLt, c, hr, hr2, z3]
    simpa [jD, iD] using this
  · obtain ⟨r, hr⟩ : ∃ r, js[j - cs.length]? = some r := ⟨_, List.getElem?_eq_getElem (by omega)⟩
    have := h r (by unfold rowsOf; rw [List.getElem?_append_right (by simpa using c)]; simpa using hr)
    have e : (j : Int) - (cs.length : Int) = ((j - cs.length : Nat) : Int) := by omega
    simp [W__law_job, N__law_job, endsOf, frzE, iD, gLt, c, gSub]
    rw [e]
    simp [hr]
    simpa [iD] using this
theorem s__law_lefts : ∀ ns k x, S__law_lefts ns k x → ns.length = 1 → W__law_lefts (startE N__law_lefts ns) (endsOf 1 k) (xOf 1 x) := by
  rintro _ k x ⟨cs, js, rfl, hw, h⟩ _
  have big := big_sizeLine
  have l21 := hw.jl
  have z1 : 1 ≤ sizeLine := by omega
  have hz : (-4611686018427387904 : Int) ≤ (js.length : Int) ∧ (js.length : Int) < 4611686018427387904 := by omega
  have hn : gNe (.lst (js.map jD)) (.lst []) = some (.d (.bl (!decide (js = [])))) := by simp [gNe, eqD_js0]
  by_cases c : js = []
  · simp [choO, c] at h
    subst c
    have hn : gNe (.lst []) (.lst []) = some (.d (.bl false)) := by simpa using hn
    simp [W__law_lefts, N__law_lefts, endsOf, frzE, hn, z1]
    exact h
  · simp [choO, c] at h
    simp [W__law_lefts, N__law_lefts, endsOf, frzE, hn, c, hz, rangeD_zero, -wipeN_nil, -wipeN_cons]
    refine lcL_mapX (E0 := [some (.d (worD cs js)), none]) iD (fun i => .d (iD (cs.length + i))) (fun i hi kk hk => ?_) (by simp; omega) rfl fun e he => ?_
    · simp [gAdd]
      exact hk _ rfl
    · rw [he]
      simp [views_mapF]
      have e : (List.range js.length).map (fun i => iD (cs.length + i)) = (insN cs.length js.length).map (oD ∘ some) := by
        rw [insN, List.map_map]
        rfl
      rw [e]
      exact h
theorem s__law_minutes : ∀ ns k x, S__law_minutes ns k x → ns.length = 2 → W__law_minutes (startE N__law_minutes ns) (endsOf 2 k) (xOf 2 x) := by
  rintro _ k x ⟨cs, js, b, l, rfl, h1, h2, h⟩ _
  have big := big_sizeLine
  simp [W__law_minutes, N__law_minutes, endsOf, -wipeN_nil, -wipeN_cons]
  refine lcL_mapX (E0 := [some (.d (worD cs js)), some (.d (sqD b l)), none]) iD (fun j => .d (.int (minJ cs js j))) (fun j hj kk hk => ?_) (by omega) rfl fun e he => ?_
  · obtain ⟨r, hr, ha, hm⟩ := row_get (h1 j hj)
    rw [hm] at hk
    simp
    refine x_job (h1 j hj) fun r' hr' => ?_
    rw [hr] at hr'
    cases hr'
    simp
    exact hk _ rfl
  · rw [he]
    simp [views_mapD, gSum_map]
    exact h

def N__law_above : List Str := ["covers", "cover", "turn", "found", "at"]
def W__law_above : WS := (wsCons (wsPar 3 4 (aCons (oE (wLst aNil)) (aCons (oF (wVar 1)) aNil))) (wsCons (wsFor (iRg1 (aCons (oF (wCB (upL gLen) (aCons (oS 0) aNil))) aNil)) (gtNm 2) (wsCons (wsIf (wBorT (wB (wOp2 (up2 gIs) (oS 4) (oE (wC .non))))) wsBrk wsNil) (wsCons (wsEx (wApp 3 (wFr (wVar 4)))) (wsSet 4 (wFr (wOp2 (up2 gIx) (oE (wOp2 (up2 gIx) (oS 0) (oS 4))) (oE (wC (.int 0))))))))) (wsRet (wVar 3))))
theorem s__law_above : ∀ ns k x, S__law_above ns k x → ns.length = 2 → W__law_above (startE N__law_above ns) (endsOf 2 k) (xOf 2 x) := by
  rintro _ k x ⟨cs, o, rfl, hc, ho, h⟩ _
  have big := big_sizeLine
  have l20 := hc.cl
  have hz : (-4611686018427387904 : Int) ≤ (cs.length : Int) ∧ (cs.length : Int) < 4611686018427387904 := by omega
  simp [W__law_above, N__law_above, endsOf, hz, rangeD_zero]
  refine forL_ind0 (fun i e => ∃ u q fd, e = [some (.d (.lst (cs.map cD))), some (.d (oD o)), u, some (.lst ((nD fd).map N.d)), some (.d (oD q))] ∧ fd ++ (pathN cs q).reverse = (pathN cs o).reverse ∧ upTo (cs.length - i) q ∧ fd.length = i) ⟨none, o, [], by simp [nD], rfl, by simpa using ho, rfl⟩ ?_ ?_
  · rintro i hi _ kk ⟨u, q, fd, rfl, hf, hu, hfl⟩ hk
    have hi' : i < cs.length := by simpa using hi
    cases q with
    | none =>
      rw [pathN_none, List.reverse_nil, List.append_nil] at hf
      simp [frzE, gIs, isD, hf]
      exact h
    | some a =>
      have ha : a < cs.length - i := hu
      obtain ⟨c, hcc⟩ : ∃ c, cs[a]? = some c := ⟨_, List.getElem?_eq_getElem (by omega)⟩
      have hp := pathN_some hc hcc
      have hl2 : fd.length < sizeLine := by omega
      simp [frzE, gIs, isD, hl2, hcc]
      refine hk _ ⟨_, c.1, fd ++ [a], by simp [nD_app]; exact ⟨rfl, rfl⟩, ?_, ?_, by simp [hfl]⟩
      · rw [hp] at hf
        simpa using hf
      · exact upTo_mono (hc.c a c hcc).1 (by omega)
  · rintro _ ⟨u, q, fd, rfl, hf, hu, hfl⟩
    have hq : q = none := by
      cases q with
      | none => rfl
      | some a =>
        have : a < cs.length - (nD (List.range cs.length)).length := hu
        simp at this
    subst hq
    rw [pathN_none, List.reverse_nil, List.append_nil] at hf
    simp [hf]
    exact h

/-! ### dicts whose keys are a set of ints -/
def insZ (zs : List Int) (i : Int) : List Int := if i ∈ zs then zs else zs ++ [i]
def dicT (zs : List Int) : N := .dic (zs.map Sum.inl) (zs.map fun _ => .d (.bl true))
theorem hasK_inl (zs : List Int) (i : Int) : hasK (zs.map Sum.inl) (.inl i) = decide (i ∈ zs) := by
  unfold hasK
  rw [List.any_map, Bool.eq_iff_iff, List.any_eq_true]
  simp
theorem zip_true : ∀ (zs : List Int) (i : Int), (((zs.map Sum.inl : List Key).zip (zs.map fun _ => D.bl true)).map fun p => if p.1 = .inl i then D.bl true else p.2) = zs.map fun _ => D.bl true
  | [], _ => rfl
  | z :: zs, i => by
    rw [List.map_cons, List.map_cons, List.zip_cons_cons, List.map_cons, zip_true zs i]
    simp
theorem putD_true (zs : List Int) (i : Int) : putD (zs.map Sum.inl) (zs.map fun _ => D.bl true) (.inl i) (.bl true) = ((insZ zs i).map Sum.inl, (insZ zs i).map fun _ => D.bl true) := by
  unfold putD insZ
  rw [hasK_inl]
  by_cases c : i ∈ zs
  · rw [if_pos (by simpa using c), if_pos c, zip_true]
  · rw [if_neg (by simpa using c), if_neg c]
    simp
theorem insZ_nd {zs : List Int} {i : Int} (h : zs.Nodup) : (insZ zs i).Nodup := by
  unfold insZ
  split
  · exact h
  · rename_i c
    rw [List.nodup_append]
    exact ⟨h, by simp, fun a ha b hb e => c (by simp at hb; rw [← hb, ← e]; exact ha)⟩
theorem mem_insZ {zs : List Int} {i z : Int} : z ∈ insZ zs i ↔ z ∈ zs ∨ z = i := by
  unfold insZ
  split
  · rename_i c
    exact ⟨.inl, fun h => h.elim id fun e => by rw [e]; exact c⟩
  · simp
theorem intKs_inl : ∀ zs : List Int, intKs (zs.map Sum.inl) = some zs
  | [] => rfl
  | z :: zs => by rw [List.map_cons, intKs, intKs_inl zs]; rfl
theorem gSortDI_T {zs : List Int} {l : List D} (h : zs.length < 64) : gSortDI [.dic (zs.map Sum.inl) l] = some (.lst (((sortI zs).map D.int).map N.d)) := by
  unfold gSortDI
  simp only [List.length_map]
  rw [if_pos h, intKs_inl]
  rfl
def S__law_needed : FS := fun ns k _ => ∃ cs js o, ns = [.d (worD cs js), .d (oD o)] ∧ Wok cs js ∧ k (.d (.lst (nD (need cs js o)))) [some (.d (worD cs js)), some (.d (oD o))]
theorem x_needed {cs : List Cv} {js : List Jb} {o : Option Nat} {k : N → Env → Prop} {x : XP} (hw : Wok cs js) (h : k (.d (.lst (nD (need cs js o)))) [some (.d (worD cs js)), some (.d (oD o))]) : S__law_needed [.d (worD cs js), .d (oD o)] k x := ⟨cs, js, o, rfl, hw, h⟩
@[simp] theorem wDic0_eq {env : Env} {k : N → Env → Prop} {x : XP} : wDic0 env k x = k (.dic [] []) env := rfl
theorem putD_step {i : Nat} {ix : WO} {w : WE} {env : Env} {E : ED} {x : XP} (zs : List Int) (c : Nat) (hn : zs.length < sizeLine)
    (hw : ∀ kk : N → Env → Prop, (kk (.d (.bl true)) env) → w env kk x) (hi : (env[i]?).join = some (dicT zs))
    (ho : ∀ kk : Val → Env → Prop, (∀ v, v.get env = some (.d (iD c)) → kk v env) → ix env kk x)
    (h : E.nx (env.set i (some (dicT (insZ zs c))))) : wsPutD i ix w env E x := by
  show w env (fun n e => onS ((e[i]?).join) fun _ => ix e (fun val e2 => onS ((val.get e2).bind flat) fun d => onS (keyD d) fun key => match (e2[i]?).join with
    | some (.dic ks l) => (match n with
      | .d y => onS (allD l) fun ds => ds.length < sizeLine ∧ E.nx (e2.set i (some (.dic (putD ks ds key y).1 ((putD ks ds key y).2.map N.d))))
      | _ => False)
    | _ => False) x) x
  refine hw _ ?_
  rw [hi]
  refine ho _ fun v hv => ?_
  rw [hv, hi]
  have e1 : allD (zs.map fun _ => N.d (.bl true)) = some (zs.map fun _ => D.bl true) := views_mapD (fun _ => D.bl true) zs
  have e2 : (putD (zs.map Sum.inl) (zs.map fun _ => D.bl true) (.inl (c : Int)) (.bl true)) = _ := putD_true zs c
  show onS (allD (zs.map fun _ => N.d (.bl true))) fun ds => ds.length < sizeLine ∧ E.nx (env.set i (some (.dic (putD (zs.map Sum.inl) ds (.inl (c : Int)) (.bl true)).1 ((putD (zs.map Sum.inl) ds (.inl (c : Int)) (.bl true)).2.map N.d))))
  rw [e1]
  show _ ∧ _
  refine ⟨by simpa using hn, ?_⟩
  rw [e2]
  simpa [dicT, List.map_map, Function.comp_def] using h

def N__law_needed : List Str := ["world", "left", "found", "k", "covers", "inspections", "cover"]
def W__law_needed : WS := (wsCons (wsAsg (gtTp 2 (gtsCons (gtNm 4) (gtsCons (gtNm 5) gtsNil))) (wVar 0)) (wsCons (wsSet 2 wDic0) (wsCons (wsFor (iRg1 (aCons (oF (wCB (upL gLen) (aCons (oS 5) aNil))) aNil)) (gtNm 3) (wsIf (wBorT (wB (wOp2 (up2 gNe) (oE (wOp2 (up2 gAdd) (oE (wCB (upL gLen) (aCons (oS 4) aNil))) (oS 3))) (oS 1)))) (wsFor (iSeq (wCall 2 S__law_above (aCons (oS 4) (aCons (oF (wOp2 (up2 gIx) (oE (wOp2 (up2 gIx) (oS 5) (oS 3))) (oE (wC (.int 0))))) aNil)))) (gtNm 6) (wsPutD 2 (oS 6) (wC (.bl true)))) wsNil)) (wsRet (wFr (wOp2 (up2 gAdd) (oE (wCB (upL gSortDI) (aCons (oS 2) aNil))) (oE (wLc (iRg1 (aCons (oF (wCB (upL gLen) (aCons (oS 5) aNil))) aNil)) (gtNm 3) (wBorT (wB (wOp2 (up2 gNe) (oE (wOp2 (up2 gAdd) (oE (wCB (upL gLen) (aCons (oS 4) aNil))) (oS 3))) (oS 1)))) (wFr (wOp2 (up2 gAdd) (oE (wCB (upL gLen) (aCons (oS 4) aNil))) (oS 3))) [3]))))))))
theorem insRow {cs : List Cv} {js : List Jb} {i : Nat} {r : Jb} (h : js[i]? = some r) : aboveJ cs js (cs.length + i) = r.1 := by
  unfold aboveJ rowsOf
  rw [List.getElem?_append_right (by simp)]
  simp [h]
/-- the keys after some inspections -/
def keysOk (cs : List Cv) (js : List Jb) (o : Option Nat) (dn : List Nat) (zs : List Int) : Prop :=
  zs.Nodup ∧ ∀ z : Int, z ∈ zs ↔ ∃ i ∈ dn, some (cs.length + i) ≠ o ∧ ∃ c ∈ pathN cs (aboveJ cs js (cs.length + i)), (c : Int) = z
theorem s__law_needed : ∀ ns k x, S__law_needed ns k x → ns.length = 2 → W__law_needed (startE N__law_needed ns) (endsOf 2 k) (xOf 2 x) := by
  rintro _ k x ⟨cs, js, o, rfl, hw, h⟩ _
  have big := big_sizeLine
  have l20 := hw.cl
  have l21 := hw.jl
  have hz : (-4611686018427387904 : Int) ≤ (js.length : Int) ∧ (js.length : Int) < 4611686018427387904 := by omega
  have kw : kids (.d (worD cs js)) = some [.d (.lst (cs.map cD)), .d (.lst (js.map jD))] := rfl
  simp [W__law_needed, N__law_needed, endsOf, kw, hz, rangeD_zero]
  have zlen : ∀ {dn : List Nat} {zs : List Int}, dn.length ≤ 20 → keysOk cs js o dn zs → zs.length ≤ 420 := by
    rintro dn zs hd ⟨nd, hm⟩
    have e : ∀ z : Int, z ∈ zs ↔ z ∈ zI ((dn.filter fun i => decide (some (cs.length + i) ≠ o)).flatMap fun i => pathN cs (aboveJ cs js (cs.length + i))) := by
      intro z
      rw [hm, mem_zI]
      simp only [List.mem_flatMap, List.mem_filter, decide_eq_true_eq]
      constructor
      · rintro ⟨i, h1, h2, c, h3, h4⟩
        exact ⟨c, ⟨i, ⟨h1, h2⟩, h3⟩, h4⟩
      · rintro ⟨c, ⟨i, ⟨h1, h2⟩, h3⟩, h4⟩
        exact ⟨i, h1, h2, c, h3, h4⟩
    have h1 := ddp_len nd e
    have h2 := ddp_le (zI ((dn.filter fun i => decide (some (cs.length + i) ≠ o)).flatMap fun i => pathN cs (aboveJ cs js (cs.length + i))))
    have h3 := flat_le (fun i => pathN cs (aboveJ cs js (cs.length + i))) 21 (dn.filter fun i => decide (some (cs.length + i) ≠ o)) fun j _ => Nat.le_trans (pathA_len _ _ _) (by omega)
    have h4 := List.length_filter_le (fun i => decide (some (cs.length + i) ≠ o)) dn
    have h5 : (dn.filter fun i => decide (some (cs.length + i) ≠ o)).length * 21 ≤ 20 * 21 := Nat.mul_le_mul_right _ (by omega)
    simp only [zI, List.length_map] at h2
    simp only [zI] at h1
    omega
  refine forL_rec iD (fun dn r e => (∃ zs u y, e = [some (.d (worD cs js)), some (.d (oD o)), some (dicT zs), u, some (.d (.lst (cs.map cD))), some (.d (.lst (js.map jD))), y] ∧ keysOk cs js o dn zs) ∧ dn ++ r = List.range js.length) ?_ ?_ (List.range js.length) [] _ ⟨⟨[], _, _, rfl, List.nodup_nil, by simp⟩, rfl⟩
  · rintro dn i r _ kk ⟨⟨zs, u, y, rfl, hk⟩, hd⟩ hkk
    have hi : i < js.length := by
      have : i ∈ List.range js.length := by rw [← hd]; simp
      simpa using this
    obtain ⟨row, hr⟩ : ∃ r, js[i]? = some r := ⟨_, List.getElem?_eq_getElem hi⟩
    have ha := insRow (cs := cs) hr
    have hne : gNe (.int ((cs.length : Int) + (i : Int))) (oD o) = some (.d (.bl (!decide (some (cs.length + i) = o)))) := by
      have := eqD_iO (cs.length + i) o
      simp [iD] at this
      simp [gNe, this]
    have hd' : (dn ++ [i]) ++ r = List.range js.length := by rw [← hd]; simp
    have hdl : dn.length ≤ 20 := by
      have := congrArg List.length hd
      simp at this
      omega
    by_cases c : some (cs.length + i) = o
    · simp [frzE, gAdd, iD, hne, c]
      refine hkk _ ⟨⟨zs, _, _, rfl, hk.1, fun z => ?_⟩, hd'⟩
      rw [hk.2]
      simp [List.mem_append, or_and_right, exists_or, c]
    · have hrg : gIx (.lst (js.map jD)) (.int (i : Int)) = some (.d (jD row)) := by rw [gIx_lst, List.getElem?_map, hr]; rfl
      simp only [Bool.not_true, c, decide_false, Bool.not_false] at hne
      simp [frzE, gAdd, iD, hne, hrg, -gIx_lst]
      refine x_above hw.cok (hw.j _ (List.mem_of_getElem? hr)).1 ?_
      simp [seq_lst]
      have zl := zlen hdl hk
      have pl : (pathN cs row.1).length ≤ cs.length + 1 := pathA_len cs (cs.length + 1) row.1
      refine forL_rec iD (fun d2 r2 e => (∃ zs2 u y, e = [some (.d (worD cs js)), some (.d (oD o)), some (dicT zs2), u, some (.d (.lst (cs.map cD))), some (.d (.lst (js.map jD))), y] ∧ zs2.Nodup ∧ zs2.length ≤ zs.length + d2.length ∧ ∀ z : Int, z ∈ zs2 ↔ z ∈ zs ∨ ∃ c ∈ d2, (c : Int) = z) ∧ d2 ++ r2 = (pathN cs row.1).reverse) ?_ ?_ (pathN cs row.1).reverse [] _ ⟨⟨zs, _, _, rfl, hk.1, by simp, by simp⟩, rfl⟩
      · rintro d2 a r2 _ k2 ⟨⟨zs2, u, y, rfl, nd2, hl2, hm2⟩, hd2⟩ hk2
        have hd3 : d2.length ≤ cs.length + 1 := by
          have := congrArg List.length hd2
          simp at this
          omega
        simp
        refine putD_step zs2 a (by omega) (fun kk h => h) rfl (fun kk h => ?_) ?_
        · simp
          exact h _ rfl
        · refine hk2 _ ⟨⟨insZ zs2 a, _, _, rfl, insZ_nd nd2, ?_, fun z => ?_⟩, by rw [← hd2]; simp⟩
          · unfold insZ
            split <;> simp <;> omega
          · rw [mem_insZ, hm2]
            simp only [List.mem_append, List.mem_singleton, or_and_right, exists_or, exists_eq_left, or_assoc]
            constructor
            · rintro (h | h | h)
              · exact .inl h
              · exact .inr (.inl h)
              · exact .inr (.inr h.symm)
            · rintro (h | h | h)
              · exact .inl h
              · exact .inr (.inl h)
              · exact .inr (.inr h.symm)
      · rintro d2 _ ⟨⟨zs2, u, y, rfl, nd2, hl2, hm2⟩, hd2⟩
        rw [List.append_nil] at hd2
        subst hd2
        refine hkk _ ⟨⟨zs2, _, _, rfl, nd2, fun z => ?_⟩, hd'⟩
        rw [hm2, hk.2]
        simp only [List.mem_append, List.mem_singleton, or_and_right, exists_or, exists_eq_left, List.mem_reverse, ha, ne_eq, c, not_false_eq_true, true_and]
  · rintro dn _ ⟨⟨zs, u, y, rfl, hk⟩, hd⟩
    rw [List.append_nil] at hd
    subst hd
    have hm : ∀ z : Int, z ∈ zs ↔ z ∈ zI (needC cs js o) := by
      intro z
      rw [hk.2, mem_zI]
      constructor
      · rintro ⟨i, hi, ho, c, hc, rfl⟩
        refine ⟨c, (mem_needC hw).mpr (List.mem_flatMap.mpr ⟨cs.length + i, List.mem_filter.mpr ⟨mem_insN.mpr ⟨by omega, by have := List.mem_range.mp hi; omega⟩, by simpa using ho⟩, hc⟩), rfl⟩
      · rintro ⟨c, hc, rfl⟩
        obtain ⟨j, hj, hc⟩ := List.mem_flatMap.mp ((mem_needC hw).mp hc)
        obtain ⟨h1, h2⟩ := List.mem_filter.mp hj
        have h3 := mem_insN.mp h1
        refine ⟨j - cs.length, List.mem_range.mpr (by omega), ?_, c, ?_, rfl⟩
        · rw [show cs.length + (j - cs.length) = j by omega]
          simpa using h2
        · rw [show cs.length + (j - cs.length) = j by omega]
          exact hc
    have hsort := sort_same hk.1 (zI_pw (needC_pw cs js o)) hm
    have hzl : zs.length < 64 := by
      have h1 := ddp_len hk.1 hm
      have h2 := ddp_le (zI (needC cs js o))
      have h3 := needC_len cs js o
      simp only [zI, List.length_map] at h2
      simp only [zI] at h1
      omega
    have hol := othN_len cs js o
    have hcl := needC_len cs js o
    have hfl : flat (dicT zs) = some (.dic (zs.map Sum.inl) (zs.map fun _ => .bl true)) := by
      unfold dicT
      rw [flat_dic, views_mapD (fun _ => D.bl true) zs]
      rfl
    simp [hz, rangeD_zero, hfl, gSortDI_T hzl, hsort, map_zI, -wipeN_nil, -wipeN_cons, -List.map_map]
    refine lcL_filX (E0 := [some (.d (worD cs js)), some (.d (oD o)), some (dicT zs), none, some (.d (.lst (cs.map cD))), some (.d (.lst (js.map jD))), y]) iD (fun i => decide (some (cs.length + i) ≠ o)) (fun i => .d (iD (cs.length + i))) (fun i hi kk hk => ?_) (by simp; omega) rfl fun e he => ?_
    · have hne : gNe (.int ((cs.length : Int) + (i : Int))) (oD o) = some (.d (.bl (!decide (some (cs.length + i) = o)))) := by
        have := eqD_iO (cs.length + i) o
        simp [iD] at this
        simp [gNe, this]
      by_cases c : some (cs.length + i) = o
      · simp [frzE, gAdd, iD, hne, c] at hk ⊢
        exact hk _ rfl
      · simp only [c, decide_false, Bool.not_false] at hne
        simp [frzE, gAdd, iD, hne, c] at hk ⊢
        exact hk _ rfl
    · rw [show List.set e 3 none = _ from he]
      have e1 : ((List.range js.length).filter fun i => decide (some (cs.length + i) ≠ o)).map (fun i => iD (cs.length + i)) = nD (othN cs js o) := by
        unfold othN insN nD
        rw [List.filter_map, List.map_map]
        rfl
      have hlen : (needC cs js o).length + (othN cs js o).length ≤ sizeLine := by omega
      have g : gAdd (.lst (nD (needC cs js o))) (.lst (nD (othN cs js o))) = some (.lst ((nD (need cs js o)).map N.d)) := by
        simp [gAdd, hlen, need, nD_app]
      rw [views_mapD (fun i => iD (cs.length + i)), e1]
      simp [g]
      exact h

/-! ### plain: beginnings, place by place -/
theorem begB_iff {cs : List Cv} {js : List Jb} : ∀ {l dn : List Nat}, begB cs js dn l = true ↔ (∀ j ∈ l, j ∉ dn) ∧ l.Nodup ∧ ∀ k (h : k < l.length), abvOk (dn ++ l.take k) (aboveJ cs js l[k]) = true
  | [], dn => by simp [begB]
  | j :: l, dn => by
    rw [begB, Bool.and_eq_true, Bool.and_eq_true, begB_iff, List.nodup_cons]
    constructor
    · rintro ⟨h1, h2, h3, h4, h5⟩
      have h1' : j ∉ dn := by simpa using h1
      refine ⟨fun a ha => ?_, ⟨fun hj => h3 j hj (by simp), h4⟩, fun k hk => ?_⟩
      · rcases List.mem_cons.mp ha with rfl | ha
        · exact h1'
        · exact fun z => h3 a ha (List.mem_append_left _ z)
      · cases k with
        | zero => simpa using h2
        | succ k =>
          have := h5 k (by simpa using hk)
          simpa using this
    · rintro ⟨h1, ⟨h2, h3⟩, h4⟩
      refine ⟨by simpa using h1 j List.mem_cons_self, by have := h4 0 (by simp); rw [List.take_zero, List.append_nil] at this; exact this, fun a ha z => ?_, h3, fun k hk => ?_⟩
      · rcases List.mem_append.mp z with z | z
        · exact h1 a (List.mem_cons_of_mem _ ha) z
        · have : a = j := by simpa using z
          exact h2 (by rw [← this]; exact ha)
      · have := h4 (k + 1) (by simpa using hk)
        simpa using this
theorem ddp_nodup : ∀ {l : List Int}, (ddp l).length = l.length ↔ l.Nodup
  | [] => by simp [ddp]
  | a :: l => by
    have ih := ddp_nodup (l := l)
    have le := ddp_le l
    rw [List.nodup_cons, ddp]
    split
    · rename_i h
      constructor
      · intro z
        simp at z
        omega
      · exact fun z => absurd h z.1
    · rename_i h
      simp [ih, h]
theorem zI_nodup {l : List Nat} : (zI l).Nodup ↔ l.Nodup := by
  unfold zI
  unfold List.Nodup
  rw [List.pairwise_map]
  constructor
  · exact fun h => h.imp fun h e => h (by rw [e])
  · exact fun h => h.imp fun h e => h (by unfold iZ at e; omega)
def missO (cs : List Cv) (js : List Jb) (l : List Nat) : List (Option Nat) := (choO cs js).filter fun o => decide (o ∉ l.map some)
def lawOut (cs : List Cv) (js : List Jb) (l : List Nat) : List (Option Nat) :=
  if begB cs js [] l = true ∧ (missO cs js l).length = 1 ∧ sortI (zI l) = zI (need cs js ((missO cs js l).headD none)) then missO cs js l else []
def jvO (f : List Nat → List (Option Nat)) : Option (Bool × List Nat) → List (Option Nat)
  | none => []
  | some (_, l) => f l
def S__law_left_out : FS := fun ns k _ => ∃ cs js q, ns = [.d (worD cs js), .d (jv q)] ∧ Wok cs js ∧ jvOk (cs.length + js.length) q ∧ k (.d (.lst ((jvO (lawOut cs js) q).map oD))) [some (.d (worD cs js)), some (.d (jv q))]
theorem x_lleft {cs : List Cv} {js : List Jb} {q : Option (Bool × List Nat)} {k : N → Env → Prop} {x : XP} (hw : Wok cs js) (h1 : jvOk (cs.length + js.length) q) (h : k (.d (.lst ((jvO (lawOut cs js) q).map oD))) [some (.d (worD cs js)), some (.d (jv q))]) : S__law_left_out [.d (worD cs js), .d (jv q)] k x := ⟨cs, js, q, rfl, hw, h1, h⟩

/-! ### the same words, read from the outside in; what waits is out of simp's sight -/
class Kt (α : Type) where
  f : α → Prop
class Kd where
  k : N → Env → Prop
  x : XP
class Ke where
  E : ED
  x : XP
def onI {α : Type} (o : Option α) [k : Kt α] : Prop := onS o k.f
@[simp] theorem onI_some {α : Type} (a : α) (k : Kt α) : @onI α (some a) k = k.f a := rfl
@[simp] theorem onI_none {α : Type} (k : Kt α) : @onI α none k = False := rfl
/-- a call, with what waits for it -/
def callS (fs : FS) (ns : List N) [k : Kd] : Prop := fs ns k.k k.x
/-- a loop, with what waits for it -/
def forS (g : GT) (b : WS) (l : List D) (e : Env) [E : Ke] : Prop := forL g b E.x l e E.E
def lcS (g : GT) (t : WT) (w : WE) (own : List Nat) (l : List D) (a : List N) (e : Env) [k : Kt (List N × Env)] : Prop := lcL g t w own l a e fun acc e2 => k.f (acc, e2)
section
variable {env : Env} {k : N → Env → Prop} {kt : Bool → Env → Prop} {ko : Val → Env → Prop} {ka : List Val → Env → Prop} {x : XP} {E : ED} {w u v : WE} {o o1 o2 o3 : WO} {t t1 t2 : WT} {a b : WA} {f : F1} {f2 : F2}
@[simp ↓] theorem wVar_dn (i : Nat) : wVar i env k x = @onI _ (env[i]?).join ⟨fun n => k (.d n.view) (env.set i (some (.d n.view))) ⟩:= rfl
@[simp ↓] theorem wMv_dn (i : Nat) : wMv i env k x = @onI _ (env[i]?).join ⟨fun n => k n (env.set i none) ⟩:= rfl
@[simp ↓] theorem oS_dn (i : Nat) : oS i env ko x = @onI _ (env[i]?).join ⟨fun _ => ko (.s i) env ⟩:= rfl
@[simp ↓] theorem oE_dn : oE w env ko x = w env (fun n e => ko (.t n) e) x := rfl
@[simp ↓] theorem oF_dn : oF w env ko x = w env (fun n e => ko (.t (.d n.view)) e) x := rfl
@[simp ↓] theorem wC_dn (d : D) : wC d env k x = k (.d d) env := rfl
@[simp ↓] theorem wOp1_dn : wOp1 f o env k x = o env (fun a e => @onI _ (a.get e) ⟨fun n => @onI _ (f n) ⟨fun r => k r e⟩⟩) x := rfl
@[simp ↓] theorem wOp2_dn : wOp2 f2 o1 o2 env k x = o1 env (fun a e1 => o2 e1 (fun b e2 => @onI _ (a.get e2) ⟨fun n => @onI _ (b.get e2) ⟨fun m => @onI _ (f2 n m) ⟨fun r => k r e2⟩⟩⟩) x) x := rfl
@[simp ↓] theorem wChain_dn (f g : F2) : wChain f g o1 o2 o3 env k x = o1 env (fun a e1 => o2 e1 (fun b e2 => @onI _ (a.get e2) ⟨fun n => @onI _ (b.get e2) ⟨fun m => @onI _ (f n m) ⟨fun r => @onI _ (match r with | .d (.bl t) => some t | _ => none) ⟨fun t =>
  if t = true then o3 e2 (fun c e3 => @onI _ (b.get e3) ⟨fun m => @onI _ (c.get e3) ⟨fun p => @onI _ (g m p) ⟨fun r => k r e3⟩⟩⟩) x else k (.d (.bl false)) e2⟩⟩⟩⟩) x) x := rfl
@[simp ↓] theorem wB_dn : wB w env kt x = w env (fun n e => @onI _ (asBl n) ⟨fun b => kt b e⟩) x := rfl
@[simp ↓] theorem wTr_dn : wTr o env kt x = o env (fun a e => @onI _ ((a.get e).bind flat) ⟨fun n => @onI _ (truD n) ⟨fun b => kt b e⟩⟩) x := rfl
@[simp ↓] theorem wNot_dn : wNot t env kt x = t env (fun b e => kt (!b) e) x := rfl
@[simp ↓] theorem wAnd_dn : wAnd t1 t2 env kt x = t1 env (fun b e => if b = true then t2 e kt x else kt false e) x := rfl
@[simp ↓] theorem wOr_dn : wOr t1 t2 env kt x = t1 env (fun b e => if b = true then kt true e else t2 e kt x) x := rfl
@[simp ↓] theorem wIfT_dn : wIfT t t1 t2 env kt x = t env (fun c e => if c = true then t1 e kt x else t2 e kt x) x := rfl
@[simp ↓] theorem wAndV_dn : wAndV w u env k x = w env (fun n e => @onI _ ((flat n).bind truD) ⟨fun b => if b = true then u e k x else k n e⟩) x := rfl
@[simp ↓] theorem wOrV_dn : wOrV w u env k x = w env (fun n e => @onI _ ((flat n).bind truD) ⟨fun b => if b = true then k n e else u e k x⟩) x := rfl
@[simp ↓] theorem wNotV_dn : wNotV o env k x = o env (fun a e => @onI _ ((a.get e).bind flat) ⟨fun n => @onI _ (truD n) ⟨fun b => k (.d (.bl !b)) e⟩⟩) x := rfl
@[simp ↓] theorem wIf_dn : wIf t w u env k x = t env (fun c e => if c = true then w e k x else u e k x) x := rfl
@[simp ↓] theorem wBor_dn : wBor w env k x = w (frzE env) (fun r _ => clean r = true ∧ k r env) (fun e _ => xclean e = true ∧ x e env) := rfl
@[simp ↓] theorem wBorT_dn : wBorT t env kt x = t (frzE env) (fun b _ => kt b env) (fun e _ => xclean e = true ∧ x e env) := rfl
@[simp ↓] theorem wFr_dn : wFr w env k x = w env (fun n e => k (.d n.view) e) x := rfl
@[simp ↓] theorem aNil_dn : aNil env ka x = ka [] env := rfl
@[simp ↓] theorem aCons_dn : aCons o a env ka x = o env (fun val e => a e (fun vals e2 => ka (val :: vals) e2) x) x := rfl
@[simp ↓] theorem aStar_dn : aStar w a env ka x = w env (fun n e => @onI _ (seqOf n.view) ⟨fun l => a e (fun vals e2 => ka (l.map (fun d => Val.t (.d d)) ++ vals) e2) x⟩) x := rfl
@[simp ↓] theorem wLst_dn : wLst a env k x = a env (fun vals e => @onI _ (allT vals) ⟨fun ns => ns.length ≤ sizeLine ∧ k (.lst ns) e⟩) x := rfl
@[simp ↓] theorem wTup_dn : wTup a env k x = a env (fun vals e => @onI _ (allT vals) ⟨fun ns => ns.length ≤ sizeLine ∧ k (.tup ns) e⟩) x := rfl
@[simp ↓] theorem wCB_dn (f : FL) : wCB f a env k x = a env (fun vals e => @onI _ (getAll e vals) ⟨fun ns => @onI _ (f ns) ⟨fun r => k r e⟩⟩) x := rfl
@[simp ↓] theorem wIsi_dn (ns : List String) : wIsi o ns env k x = o env (fun a e => @onI _ ((a.get e).bind flat) ⟨fun d => isaOk d = true ∧ k (.d (.bl (ns.any (isaB d)))) e⟩) x := rfl
@[simp ↓] theorem wCall_dn (np : Nat) (fs : FS) : wCall np fs a env k x = a env (fun vals e => vals.length = np ∧ @onI _ (takeAll e vals) ⟨fun p => @callS fs p.1 ⟨fun r outs => k r (putBack p.2 vals outs), fun ex outs => onS (exUp vals ex) fun ex' => x ex' (putBack p.2 vals outs)⟩⟩) x := rfl
@[simp ↓] theorem wsNil_dn : wsNil env E x = E.nx env := rfl
@[simp ↓] theorem wsCons_dn (a b : WS) : wsCons a b env E x = a env { E with nx := fun e => b e E x } x := rfl
@[simp ↓] theorem wsEx_dn : wsEx w env E x = w env (fun _ e => E.nx e) x := rfl
@[simp ↓] theorem wsRet_dn : wsRet w env E x = w env (fun n e => E.rt n e) x := rfl
@[simp ↓] theorem wsRetN_dn : wsRetN env E x = E.rt (.d .non) env := rfl
@[simp ↓] theorem wsIf_dn (a b : WS) : wsIf t a b env E x = t env (fun c e => if c = true then a e E x else b e E x) x := rfl
@[simp ↓] theorem wsBrk_dn : wsBrk env E x = E.bk env := rfl
@[simp ↓] theorem wsCont_dn : wsCont env E x = E.ct env := rfl
@[simp ↓] theorem wsSet_dn (i : Nat) : wsSet i w env E x = w env (fun n e => E.nx (e.set i (some n))) x := rfl
@[simp ↓] theorem wsAsg_dn (g : GT) : wsAsg g w env E x = w env (fun n e => g n e E.nx) x := rfl
@[simp ↓] theorem wsPar_dn (i j : Nat) : wsPar i j a env E x = a env (fun vals e => @onI _ (allT vals) ⟨fun ns => match ns with
  | [n, m] => E.nx ((e.set i (some n)).set j (some m))
  | _ => False⟩) x := rfl
@[simp ↓] theorem wsPar3_dn (i j l : Nat) : wsPar3 i j l a env E x = a env (fun vals e => @onI _ (allT vals) ⟨fun ns => match ns with
  | [n, m, o] => E.nx (((e.set i (some n)).set j (some m)).set l (some o))
  | _ => False⟩) x := rfl
@[simp ↓] theorem gtNm_dn (i : Nat) (n : N) (kk : Env → Prop) : gtNm i n env kk = kk (env.set i (some n)) := rfl
@[simp ↓] theorem gtsNil_dn (ns : List N) (kk : Env → Prop) : gtsNil ns env kk = (ns = [] ∧ kk env) := rfl
@[simp ↓] theorem gtsCons_dn (g : GT) (r : GTs) (n : N) (l : List N) (kk : Env → Prop) : gtsCons g r (n :: l) env kk = g n env (fun e => r l e kk) := rfl
@[simp ↓] theorem gtTp_dn (m : Nat) (g : GTs) (n : N) (kk : Env → Prop) : gtTp m g n env kk = @onI _ (kids n) ⟨fun l => l.length = m ∧ g l env kk ⟩:= rfl
@[simp ↓] theorem wsFor_dn (wi : WI) (g : GT) (b : WS) : wsFor wi g b env E x = wi env (fun l e => @forS g b l e ⟨E, x⟩) x := rfl
@[simp ↓] theorem iSeq_dn (kk : List D → Env → Prop) : iSeq w env kk x = w env (fun n e => @onI _ (seqOf n.view) ⟨fun l => kk l e⟩) x := rfl
@[simp ↓] theorem iRg1_dn (kk : List D → Env → Prop) : iRg1 a env kk x = a env (fun vals e => @onI _ (getAll e vals) ⟨fun ns => match ns with
  | [.d (.int j)] => (-(2 ^ 62) ≤ j ∧ j < 2 ^ 62) ∧ kk (rangeD 0 j.toNat) e
  | _ => False⟩) x := rfl
@[simp ↓] theorem iRg2_dn (kk : List D → Env → Prop) : iRg2 a env kk x = a env (fun vals e => @onI _ (getAll e vals) ⟨fun ns => match ns with
  | [.d (.int i), .d (.int j)] => (-(2 ^ 62) ≤ i ∧ i < 2 ^ 62 ∧ -(2 ^ 62) ≤ j ∧ j < 2 ^ 62) ∧ kk (rangeD i (j - i).toNat) e
  | _ => False⟩) x := rfl
@[simp ↓] theorem iEnm_dn (kk : List D → Env → Prop) : iEnm w env kk x = w env (fun n e => match n.view with
  | .lst l => kk (enumD l) e
  | _ => False) x := rfl
@[simp ↓] theorem wLc_dn (wi : WI) (g : GT) (own : List Nat) : wLc wi g t w own env k x = wi env (fun l e => @lcS g t w own l [] e ⟨fun p => k (.lst p.1) (wipeN p.2 own)⟩) x := rfl
@[simp ↓] theorem wYes_dn : wYes env kt x = kt true env := rfl
@[simp ↓] theorem wApp_dn (i : Nat) : wApp i w env k x = @onI _ ((env[i]?).join) ⟨fun m => isL m = true ∧ w env (fun n e => match (e[i]?).join with
  | some (.lst ns) => ns.length < sizeLine ∧ k (.d .non) (e.set i (some (.lst (ns ++ [n]))))
  | _ => False) x ⟩:= rfl
@[simp ↓] theorem wsPutL_dn (i : Nat) : wsPutL i o w env E x = w env (fun n e => @onI _ ((e[i]?).join) ⟨fun m => isL m = true ∧ o e (fun val e2 => @onI _ ((val.get e2).bind flat) ⟨fun d => match d, (e2[i]?).join with
  | .int k, some (.lst ns) => onS (ixN ns.length k) fun j => E.nx (e2.set i (some (.lst (ns.set j n))))
  | _, _ => False⟩) x⟩) x := rfl
@[simp ↓] theorem wsFld_dn (at_ : Str → Str → Bool) (i : Nat) (f : Str) : wsFld at_ i f w env E x = w env (fun n e => match (e[i]?).join with
  | some (.obj c fs l) => at_ c f = true ∧ f ∉ fs ∧ fs.length < 1000 ∧ E.nx (e.set i (some (.obj c (fs ++ [f]) (l ++ [n]))))
  | _ => False) x := rfl
@[simp ↓] theorem wSl_dn (lo hi : WP) : wSl o lo hi env k x = o env (fun a e => lo e (fun l e1 => hi e1 (fun h e2 => @onI _ ((a.get e2).bind flat) ⟨fun d => @onI _ (gSl d l h) ⟨fun r => k r e2⟩⟩) x) x) x := rfl
@[simp ↓] theorem pNo_dn (kk : Option Int → Env → Prop) : pNo env kk x = kk none env := rfl
@[simp ↓] theorem pSome_dn (kk : Option Int → Env → Prop) : pSome w env kk x = w env (fun n e => match n with
  | .d (.int i) => kk (some i) e
  | _ => False) x := rfl
@[simp ↓] theorem wLRg_dn (r : WR) : wLRg r env k x = r env (fun a b e => RgOk a b ∧ k (.lst ((rangeD a (b - a).toNat).map N.d)) e) x := rfl
@[simp ↓] theorem wRg1_dn (kk : Int → Int → Env → Prop) : wRg1 w env kk x = w env (fun n e => match n with
  | .d (.int j) => kk 0 j e
  | _ => False) x := rfl
@[simp ↓] theorem wRg2_dn (kk : Int → Int → Env → Prop) : wRg2 w u env kk x = w env (fun n e => u e (fun m e2 => match n, m with
  | .d (.int i), .d (.int j) => kk i j e2
  | _, _ => False) x) x := rfl
@[simp ↓] theorem wLenO_dn (c : Str) (fs : FS) : wLenO c fs o env k x = wCall 1 (fsO c fs) (aCons o aNil) env (fun r e => ∃ n : Int, r = .d (.int n) ∧ 0 ≤ n ∧ n < 2 ^ 63 ∧ k r e) noX := rfl
@[simp ↓] theorem wInO_dn (neg : Bool) (c : Str) (fs : FS) : wInO neg c fs o1 o2 env k x = wCall 2 (fsO c fs) (aPick [1, 0] (aCons o1 (aCons o2 aNil))) env (fun r e => ∃ b : Bool, r = .d (.bl b) ∧ k (.d (.bl (if neg then !b else b))) e) noX := rfl
@[simp ↓] theorem aPick_dn (p : List Nat) : aPick p a env ka x = a env (fun vals e => p.Perm (List.range vals.length) ∧ ka (pick p vals) e) x := rfl
@[simp ↓] theorem aKw_dn (n m : Nat) (pm : List Nat) : aKw n m pm a b env ka x = a env (fun vals e => b e (fun vals2 e2 => (vals.length = n ∧ vals2.length = m) ∧ pm.Perm (List.range (vals ++ vals2).length) ∧ ka (pick pm (vals ++ vals2)) e2) x) x := rfl
@[simp ↓] theorem wMake_dn (c : Str) (np : Nat) (fs : FS) : wMake c np fs a env k x = a env (fun vals e => vals.length + 1 = np ∧ @onI _ (takeAll e vals) ⟨fun p => @callS fs (.obj c [] [] :: p.1) ⟨fun r outs => r = .d .non ∧ (match outs with
  | some o :: os => k o (putBack p.2 vals os)
  | _ => False), fun ex outs => onS (exUpM vals ex) fun ex' => x ex' (putBack p.2 vals outs.tail)⟩⟩) x := rfl
@[simp ↓] theorem wLenSet_dn : wLenSet o env k x = o env (fun a e => @onI _ ((a.get e).bind flat) ⟨fun d => @onI _ (seqI d) ⟨fun ns => ns.length < 4000 ∧ k (.d (.int ((ddp ns).length : Nat))) e⟩⟩) x := rfl
@[simp ↓] theorem wRevL_dn : wRevL o env k x = o env (fun a e => match (a.get e).bind flat with
  | some (.lst l) => k (.lst (l.reverse.map N.d)) e
  | _ => False) x := rfl
end
@[simp] theorem frzE_nil' : frzE [] = [] := rfl
@[simp] theorem frzE_cons' (o : Option N) (l : Env) : frzE (o :: l) = (o.map fun n => N.d n.view) :: frzE l := rfl
@[simp] theorem endsOf_rt (np : Nat) (k : N → Env → Prop) (r : N) (e : Env) : (endsOf np k).rt r e = k r (e.take np) := rfl
@[simp] theorem endsOf_nx (np : Nat) (k : N → Env → Prop) (e : Env) : (endsOf np k).nx e = k (.d .non) (e.take np) := rfl

def N__law_left_out : List Str := ["world", "value", "k", "missing", "many", "last", "above", "left", "one"]
def W__law_left_out : WS := (wsCons (wsAsg (gtTp 2 (gtsCons (gtNm 4) (gtsCons (gtNm 5) gtsNil))) (wTup (aCons (oF (wCB (upL gLen) (aCons (oE (wOp2 (up2 gIx) (oS 0) (oE (wC (.int 0))))) aNil))) (aCons (oF (wOp2 (up2 gAdd) (oE (wCB (upL gLen) (aCons (oE (wOp2 (up2 gIx) (oS 0) (oE (wC (.int 0))))) aNil))) (oE (wCB (upL gLen) (aCons (oE (wOp2 (up2 gIx) (oS 0) (oE (wC (.int 1))))) aNil))))) aNil)))) (wsCons (wsIf (wBorT (wNot (wB (wIsi (oS 1) ["list", "tuple"])))) (wsRet (wFr (wLst aNil))) wsNil) (wsCons (wsIf (wBorT (wOr (wB (wOp2 (up2 gNe) (oE (wLc (iSeq (wVar 1)) (gtNm 8) (wBorT (wNot (wB (wCall 2 S__law_is_number (aCons (oS 8) (aCons (oS 5) aNil)))))) (wFr (wVar 8)) [8])) (oE (wLst aNil)))) (wB (wOp2 (up2 gNe) (oE (wLenSet (oS 1))) (oE (wCB (upL gLen) (aCons (oS 1) aNil))))))) (wsRet (wFr (wLst aNil))) wsNil) (wsCons (wsFor (iRg1 (aCons (oF (wCB (upL gLen) (aCons (oS 1) aNil))) aNil)) (gtNm 2) (wsCons (wsSet 6 (wFr (wOp2 (up2 gIx) (oF (wCall 2 S__law_job (aCons (oS 0) (aCons (oF (wOp2 (up2 gIx) (oS 1) (oS 2))) aNil)))) (oE (wC (.int 0)))))) (wsIf (wBorT (wAnd (wB (wOp2 (up2 gIsNot) (oS 6) (oE (wC .non)))) (wB (wOp2 (up2 gNotIn) (oS 6) (oE (wSl (oS 1) pNo (pSome (wVar 2)))))))) (wsRet (wFr (wLst aNil))) wsNil))) (wsCons (wsSet 3 (wLc (iSeq (wCall 1 S__law_lefts (aCons (oS 0) aNil))) (gtNm 7) (wBorT (wB (wOp2 (up2 gNotIn) (oS 7) (oS 1)))) (wFr (wVar 7)) [7])) (wsRet (wFr (wIf (wBorT (wAnd (wB (wOp2 (up2 gEq) (oE (wCB (upL gLen) (aCons (oS 3) aNil))) (oE (wC (.int 1))))) (wB (wOp2 (up2 gEq) (oE (wCB (upL gSortA) (aCons (oS 1) aNil))) (oF (wCall 2 S__law_needed (aCons (oS 0) (aCons (oF (wOp2 (up2 gIx) (oS 3) (oE (wC (.int 0))))) aNil)))))))) (wVar 3) (wLst aNil)))))))))
def B0__law_left_out : WS := (wsCons (wsSet 6 (wFr (wOp2 (up2 gIx) (oF (wCall 2 S__law_job (aCons (oS 0) (aCons (oF (wOp2 (up2 gIx) (oS 1) (oS 2))) aNil)))) (oE (wC (.int 0)))))) (wsIf (wBorT (wAnd (wB (wOp2 (up2 gIsNot) (oS 6) (oE (wC .non)))) (wB (wOp2 (up2 gNotIn) (oS 6) (oE (wSl (oS 1) pNo (pSome (wVar 2)))))))) (wsRet (wFr (wLst aNil))) wsNil))
theorem wipe1 {e l : Env} {i : Nat} (h : wipeN e [i] = l) : ∃ y, e = l.set i y := by
  rw [wipeN_cons, wipeN_nil] at h
  subst h
  by_cases c : i < e.length
  · exact ⟨e[i], by rw [List.set_set, List.set_getElem_self]⟩
  · exact ⟨none, by rw [List.set_eq_of_length_le (by simpa using Nat.le_of_not_lt c), List.set_eq_of_length_le (Nat.le_of_not_lt c)]⟩
theorem wipe2 {e l : Env} {i j : Nat} (h : wipeN e [i, j] = l) : ∃ y z, e = (l.set i y).set j z := by
  obtain ⟨y, hy⟩ := wipe1 (e := wipeN e [j]) (l := l) (i := i) (by rw [← h]; rfl)
  obtain ⟨z, hz⟩ := wipe1 hy
  exact ⟨y, z, hz⟩
theorem gIx_sq {b : Bool} {l : List Nat} {i : Nat} (h : i < l.length) : gIx (sqD b l) (iD i) = some (.d (iD l[i])) := by
  have e : (nD l)[i]? = some (iD l[i]) := by rw [nD, List.getElem?_map, List.getElem?_eq_getElem h]; rfl
  cases b
  · show gIx (.lst (nD l)) (.int (i : Int)) = _
    rw [gIx_lst, e]
    rfl
  · show gIx (.tup (nD l)) (.int (i : Int)) = _
    rw [gIx_tup, e]
    rfl
theorem gSl_sq (b : Bool) {l : List Nat} {i : Nat} (h : i < l.length) : ∃ s : N, gSl (sqD b l) none (some (i : Int)) = some s ∧ s.view = sqD b (l.take i) ∧ flat s = some (sqD b (l.take i)) := by
  have e1 : HT.sIx (nD l).length 0 none = 0 := rfl
  have e2 : HT.sIx (nD l).length (nD l).length (some (i : Int)) = i := by
    rw [nD_len, HT.sIx_nat]
    omega
  have e3 : cutD (nD l) none (some (i : Int)) = nD (l.take i) := by
    unfold cutD
    rw [e1, e2]
    simp [nD]
  cases b
  · refine ⟨.lst ((nD (l.take i)).map N.d), ?_, by simp [sqD], ?_⟩
    · show some (N.lst ((cutD (nD l) none (some (i : Int))).map N.d)) = _
      rw [e3]
    · simp [flat, sqD]
  · refine ⟨.tup ((nD (l.take i)).map N.d), ?_, by simp [sqD], ?_⟩
    · show (if _ ∧ _ then none else some (N.tup ((cutD (nD l) none (some (i : Int))).map N.d))) = _
      rw [e3, if_neg]
      rw [e2, nD_len]
      omega
    · simp [flat, sqD]
theorem choO_len {cs : List Cv} {js : List Jb} (hw : Wok cs js) : 1 ≤ (choO cs js).length ∧ (choO cs js).length ≤ 20 := by
  have := hw.jl
  unfold choO
  split
  · simp
  · rename_i h
    have : js.length ≠ 0 := fun z => h (List.length_eq_zero_iff.mp z)
    simp
    omega
theorem s__law_left_out : ∀ ns k x, S__law_left_out ns k x → ns.length = 2 → W__law_left_out (startE N__law_left_out ns) (endsOf 2 k) (xOf 2 x) := by
  rintro _ k x ⟨cs, js, q, rfl, hw, h1, h⟩ _
  have big := big_sizeLine
  have l20 := hw.cl
  have l21 := hw.jl
  have z2 : 2 ≤ sizeLine := by omega
  have z0 : 0 ≤ sizeLine := by omega
  cases q with
  | none =>
    simp -implicitDefEqProofs [W__law_left_out, N__law_left_out, endsOf, frzE, jv, gAdd, z2, isaB] at h ⊢
    simpa [jvO] using h
  | some q =>
    obtain ⟨b, l⟩ := q
    obtain ⟨hl, hn⟩ := h1
    have isl : ∀ b : Bool, isaB (sqD b l) "list" = true ∨ isaB (sqD b l) "tuple" = true := by intro b; cases b; exact .inl rfl; exact .inr rfl
    simp -implicitDefEqProofs [W__law_left_out, N__law_left_out, endsOf, frzE, jv, gAdd, z2, isl, -wipeN_nil, -wipeN_cons]
    rw [if_neg (show ¬ (isaB (sqD b l) "list" = false ∧ isaB (sqD b l) "tuple" = false) by cases b <;> simp [sqD, isaB])]
    refine lcL_filX (E0 := [some (.d (worD cs js)), some (.d (sqD b l)), none, none, some (.d (.int cs.length)), some (.d (.int ((cs.length : Int) + (js.length : Int)))), none, none, none]) iD (fun _ => false) (fun i => .d (iD i)) (fun i hi kk hk => ?_) (by omega) rfl fun e he => ?_
    · have hii := hl i hi
      simp -implicitDefEqProofs [frzE]
      refine x_is_number rfl ?_
      have : isNumB ((cs.length : Int) + (js.length : Int)) (iD i) = true := by simp -implicitDefEqProofs [isNumB, iD]; omega
      simp -implicitDefEqProofs [this]
      exact hk _ rfl
    · obtain ⟨y8, rfl⟩ := wipe1 he
      have g0 : gNe (.lst []) (.lst []) = some (.d (.bl false)) := by simp -implicitDefEqProofs [gNe, eqD_sq0 []]; have := eqD_sq0 []; simpa [nD] using this
      have hs : seqI (sqD b l) = some (zI l) := by cases b <;> simp -implicitDefEqProofs [sqD, allI_nD]
      have hf : l.filter (fun _ => false) = [] := by simp
      have hzl : (zI l).length = l.length := by simp -implicitDefEqProofs [zI]
      have hgn : gNe (.int ((ddp (zI l)).length : Nat)) (.int (l.length : Nat)) = some (.d (.bl (!decide l.Nodup))) := by
        have e : ((ddp (zI l)).length = l.length) ↔ l.Nodup := by rw [← hzl, ddp_nodup, zI_nodup]
        simp -implicitDefEqProofs [gNe, eqD]
        rw [← e]
        omega
      have h4 : l.length < 4000 := by omega
      have h5 : (l.length : Int) < 4611686018427387904 := by omega
      simp -implicitDefEqProofs [jv, endsOf, N__law_left_out, hf, g0, hs, hzl, hgn, h4, h5, rangeD_zero]
      by_cases nd : l.Nodup
      · simp -implicitDefEqProofs [jv, endsOf, N__law_left_out, nd]
        refine forL_rec iD (fun dn r e => (∃ u v w y z, e = [some (.d (worD cs js)), some (.d (sqD b l)), u, v, some (.d (.int cs.length)), some (.d (.int ((cs.length : Int) + (js.length : Int)))), w, y, z] ∧ ∀ k ∈ dn, ∀ hk : k < l.length, abvOk (l.take k) (aboveJ cs js l[k]) = true) ∧ dn ++ r = List.range l.length) ?_ ?_ (List.range l.length) [] _ ⟨⟨_, _, _, _, _, rfl, by simp⟩, rfl⟩
        · rintro dn i r _ kk ⟨⟨u, v, w, y, z, rfl, hI⟩, hd⟩ hk
          have hi : i < l.length := by
            have : i ∈ List.range l.length := by rw [← hd]; simp
            simpa using this
          have hli := hl _ (List.getElem_mem hi)
          obtain ⟨row, hr, ha, _⟩ := row_get hli
          have g1 : gIx (sqD b l) (iD i) = some (.d (iD l[i])) := gIx_sq hi
          simp -implicitDefEqProofs [jv, endsOf, N__law_left_out, g1]
          refine x_job hli fun r' hr' => ?_
          rw [hr] at hr'
          cases hr'
          have hd' : (dn ++ [i]) ++ r = List.range l.length := by rw [← hd]; simp
          have done : abvOk (l.take i) row.1 = true → ∀ k ∈ dn ++ [i], ∀ hk : k < l.length, abvOk (l.take k) (aboveJ cs js l[k]) = true := by
            intro h k hk2 hk3
            rcases List.mem_append.mp hk2 with q | q
            · exact hI k q hk3
            · have : k = i := by simpa using q
              subst this
              rw [ha]
              exact h
          obtain ⟨sl, hsl, hsv, hsf⟩ := gSl_sq b hi
          cases q : row.1 with
          | none =>
            simp -implicitDefEqProofs [jv, endsOf, N__law_left_out, frzE, q, gIsNot, isD]
            exact hk _ ⟨⟨_, _, _, _, _, rfl, done (by rw [q]; rfl)⟩, hd'⟩
          | some a =>
            have hin : inD (.int (a : Int)) (sqD b (l.take i)) = some (decide (a ∈ l.take i)) := inD_sq a b _
            simp -implicitDefEqProofs [jv, endsOf, N__law_left_out, frzE, q, gIsNot, isD, iD, hsl, hsf, gNotIn, hin]
            by_cases c : a ∈ l.take i
            · simp -implicitDefEqProofs [jv, endsOf, N__law_left_out, c]
              exact hk _ ⟨⟨_, _, _, _, _, rfl, done (by rw [q]; simpa [abvOk] using c)⟩, hd'⟩
            · simp -implicitDefEqProofs [jv, endsOf, N__law_left_out, c, z0]
              have hb : ¬ begB cs js [] l = true := fun z => by
                have := (begB_iff.mp z).2.2 i hi
                rw [ha, q] at this
                simp -implicitDefEqProofs [jv, endsOf, N__law_left_out, abvOk, c] at this
              simpa [jvO, lawOut, hb, jv] using h
        · rintro dn _ ⟨⟨u, v, w, y, z, rfl, hI⟩, hd⟩
          rw [List.append_nil] at hd
          subst hd
          have hb : begB cs js [] l = true := begB_iff.mpr ⟨fun _ _ h => absurd h List.not_mem_nil, nd, fun k hk => (by rw [List.nil_append]; exact hI k (List.mem_range.mpr hk) hk)⟩
          simp -implicitDefEqProofs [jv, endsOf, N__law_left_out, -wipeN_nil, -wipeN_cons]
          refine x_lefts hw ?_
          have hcl := choO_len hw
          simp -implicitDefEqProofs [jv, endsOf, N__law_left_out, seq_lst, -wipeN_nil, -wipeN_cons]
          refine lcL_filX (E0 := [some (.d (worD cs js)), some (.d (sqD b l)), u, v, some (.d (.int cs.length)), some (.d (.int ((cs.length : Int) + (js.length : Int)))), w, none, z]) oD (fun o => decide (o ∉ l.map some)) (fun o => .d (oD o)) (fun o ho kk hk => ?_) (by omega) rfl fun e he => ?_
          · by_cases c : o ∈ l.map some
            · have hin : inD (oD o) (sqD b l) = some true := by rw [inD_oD]; simpa using c
              simp only [c, not_true_eq_false, decide_false, Bool.false_eq_true, if_false] at hk
              simp -implicitDefEqProofs [jv, endsOf, N__law_left_out, frzE, gNotIn, hin]
              exact hk _ rfl
            · have hin : inD (oD o) (sqD b l) = some false := by rw [inD_oD]; simpa using c
              simp only [c, not_false_eq_true, decide_true, if_true] at hk
              simp -implicitDefEqProofs [jv, endsOf, N__law_left_out, frzE, gNotIn, hin]
              exact hk _ rfl
          · obtain ⟨y7, rfl⟩ := wipe1 he
            simp only [wipeN_nil, wipeN_cons, List.set_cons_succ, List.set_cons_zero]
            rw [show (choO cs js).filter (fun o => decide (o ∉ l.map some)) = missO cs js l from rfl]
            have hm0 : (N.views ((missO cs js l).map fun o => N.d (oD o))) = (missO cs js l).map oD := views_mapF oD _
            have hm : allD ((missO cs js l).map fun o => N.d (oD o)) = some ((missO cs js l).map oD) := views_mapD oD _
            have hge : gEq (.int ((missO cs js l).length : Nat)) (.int 1) = some (.d (.bl (decide ((missO cs js l).length = 1)))) := by
              simp -implicitDefEqProofs [jv, endsOf, N__law_left_out, gEq, eqD]
              omega
            by_cases c : (missO cs js l).length = 1
            · obtain ⟨o, ho⟩ := List.length_eq_one_iff.mp c
              have hgo : gIx (.lst [oD o]) (.int 0) = some (.d (oD o)) := rfl
              have g11 : gEq (.int 1) (.int 1) = some (.d (.bl true)) := by simp -implicitDefEqProofs [jv, endsOf, N__law_left_out, gEq, eqD]
              simp -implicitDefEqProofs [jv, endsOf, N__law_left_out, frzE, ho, hgo, g11, gSortA_sq]
              refine x_needed hw ?_
              have g2 : eqD (.lst ((sortI (zI l)).map D.int)) (.lst (nD (need cs js o))) = some (decide (sortI (zI l) = zI (need cs js o))) := eqD_intsN _ _
              simp -implicitDefEqProofs [jv, endsOf, N__law_left_out, gEq, g2]
              by_cases c2 : sortI (zI l) = zI (need cs js o)
              · simp -implicitDefEqProofs [jv, endsOf, N__law_left_out, c2]
                simpa [jvO, lawOut, hb, ho, c2, jv] using h
              · simp -implicitDefEqProofs [jv, endsOf, N__law_left_out, c2, z0]
                simpa [jvO, lawOut, hb, ho, c2, jv] using h
            · simp -implicitDefEqProofs [jv, endsOf, N__law_left_out, frzE, hm0, hge, c, z0]
              simpa [jvO, lawOut, hb, c, jv] using h
      · have hb : ¬ begB cs js [] l = true := fun z => nd (begB_iff.mp z).2.1
        simp -implicitDefEqProofs [jv, endsOf, N__law_left_out, nd, z0]
        simpa [jvO, lawOut, hb, jv] using h

/-! ### repr: what is shown fits -/
theorem ofString_inj {a b : String} : Str.ofString a = Str.ofString b ↔ a = b := by
  constructor
  · intro h
    rw [Str.ofString_eq_toList, Str.ofString_eq_toList] at h
    have h1 : (a.toList.map Char.toNat).toArray = (b.toList.map Char.toNat).toArray := congrArg Str.cps h
    have h2 : a.toList.map Char.toNat = b.toList.map Char.toNat := congrArg Array.toList h1
    have h3 : a.toList = b.toList := List.map_inj_right (fun x y e => Char.toNat_inj.mp e) |>.mp h2
    exact String.toList_inj.mp h3
  · exact fun e => by rw [e]
theorem strInt_inj {a b : Int} : Str.ofString (toString a) = Str.ofString (toString b) ↔ a = b := by
  rw [ofString_inj]
  exact Int.repr_inj
theorem int_shown_le {i : Int} (h1 : -1000000000000 < i) (h2 : i < 1000000000000) : (PyData.shown (.int i)).length ≤ 99 := by
  have e : (PyData.shown (.int i)) = Str.ofString (toString i) := rfl
  rw [e]
  have l : ∀ s : String, (Str.ofString s).length = s.length := fun s => by
    rw [Str.ofString_eq_toList]
    show (s.toList.map Char.toNat).toArray.size = _
    rw [List.size_toArray, List.length_map, String.length_toList]
  rw [l]
  have hk : (2 : Nat) ^ 40 = 1099511627776 := by decide
  rcases Int.lt_or_le i 0 with c | c
  · have : toString i = "-" ++ Nat.repr i.natAbs := by
      show Int.repr i = _
      cases i with
      | ofNat n => exact absurd c (by simp)
      | negSucc n => rfl
    rw [this, String.length_append]
    have := nat_repr_length_le (n := i.natAbs) (k := 40) (by omega) (by omega)
    have e1 : "-".length = 1 := rfl
    omega
  · have : toString i = Nat.repr i.natAbs := by
      show Int.repr i = _
      cases i with
      | ofNat n => rfl
      | negSucc n => exact absurd c (by simp)
    rw [this]
    have := nat_repr_length_le (n := i.natAbs) (k := 40) (by omega) (by omega)
    omega
/-- shown with at most some depth and bulk -/
structure Rp (d : D) (n m : Nat) : Prop where
  ex : ∃ p, toPy d = some p ∧ p.showable = true ∧ p.hasDict = false ∧ p.depth ≤ n ∧ p.leavesShort 99 = true ∧ p.bulk ≤ m
structure Rps (l : List D) (n m : Nat) : Prop where
  ex : ∃ ps, toPys l = some ps ∧ PyData.showableAll ps = true ∧ PyData.hasDictAll ps = false ∧ PyData.depthAll ps ≤ n ∧ PyData.leavesShortAll 99 ps = true ∧ PyData.bulkAll ps ≤ m
theorem Rp.non {n m : Nat} : Rp .non n m := ⟨_, by rw [toPy], by rw [PyData.showable], by rw [PyData.hasDict], by rw [PyData.depth]; omega, by rw [PyData.leavesShort], by rw [PyData.bulk]; omega⟩
theorem Rp.bl {b : Bool} {n m : Nat} : Rp (.bl b) n m := ⟨_, by rw [toPy], by rw [PyData.showable], by rw [PyData.hasDict], by rw [PyData.depth]; omega, by rw [PyData.leavesShort], by rw [PyData.bulk]; omega⟩
theorem Rp.int {i : Int} {n m : Nat} (h1 : -1000000000000 < i) (h2 : i < 1000000000000) : Rp (.int i) n m := by
  refine ⟨_, by rw [toPy], ?_, by rw [PyData.hasDict], by rw [PyData.depth]; omega, ?_, by rw [PyData.bulk]; omega⟩
  · rw [PyData.showable, decide_eq_true_eq]
    by_cases z : i.natAbs = 0
    · rw [z]; decide
    · have e40 : (2 : Nat) ^ 40 = 1099511627776 := by decide
      have lt : i.natAbs < 2 ^ 40 := by omega
      exact (Nat.log2_lt z).mpr (Nat.lt_of_lt_of_le lt (Nat.pow_le_pow_right (by omega) (by omega)))
  · rw [PyData.leavesShort, decide_eq_true_eq]
    exact int_shown_le h1 h2
theorem Rps.nil {n m : Nat} : Rps [] n m := ⟨[], by rw [toPys], by rw [PyData.showableAll], by rw [PyData.hasDictAll], by rw [PyData.depthAll]; omega, by rw [PyData.leavesShortAll], by rw [PyData.bulkAll]; omega⟩
theorem Rps.cons {d : D} {l : List D} {n m1 m2 : Nat} (h1 : Rp d n m1) (h2 : Rps l n m2) : Rps (d :: l) n (m1 + 1 + m2) := by
  obtain ⟨p, a1, a2, a3, a4, a5, a6⟩ := h1
  obtain ⟨ps, b1, b2, b3, b4, b5, b6⟩ := h2
  refine ⟨p :: ps, by rw [toPys, a1, b1]; rfl, by rw [PyData.showableAll, a2, b2]; rfl, by rw [PyData.hasDictAll, a3, b3]; rfl, by rw [PyData.depthAll]; omega, by rw [PyData.leavesShortAll, a5, b5]; rfl, by rw [PyData.bulkAll]; omega⟩
theorem Rp.lst {l : List D} {n m : Nat} (h : Rps l n m) : Rp (.lst l) (n + 1) m := by
  obtain ⟨ps, b1, b2, b3, b4, b5, b6⟩ := h
  exact ⟨.list ps, by rw [toPy, b1]; rfl, by rw [PyData.showable, b2], by rw [PyData.hasDict, b3], by rw [PyData.depth]; omega, by rw [PyData.leavesShort, b5], by rw [PyData.bulk]; omega⟩
theorem Rp.tup {l : List D} {n m : Nat} (h : Rps l n m) : Rp (.tup l) (n + 1) m := by
  obtain ⟨ps, b1, b2, b3, b4, b5, b6⟩ := h
  exact ⟨.tuple ps, by rw [toPy, b1]; rfl, by rw [PyData.showable, b2], by rw [PyData.hasDict, b3], by rw [PyData.depth]; omega, by rw [PyData.leavesShort, b5], by rw [PyData.bulk]; omega⟩
theorem Rps.mapf {α : Type} {f : α → D} {n m : Nat} : ∀ {l : List α}, (∀ a ∈ l, Rp (f a) n m) → Rps (l.map f) n (l.length * (m + 1))
  | [], _ => Rps.nil
  | a :: l, h => by
    have h1 := Rps.cons (h a List.mem_cons_self) (Rps.mapf fun b hb => h b (List.mem_cons_of_mem _ hb))
    rw [List.map_cons, List.length_cons, Nat.succ_mul, Nat.add_comm]
    exact h1
theorem Rps.mono {l : List D} {n m n' m' : Nat} (h : Rps l n m) (e : n ≤ n') (e2 : m ≤ m') : Rps l n' m' := by
  obtain ⟨ps, b1, b2, b3, b4, b5, b6⟩ := h
  exact ⟨ps, b1, b2, b3, by omega, b5, by omega⟩
theorem Rp.mono {l : D} {n m n' m' : Nat} (h : Rp l n m) (e : n ≤ n') (e2 : m ≤ m') : Rp l n' m' := by
  obtain ⟨ps, b1, b2, b3, b4, b5, b6⟩ := h
  exact ⟨ps, b1, b2, b3, by omega, b5, by omega⟩
theorem Rp.fit {d : D} {n m : Nat} (h : Rp d n m) (hn : n < 64) (hm : m ≤ 9000) : ∃ z : Str, gRepr [d] = some (.d (.str z)) := by
  obtain ⟨p, a1, a2, a3, a4, a5, a6⟩ := h
  have big := big_sizeLine
  have hl := PyData.shown_le_bulk 99 (by omega) p a5
  have hs : p.shown.length ≤ sizeLine := by omega
  have key : (toPy d).bind (fun p => if p.showable = true ∧ p.hasDict = false ∧ p.depth < 64 ∧ p.shown.length ≤ sizeLine then some (N.d (.str p.shown)) else none) = some (.d (.str p.shown)) := by
    rw [a1, Option.bind_some, if_pos ⟨a2, a3, by omega, hs⟩]
  cases d with
  | non => exact ⟨_, rfl⟩
  | bl b => exact ⟨_, rfl⟩
  | int i =>
    rw [toPy] at a1
    cases a1
    rw [PyData.showable, decide_eq_true_eq] at a2
    exact ⟨_, if_pos a2⟩
  | str z =>
    rw [toPy] at a1
    cases a1
    exact ⟨_, if_pos hs⟩
  | lst l => exact ⟨_, key⟩
  | tup l => exact ⟨_, key⟩
  | dic ks l => exact ⟨_, key⟩
  | obj c fs l => exact ⟨_, key⟩
  | scr l => exact ⟨_, key⟩
  | ext φ => exact ⟨_, key⟩
/-! ### plain: the law's reading of a short order is the program's -/
theorem missO_nil (cs : List Cv) (l : List Nat) : missO cs [] l = [none] := by
  unfold missO choO
  simp
theorem missO_cons {cs : List Cv} {js : List Jb} (h : js ≠ []) (l : List Nat) : missO cs js l = (leftN cs js l).map some := by
  unfold missO choO leftN
  rw [if_neg h, List.filter_map]
  congr 1
  refine List.filter_congr fun i _ => ?_
  rw [Function.comp_apply, decide_eq_decide]
  simp
theorem lawOut_eq (cs : List Cv) (js : List Jb) (l : List Nat) : lawOut cs js l = if shoB cs js l = true then [(leftN cs js l).head?] else [] := by
  unfold lawOut shoB
  by_cases h : js = []
  · subst h
    have h0 : leftN cs [] l = [] := by simp [leftN, insN]
    rw [missO_nil, h0]
    by_cases h1 : begB cs [] [] l = true
    · by_cases h2 : sortI (zI l) = zI (need cs [] none) <;> simp [h1, h2]
    · simp [h1]
  · have hl : 1 ≤ js.length := by
      cases js with
      | nil => exact absurd rfl h
      | cons _ _ => simp
    rw [missO_cons h]
    have hm : min 1 js.length = 1 := by omega
    rw [hm]
    cases q : leftN cs js l with
    | nil => simp
    | cons i t =>
      cases t with
      | nil =>
        by_cases h1 : begB cs js [] l = true
        · by_cases h2 : sortI (zI l) = zI (need cs js (some i)) <;> simp [h1, h2]
        · simp [h1]
      | cons _ _ => simp
theorem lt_take {l : List Nat} (h : l.Pairwise (· < ·)) {a k : Nat} (hk : k < l.length) (ha : a ∈ l) (hlt : a < l[k]) : a ∈ l.take k := by
  obtain ⟨i, hi, rfl⟩ := List.mem_iff_getElem.mp ha
  have hik : i < k := by
    by_cases c : i < k
    · exact c
    · exfalso
      rcases Nat.lt_or_eq_of_le (Nat.le_of_not_lt c) with c | c
      · have := List.pairwise_iff_getElem.mp h k i hk hi c
        omega
      · subst c
        omega
  exact List.mem_iff_getElem.mpr ⟨i, by simp; omega, by simp⟩
theorem aboveJ_c {cs : List Cv} {js : List Jb} {i : Nat} {x : Cv} (h : cs[i]? = some x) : aboveJ cs js i = x.1 := by
  have hi := (List.getElem?_eq_some_iff.mp h).1
  rw [aboveJ, rows_lt hi, h]
  rfl
theorem path_self {cs : List Cv} (hc : Cok cs) {a : Nat} (ha : a < cs.length) : a ∈ pathN cs (some a) := by
  rw [pathN_some hc (List.getElem?_eq_getElem ha)]
  simp
/-- a path holds what is above each of its covers -/
theorem path_up {cs : List Cv} {js : List Jb} (hw : Wok cs js) : ∀ (n : Nat) (o : Option Nat), upTo n o → upTo cs.length o → ∀ (j a : Nat), j ∈ pathN cs o → aboveJ cs js j = some a → a ∈ pathN cs o := by
  intro n
  induction n with
  | zero =>
    intro o h
    cases o with
    | none => intro _ j a hj; simp at hj
    | some i => exact absurd h (by simp [upTo])
  | succ n ih =>
    intro o h ho j a hj ha
    cases o with
    | none => simp at hj
    | some i =>
      have hi : i < cs.length := ho
      obtain ⟨x, hx⟩ : ∃ x, cs[i]? = some x := ⟨_, List.getElem?_eq_getElem hi⟩
      have hup := (hw.c i x hx).1
      rw [pathN_some hw.cok hx, List.mem_append] at hj ⊢
      rcases hj with hj | hj
      · exact .inl (ih x.1 (upTo_mono hup (by have : i < n + 1 := h; omega)) (upTo_mono hup (by omega)) j a hj ha)
      · have : j = i := by simpa using hj
        subst this
        rw [aboveJ_c hx] at ha
        rw [ha] at hup ⊢
        exact .inl (path_self hw.cok (Nat.lt_trans hup hi))
theorem mem_need {cs : List Cv} {js : List Jb} {o : Option Nat} {j : Nat} : j ∈ need cs js o ↔ j ∈ needC cs js o ∨ j ∈ othN cs js o := by simp [need]
theorem need_up {cs : List Cv} {js : List Jb} (hw : Wok cs js) {o : Option Nat} {j a : Nat} (hj : j ∈ need cs js o) (ha : aboveJ cs js j = some a) : a ∈ need cs js o := by
  rw [mem_need] at hj ⊢
  left
  rw [mem_needC hw]
  rcases hj with hj | hj
  · rw [mem_needC hw] at hj
    obtain ⟨i, hi, hji⟩ := List.mem_flatMap.mp hj
    exact List.mem_flatMap.mpr ⟨i, hi, path_up hw cs.length _ (upTo_mono (aboveJ_up hw i) (Nat.min_le_right _ _)) (upTo_mono (aboveJ_up hw i) (Nat.min_le_right _ _)) j a hji ha⟩
  · have hu := aboveJ_up hw j
    rw [ha] at hu
    have hu : a < min j cs.length := hu
    refine List.mem_flatMap.mpr ⟨j, hj, ?_⟩
    rw [ha]
    exact path_self hw.cok (by omega)
theorem above_lt {cs : List Cv} {js : List Jb} (hw : Wok cs js) {j a : Nat} (ha : aboveJ cs js j = some a) : a < j := by
  have hu := aboveJ_up hw j
  rw [ha] at hu
  have hu : a < min j cs.length := hu
  omega
theorem insN_pw (n m : Nat) : (insN n m).Pairwise (· < ·) := by
  unfold insN
  rw [List.pairwise_map]
  exact List.pairwise_lt_range.imp fun h => by omega
theorem need_pw {cs : List Cv} {js : List Jb} (o : Option Nat) : (need cs js o).Pairwise (· < ·) := by
  unfold need
  rw [List.pairwise_append]
  refine ⟨needC_pw cs js o, List.Pairwise.filter _ (insN_pw _ _), fun a ha b hb => ?_⟩
  have h1 := List.mem_range.mp (List.mem_filter.mp ha).1
  have h2 := mem_insN.mp (List.mem_filter.mp hb).1
  omega
theorem need_nd {cs : List Cv} {js : List Jb} (o : Option Nat) : (need cs js o).Nodup := (need_pw o).imp fun h => by omega
theorem need_beg {cs : List Cv} {js : List Jb} (hw : Wok cs js) (o : Option Nat) : begB cs js [] (need cs js o) = true := by
  rw [begB_iff]
  refine ⟨fun _ _ h => absurd h List.not_mem_nil, need_nd o, fun k hk => ?_⟩
  rw [List.nil_append]
  cases q : aboveJ cs js (need cs js o)[k] with
  | none => rfl
  | some a =>
    have h1 := need_up hw (List.getElem_mem hk) q
    have h2 := above_lt hw q
    simpa [abvOk] using lt_take (need_pw o) hk h1 h2
theorem mem_choO {cs : List Cv} {js : List Jb} {o : Option Nat} : o ∈ choO cs js ↔ (js = [] ∧ o = none) ∨ (js ≠ [] ∧ ∃ i, o = some i ∧ cs.length ≤ i ∧ i < cs.length + js.length) := by
  unfold choO
  split
  · rename_i h
    simp [h]
  · rename_i h
    simp only [h, false_and, false_or, ne_eq, not_false_eq_true, true_and, List.mem_map, mem_insN]
    constructor
    · rintro ⟨i, h, rfl⟩
      exact ⟨i, rfl, h⟩
    · rintro ⟨i, rfl, h⟩
      exact ⟨i, h, rfl⟩
theorem leftN_perm {cs : List Cv} {js : List Jb} {l m : List Nat} (h : l.Perm m) : leftN cs js l = leftN cs js m := by
  unfold leftN
  exact List.filter_congr fun i _ => by rw [decide_eq_decide, h.mem_iff]
theorem filter_one {l : List Nat} (nd : l.Nodup) {i : Nat} (hi : i ∈ l) : l.filter (fun j => decide (j = i)) = [i] := by
  induction l with
  | nil => cases hi
  | cons a l ih =>
    rw [List.nodup_cons] at nd
    rw [List.filter_cons]
    rcases List.mem_cons.mp hi with rfl | hi
    · rw [if_pos (by simp)]
      congr 1
      rw [List.filter_eq_nil_iff]
      intro j hj
      have : j ≠ i := fun z => nd.1 (by rw [← z]; exact hj)
      simpa using this
    · have : a ≠ i := fun z => nd.1 (by rw [z]; exact hi)
      rw [if_neg (by simpa using this)]
      exact ih nd.2 hi
theorem leftN_need {cs : List Cv} {js : List Jb} {o : Option Nat} (ho : o ∈ choO cs js) : (leftN cs js (need cs js o)).head? = o ∧ (leftN cs js (need cs js o)).length = min 1 js.length := by
  rcases mem_choO.mp ho with ⟨rfl, rfl⟩ | ⟨h, i, rfl, h1, h2⟩
  · simp [leftN, insN]
  · have hl : 1 ≤ js.length := by
      cases js with
      | nil => exact absurd rfl h
      | cons _ _ => simp
    have e : leftN cs js (need cs js (some i)) = [i] := by
      have nd : (insN cs.length js.length).Nodup := (insN_pw _ _).imp fun h => by omega
      rw [← filter_one nd (mem_insN.mpr ⟨h1, h2⟩)]
      unfold leftN
      refine List.filter_congr fun j hj => ?_
      rw [decide_eq_decide, mem_need]
      have hj' := mem_insN.mp hj
      constructor
      · intro z
        by_cases c : j = i
        · exact c
        · exfalso
          refine z (.inr (List.mem_filter.mpr ⟨hj, ?_⟩))
          simpa using c
      · rintro rfl z
        rcases z with z | z
        · have := List.mem_range.mp (List.mem_filter.mp z).1
          omega
        · have := (List.mem_filter.mp z).2
          simp at this
    rw [e]
    simp
    omega
theorem sort_perm {l m : List Nat} (h : l.Perm m) (hm : m.Pairwise (· < ·)) : sortI (zI l) = zI m := by
  refine (sortI_eq ?_ ((zI_pw hm).imp fun h => Int.le_of_lt h)).symm
  unfold zI
  exact (h.map _).symm
/-- an order of what is needed when o is left out -/
theorem sho_of {cs : List Cv} {js : List Jb} {o : Option Nat} {l : List Nat} (ho : o ∈ choO cs js) (hp : l.Perm (need cs js o)) (hb : begB cs js [] l = true) : shoB cs js l = true ∧ (leftN cs js l).head? = o := by
  obtain ⟨h1, h2⟩ := leftN_need ho
  rw [leftN_perm hp]
  refine ⟨?_, h1⟩
  unfold shoB
  rw [leftN_perm hp, hb, h1, h2, sort_perm hp (need_pw o)]
  simp
theorem need_sho {cs : List Cv} {js : List Jb} (hw : Wok cs js) {o : Option Nat} (ho : o ∈ choO cs js) : shoB cs js (need cs js o) = true ∧ (leftN cs js (need cs js o)).head? = o := sho_of ho (List.Perm.refl _) (need_beg hw o)
/-! ### plain: the least -/
theorem fold_least {cs : List Cv} {js : List Jb} : ∀ (l : List (Option Nat)) (b : Option Nat), ∃ c, l.foldl (stepQ cs js) (some b) = some c ∧ (c = b ∨ c ∈ l) ∧ minsO cs js c ≤ minsO cs js b ∧ ∀ o ∈ l, minsO cs js c ≤ minsO cs js o
  | [], b => ⟨b, rfl, .inl rfl, Int.le_refl _, fun _ h => by cases h⟩
  | o :: l, b => by
    rw [List.foldl_cons]
    have e : stepQ cs js (some b) o = if minsO cs js o < minsO cs js b then some o else some b := rfl
    rw [e]
    split
    · rename_i c
      obtain ⟨z, h1, h2, h3, h4⟩ := fold_least l o
      refine ⟨z, h1, ?_, by omega, fun a ha => ?_⟩
      · rcases h2 with h2 | h2
        · exact .inr (by rw [h2]; exact List.mem_cons_self)
        · exact .inr (List.mem_cons_of_mem _ h2)
      · rcases List.mem_cons.mp ha with rfl | ha
        · exact h3
        · exact h4 a ha
    · rename_i c
      obtain ⟨z, h1, h2, h3, h4⟩ := fold_least l b
      refine ⟨z, h1, ?_, h3, fun a ha => ?_⟩
      · rcases h2 with h2 | h2
        · exact .inl h2
        · exact .inr (List.mem_cons_of_mem _ h2)
      · rcases List.mem_cons.mp ha with rfl | ha
        · omega
        · exact h4 a ha
theorem quickO_least (cs : List Cv) (js : List Jb) : quickO cs js ∈ choO cs js ∧ ∀ o ∈ choO cs js, minsO cs js (quickO cs js) ≤ minsO cs js o := by
  have h := quickO_eq cs js
  cases q : choO cs js with
  | nil => exact absurd q (choO_ne cs js)
  | cons o l =>
    rw [q, List.foldl_cons] at h
    obtain ⟨c, h1, h2, h3, h4⟩ := fold_least (cs := cs) (js := js) l o
    have e : stepQ cs js none o = some o := rfl
    rw [e, h1] at h
    obtain rfl : c = quickO cs js := Option.some.inj h
    refine ⟨?_, fun a ha => ?_⟩
    · rcases h2 with h2 | h2
      · rw [h2]; exact List.mem_cons_self
      · exact List.mem_cons_of_mem _ h2
    · rcases List.mem_cons.mp ha with rfl | ha
      · exact h3
      · exact h4 a ha
theorem sum_perm {cs : List Cv} {js : List Jb} {l m : List Nat} (h : l.Perm m) : sumM cs js l = sumM cs js m := by
  unfold sumM
  induction h with
  | nil => rfl
  | cons x _ ih => rw [List.map_cons, List.map_cons, List.sum_cons, List.sum_cons, ih]
  | swap x y l => simp only [List.map_cons, List.sum_cons]; omega
  | trans _ _ h1 h2 => rw [h1, h2]
theorem minJ_pos {cs : List Cv} {js : List Jb} (hw : Wok cs js) (j : Nat) : 0 ≤ minJ cs js j ∧ minJ cs js j ≤ 1000000 := by
  unfold minJ
  cases q : (rowsOf cs js)[j]? with
  | none => simp
  | some r =>
    have hm := List.mem_of_getElem? q
    unfold rowsOf at hm
    rcases List.mem_append.mp hm with hm | hm
    · obtain ⟨c, hc, rfl⟩ := List.mem_map.mp hm
      obtain ⟨i, hi, rfl⟩ := List.mem_iff_getElem.mp hc
      have := hw.c i _ (List.getElem?_eq_getElem hi)
      simp
      omega
    · have := hw.j _ hm
      simp
      omega
theorem sumM_pos {cs : List Cv} {js : List Jb} (hw : Wok cs js) : ∀ l : List Nat, 0 ≤ sumM cs js l ∧ sumM cs js l ≤ 1000000 * l.length
  | [] => by simp [sumM]
  | a :: l => by
    have h1 := sumM_pos hw l
    have h2 := minJ_pos hw a
    simp only [sumM, List.map_cons, List.sum_cons, List.length_cons] at h1 ⊢
    omega
/-- the least, as the law takes it -/
theorem least_eq (cs : List Cv) (js : List Jb) : ((choO cs js).map (minsO cs js)).min? = some (minsO cs js (quickO cs js)) := by
  obtain ⟨h1, h2⟩ := quickO_least cs js
  rw [List.min?_eq_some_iff]
  refine ⟨List.mem_map_of_mem h1, fun z hz => ?_⟩
  obtain ⟨o, ho, rfl⟩ := List.mem_map.mp hz
  exact h2 o ho

/-! ### drawn short orders -/
def S__law_drawn : FS := fun ns k _ => ∃ (b : Box) (cs : List Cv) (js : List Jb), ns = [boxN b, .d (worD cs js)] ∧ Wok cs js ∧ ∀ b' o l, o ∈ choO cs js → l.Perm (need cs js o) → begB cs js [] l = true → k (.d (.lst (nD l))) [some (boxN b'), some (.d (worD cs js))]
theorem x_drawn {b : Box} {cs : List Cv} {js : List Jb} {k : N → Env → Prop} {x : XP} (hw : Wok cs js) (h : ∀ b' o l, o ∈ choO cs js → l.Perm (need cs js o) → begB cs js [] l = true → k (.d (.lst (nD l))) [some (boxN b'), some (.d (worD cs js))]) : S__law_drawn [boxN b, .d (worD cs js)] k x := ⟨b, cs, js, rfl, hw, h⟩
def ownN : Option N → Option N
  | some (.d _) => none
  | o => o
@[simp] theorem ownN_box (b : Box) : ownN (some (boxN b)) = some (boxN b) := rfl
@[simp] theorem takeAll_own {env : Env} (i : Nat) (l : List Val) (n : N) (h : ownN (env[i]?).join = some n) : takeAll env (.s i :: l) = (takeAll (env.set i none) l).map fun p => (n :: p.1, p.2) := by
  cases q : (env[i]?).join with
  | none => rw [q] at h; cases h
  | some m =>
    rw [q] at h
    cases m with
    | d x => cases h
    | lst m => cases h; exact takeAll_sl i l m q
    | tup m => cases h; exact takeAll_st' i l m q
    | dic ks m => cases h; exact takeAll_sk i l ks m q
    | obj c fs m => cases h; exact takeAll_so i l c fs m q
    | ext φ => cases h; exact takeAll_sx i l φ q
def kN (dn : List Nat) : List (Option Key) := none :: dn.map fun i : Nat => some (Sum.inl (i : Int))
theorem hasN_none (dn : List Nat) : hasN (kN dn) none = true := by simp [hasN, kN]
theorem hasN_int (dn : List Nat) (j : Nat) : hasN (kN dn) (some (.inl (j : Int))) = decide (j ∈ dn) := by
  unfold hasN kN
  rw [List.any_cons, List.any_map, Bool.eq_iff_iff]
  simp [List.any_eq_true]
  constructor
  · rintro ⟨x, hx, e⟩
    obtain rfl : x = j := by omega
    exact hx
  · exact fun hx => ⟨j, hx, rfl⟩
theorem putN_new {dn : List Nat} {j : Nat} (h : j ∉ dn) : putN (kN dn) (some (.inl (j : Int))) = kN (dn ++ [j]) := by
  unfold putN
  rw [hasN_int, if_neg (by simpa using h)]
  simp [kN]
theorem gIx_last (l : List Nat) (j : Nat) : gIx (.lst (nD (l ++ [j]))) (.int (-1)) = some (.d (iD j)) := by
  show (atI (nD (l ++ [j])) (-1)).map N.d = _
  have : ixN (nD (l ++ [j])).length (-1) = some l.length := by
    unfold ixN
    simp
    omega
  unfold atI
  rw [this]
  simp [nD]
theorem nat_of {r : Int} {n : Nat} (h0 : 0 ≤ r) (h1 : r < n) : ∃ i : Nat, r = i ∧ i < n := ⟨r.toNat, by omega, by omega⟩
theorem beg_snoc {cs : List Cv} {js : List Jb} : ∀ {l dn : List Nat} {j : Nat}, begB cs js dn l = true → j ∉ dn → j ∉ l → abvOk (dn ++ l) (aboveJ cs js j) = true → begB cs js dn (l ++ [j]) = true
  | [], dn, j, _, h1, _, h3 => by
    rw [List.append_nil] at h3
    simp [begB, h1, h3]
  | a :: l, dn, j, h, h1, h2, h3 => by
    rw [begB, Bool.and_eq_true, Bool.and_eq_true] at h
    rw [List.cons_append, begB, h.1, h.2.1, Bool.true_and, Bool.true_and]
    refine beg_snoc h.2.2 ?_ (fun z => h2 (List.mem_cons_of_mem _ z)) (by rw [List.append_assoc]; exact h3)
    intro z
    rcases List.mem_append.mp z with z | z
    · exact h1 z
    · exact h2 (by rw [List.mem_singleton.mp z]; exact List.mem_cons_self)
/-- a job of those that can come next -/
theorem next_ex {cs : List Cv} {js : List Jb} (hw : Wok cs js) {o : Option Nat} {dn : List Nat} (hs : ∀ j ∈ dn, j ∈ need cs js o) (hl : dn.length < (need cs js o).length) (nd : dn.Nodup) : ∃ j ∈ need cs js o, j ∉ dn ∧ abvOk dn (aboveJ cs js j) = true := by
  have ex : ∃ j, j ∈ need cs js o ∧ j ∉ dn := by
    refine Classical.byContradiction fun c => ?_
    have sub : ∀ j ∈ need cs js o, j ∈ dn := fun j hj => Classical.byContradiction fun z => c ⟨j, hj, z⟩
    have h1 := (need_nd o).length_le_of_subset sub
    omega
  have key : ∀ n j, j ≤ n → j ∈ need cs js o → j ∉ dn → ∃ j ∈ need cs js o, j ∉ dn ∧ abvOk dn (aboveJ cs js j) = true := by
    intro n
    induction n with
    | zero =>
      intro j hj h1 h2
      refine ⟨j, h1, h2, ?_⟩
      cases q : aboveJ cs js j with
      | none => rfl
      | some a => have := above_lt hw q; omega
    | succ n ih =>
      intro j hj h1 h2
      cases q : aboveJ cs js j with
      | none => exact ⟨j, h1, h2, by rw [q]; rfl⟩
      | some a =>
        by_cases c : a ∈ dn
        · exact ⟨j, h1, h2, by rw [q]; simpa [abvOk] using c⟩
        · exact ih a (by have := above_lt hw q; omega) (need_up hw h1 q) c
  obtain ⟨j, h1, h2⟩ := ex
  exact key j j (Nat.le_refl _) h1 h2
def nxtB (cs : List Cv) (js : List Jb) (dn : List Nat) (j : Nat) : Bool := decide (j ∉ dn) && abvOk dn (aboveJ cs js j)
def keyO : Option Nat → Option Key
  | none => none
  | some a => some (.inl (a : Int))
theorem keyN_oD (o : Option Nat) : keyN (oD o) = some (keyO o) := by cases o <;> rfl
theorem keyN_iD (j : Nat) : keyN (iD j) = some (some (.inl (j : Int))) := rfl
theorem hasN_oD (dn : List Nat) (o : Option Nat) : hasN (kN dn) (keyO o) = abvOk dn o := by
  cases o with
  | none => exact hasN_none dn
  | some a => exact hasN_int dn a
theorem wInN_go {P : Program} {w : World} {neg : Bool} {o1 o2 : WO} {env : Env} {k : N → Env → Prop} {x : XP} {dn : List Nat} {key : Option Key}
    (h1 : ∀ kk : Val → Env → Prop, (∀ v, ((v.get env).bind flat).bind keyN = some key → kk v env) → o1 env kk x) (h2 : ∀ kk : Val → Env → Prop, (∀ v, (v.get env).bind flat = some (.ext (nkO P w (kN dn))) → kk v env) → o2 env kk x)
    (h : k (.d (.bl (if neg then !hasN (kN dn) key else hasN (kN dn) key))) env) : wInN P w neg o1 o2 env k x := by
  show o1 env (fun a e1 => o2 e1 (fun b e2 => onS ((a.get e2).bind flat) fun d => onS (keyN d) fun key => ∃ ks, (b.get e2).bind flat = some (.ext (nkO P w ks)) ∧ k (.d (.bl (if neg then !hasN ks key else hasN ks key))) e2) x) x
  refine h1 _ fun v hv => h2 _ fun u hu => ?_
  cases q : (v.get env).bind flat with
  | none => rw [q] at hv; cases hv
  | some d =>
    rw [q] at hv
    have hv : keyN d = some key := hv
    rw [onS_some, hv, onS_some]
    exact ⟨_, hu, h⟩
theorem perm_full {l m : List Nat} (nd : l.Nodup) (ndm : m.Nodup) (sub : ∀ j ∈ l, j ∈ m) (e : l.length = m.length) : l.Perm m := by
  refine (List.perm_ext_iff_of_nodup nd ndm).mpr fun j => ⟨sub j, fun hj => Classical.byContradiction fun c => ?_⟩
  have : (j :: l).Nodup := List.nodup_cons.mpr ⟨c, nd⟩
  have h := this.length_le_of_subset (l₂ := m) fun i hi => by
    rcases List.mem_cons.mp hi with rfl | hi
    · exact hj
    · exact sub i hi
  simp at h
  omega
theorem putN_go {P : Program} {w : World} {i : Nat} {ix : WO} {v : WE} {env : Env} {E : ED} {x : XP} {dn : List Nat} {j : Nat} (hn : (kN dn).length < sizeLine)
    (hv : ∀ kk : N → Env → Prop, (∀ n, kk n env) → v env kk x) (hi : (env[i]?).join = some (.ext (nkO P w (kN dn)))) (hj : j ∉ dn)
    (ho : ∀ kk : Val → Env → Prop, (∀ v, ((v.get env).bind flat).bind keyN = some (some (.inl (j : Int))) → kk v env) → ix env kk x)
    (h : E.nx (env.set i (some (.ext (nkO P w (kN (dn ++ [j]))))))) : wsPutN P w i ix v env E x := by
  show v env (fun _ e => onS ((e[i]?).join) fun _ => ix e (fun val e2 => onS ((val.get e2).bind flat) fun d => onS (keyN d) fun key =>
    ∃ ks, (e2[i]?).join = some (.ext (nkO P w ks)) ∧ ks.length < sizeLine ∧ E.nx (e2.set i (some (.ext (nkO P w (putN ks key)))))) x) x
  refine hv _ fun n => ?_
  rw [hi]
  refine ho _ fun u hu => ?_
  cases q : (u.get env).bind flat with
  | none => rw [q] at hu; cases hu
  | some d =>
    rw [q] at hu
    have hu : keyN d = some _ := hu
    rw [onS_some, hu, onS_some]
    refine ⟨_, hi, hn, ?_⟩
    rw [putN_new hj]
    exact h
def N__law_drawn : List Str := ["box", "world", "lefts", "turn", "needed", "order", "placed", "ready", "job"]
def W__law_drawn (P : Program) (w : World) : WS := (wsCons (wsSet 2 (wFr (wCall 1 S__law_lefts (aCons (oS 1) aNil)))) (wsCons (wsAsg (gtTp 3 (gtsCons (gtNm 4) (gtsCons (gtNm 5) (gtsCons (gtNm 6) gtsNil)))) (wTup (aCons (oF (wCall 2 S__law_needed (aCons (oS 1) (aCons (oF (wOp2 (up2 gIx) (oS 2) (oF (wCall 2 S__law_take (aCons (oS 0) (aCons (oF (wCB (upL gLen) (aCons (oS 2) aNil))) aNil)))))) aNil)))) (aCons (oE (wLst aNil)) (aCons (oE (wDisN1 P w)) aNil))))) (wsCons (wsFor (iRg1 (aCons (oF (wCB (upL gLen) (aCons (oS 4) aNil))) aNil)) (gtNm 3) (wsCons (wsSet 7 (wLc (iSeq (wVar 4)) (gtNm 8) (wBorT (wAnd (wB (wInN P w true (oS 8) (oS 6))) (wB (wInN P w false (oE (wOp2 (up2 gIx) (oF (wCall 2 S__law_job (aCons (oS 1) (aCons (oS 8) aNil)))) (oE (wC (.int 0))))) (oS 6))))) (wFr (wVar 8)) [8])) (wsCons (wsEx (wApp 5 (wFr (wOp2 (up2 gIx) (oS 7) (oF (wCall 2 S__law_take (aCons (oS 0) (aCons (oF (wCB (upL gLen) (aCons (oS 7) aNil))) aNil)))))))) (wsPutN P w 6 (oE (wOp2 (up2 gIx) (oS 5) (oE (wOp1 (up1 gNeg) (oE (wC (.int 1))))))) (wC (.bl true)))))) (wsRet (wVar 5)))))
def B0__law_drawn (P : Program) (w : World) : WS := (wsCons (wsSet 7 (wLc (iSeq (wVar 4)) (gtNm 8) (wBorT (wAnd (wB (wInN P w true (oS 8) (oS 6))) (wB (wInN P w false (oE (wOp2 (up2 gIx) (oF (wCall 2 S__law_job (aCons (oS 1) (aCons (oS 8) aNil)))) (oE (wC (.int 0))))) (oS 6))))) (wFr (wVar 8)) [8])) (wsCons (wsEx (wApp 5 (wFr (wOp2 (up2 gIx) (oS 7) (oF (wCall 2 S__law_take (aCons (oS 0) (aCons (oF (wCB (upL gLen) (aCons (oS 7) aNil))) aNil)))))))) (wsPutN P w 6 (oE (wOp2 (up2 gIx) (oS 5) (oE (wOp1 (up1 gNeg) (oE (wC (.int 1))))))) (wC (.bl true)))))
theorem s__law_drawn (P : Program) (w : World) : ∀ ns k x, S__law_drawn ns k x → ns.length = 2 → W__law_drawn P w (startE N__law_drawn ns) (endsOf 2 k) (xOf 2 x) := by
  rintro _ k x ⟨b, cs, js, rfl, hw, h⟩ _
  have big := big_sizeLine
  have z3 : 3 ≤ sizeLine := by omega
  have z0 : 0 ≤ sizeLine := by omega
  have hcl := choO_len hw
  simp -implicitDefEqProofs [W__law_drawn, N__law_drawn, endsOf, -wipeN_nil, -wipeN_cons]
  refine x_lefts hw ?_
  simp -implicitDefEqProofs [-wipeN_nil, -wipeN_cons]
  refine x_take (by omega) (by omega) fun r b' h0 h1 => ?_
  obtain ⟨i, rfl, hi⟩ := nat_of h0 h1
  obtain ⟨o, ho⟩ : ∃ o, (choO cs js)[i]? = some o := ⟨_, List.getElem?_eq_getElem hi⟩
  simp -implicitDefEqProofs [ho, -wipeN_nil, -wipeN_cons]
  refine x_needed hw ?_
  have hnl := need_len hw o
  have hnz : (-4611686018427387904 : Int) ≤ ((need cs js o).length : Int) ∧ ((need cs js o).length : Int) < 4611686018427387904 := by omega
  simp -implicitDefEqProofs [hnz, z3, rangeD_zero, wDisN1, -wipeN_nil, -wipeN_cons]
  refine forL_rec iD (fun tn r e => (∃ b u v z dn, e = [some (boxN b), some (.d (worD cs js)), some (.d (.lst ((choO cs js).map oD))), u, some (.d (.lst (nD (need cs js o)))), some (.lst ((nD dn).map N.d)), some (.ext (nkO P w (kN dn))), v, z] ∧ dn.Nodup ∧ (∀ j ∈ dn, j ∈ need cs js o) ∧ begB cs js [] dn = true ∧ dn.length = tn.length) ∧ tn ++ r = List.range (need cs js o).length) ?_ ?_ (List.range (need cs js o).length) [] _ ⟨⟨_, _, _, _, [], rfl, List.nodup_nil, by simp, rfl, rfl⟩, rfl⟩
  · rintro tn t r _ kk ⟨⟨b, u, v, z, dn, rfl, nd, sub, hb, hl⟩, hd⟩ hk
    have hdl : dn.length < (need cs js o).length := by
      have := congrArg List.length hd
      simp at this
      omega
    simp -implicitDefEqProofs [-wipeN_nil, -wipeN_cons, -List.map_map]
    refine lcL_filX (E0 := [some (boxN b), some (.d (worD cs js)), some (.d (.lst ((choO cs js).map oD))), some (.d (iD t)), some (.d (.lst (nD (need cs js o)))), some (.lst ((nD dn).map N.d)), some (.ext (nkO P w (kN dn))), v, none]) iD (fun j => nxtB cs js dn j) (fun j => .d (iD j)) (fun j hj kk2 hk2 => ?_) (by omega) rfl fun e he => ?_
    · obtain ⟨r, hr, ha, _⟩ := row_get (need_lt o j hj)
      simp -implicitDefEqProofs [frzE]
      refine wInN_go (dn := dn) (key := some (.inl (j : Int))) (fun k h => h _ rfl) (fun k h => h _ rfl) ?_
      rw [hasN_int]
      by_cases c : j ∈ dn
      · simp -implicitDefEqProofs [c, nxtB] at hk2 ⊢
        exact hk2 _ rfl
      · simp -implicitDefEqProofs [c]
        refine wInN_go (dn := dn) (key := keyO r.1) (fun k h => ?_) (fun k h => h _ rfl) ?_
        · simp
          refine x_job (need_lt o j hj) fun r' hr' => ?_
          rw [hr] at hr'
          cases hr'
          simp
          exact h _ (keyN_oD _)
        · rw [hasN_oD]
          by_cases c2 : abvOk dn r.1 = true
          · simp -implicitDefEqProofs [c2, c, nxtB, ha] at hk2 ⊢
            exact hk2 _ rfl
          · simp -implicitDefEqProofs [c2, c, nxtB, ha] at hk2 ⊢
            exact hk2 _ rfl
    · obtain ⟨y8, rfl⟩ := wipe1 he
      simp only [wipeN_nil, wipeN_cons, List.set_cons_succ, List.set_cons_zero]
      obtain ⟨j0, g1, g2, g3⟩ := next_ex hw sub hdl nd
      have hfl := List.length_filter_le (fun j => nxtB cs js dn j) (need cs js o)
      have hfp : 1 ≤ ((need cs js o).filter fun j => nxtB cs js dn j).length := List.length_pos_of_mem (List.mem_filter.mpr ⟨g1, by simp -implicitDefEqProofs [nxtB, g2, g3]⟩)
      have hv1 : N.views (((need cs js o).filter fun j => nxtB cs js dn j).map fun j => N.d (iD j)) = nD ((need cs js o).filter fun j => nxtB cs js dn j) := views_mapF iD _
      have hv2 : allD (((need cs js o).filter fun j => nxtB cs js dn j).map fun j => N.d (iD j)) = some (nD ((need cs js o).filter fun j => nxtB cs js dn j)) := views_mapD iD _
      simp -implicitDefEqProofs [hv1, hv2]
      refine x_take (by omega) (by omega) fun r b' h0 h1 => ?_
      obtain ⟨i, rfl, hi⟩ := nat_of h0 h1
      obtain ⟨j, hj⟩ : ∃ j, ((need cs js o).filter fun j => nxtB cs js dn j)[i]? = some j := ⟨_, List.getElem?_eq_getElem hi⟩
      have hjm := List.mem_filter.mp (List.mem_of_getElem? hj)
      have hjx : (nD ((need cs js o).filter fun j => nxtB cs js dn j))[i]? = some (iD j) := by rw [nD, List.getElem?_map, hj]; rfl
      have hjn := hjm.2
      simp -implicitDefEqProofs [nxtB] at hjn
      have hdz : dn.length < sizeLine := by omega
      simp -implicitDefEqProofs [hv2, hjx, hdz]
      have hap : (nD dn).map N.d ++ [N.d (iD j)] = (nD (dn ++ [j])).map N.d := by simp -implicitDefEqProofs [nD]
      have hng : gNeg (.int 1) = some (.d (.int (-1))) := rfl
      refine putN_go (dn := dn) (j := j) (by simp -implicitDefEqProofs [kN]; omega) (fun kk h => h _) rfl hjn.1 (fun kk hkk => ?_) ?_
      · simp -implicitDefEqProofs [hap, hng, gIx_last]
        rw [← hap]
        exact hkk (.t (.d (iD j))) rfl
      · refine hk _ ⟨⟨b', _, _, _, dn ++ [j], by simp -implicitDefEqProofs [hap]; exact ⟨rfl, rfl, rfl⟩, ?_, ?_, ?_, by simp -implicitDefEqProofs [hl]⟩, by rw [← hd]; simp⟩
        · rw [List.nodup_append]
          exact ⟨nd, by simp, fun a ha b hb z => hjn.1 (by rw [List.mem_singleton.mp hb] at z; rw [← z]; exact ha)⟩
        · intro a ha
          rcases List.mem_append.mp ha with ha | ha
          · exact sub a ha
          · rw [List.mem_singleton.mp ha]
            exact hjm.1
        · exact beg_snoc hb (by simp) hjn.1 hjn.2
  · rintro tn _ ⟨⟨b, u, v, z, dn, rfl, nd, sub, hb, hl⟩, hd⟩
    rw [List.append_nil] at hd
    have hdl : dn.length = (need cs js o).length := by
      have := congrArg List.length hd
      simp at this
      omega
    simp
    refine h _ o dn (List.mem_of_getElem? ho) ?_ hb
    exact (perm_full nd (need_nd o) sub hdl)

/-! ### drawn searches -/
def S__law_search : FS := fun ns k _ => ∃ (b : Box) (g : Bool), ns = [boxN b, .d (.bl g)] ∧ ∀ b' cs js, Wok cs js → k (.d (worD cs js)) [some (boxN b'), some (.d (.bl g))]
theorem x_search {b : Box} {g : Bool} {k : N → Env → Prop} {x : XP} (h : ∀ b' cs js, Wok cs js → k (.d (worD cs js)) [some (boxN b'), some (.d (.bl g))]) : S__law_search [boxN b, .d (.bl g)] k x := ⟨b, g, rfl, h⟩
theorem ix_most {r : Int} (h0 : 0 ≤ r) (h1 : r < 4) : ∃ m : Int, gIx (.lst [.int 3, .int 1, .int 9, .int 60]) (.int r) = some (.d (.int m)) ∧ 1 ≤ m ∧ m ≤ 60 := by
  have : r = 0 ∨ r = 1 ∨ r = 2 ∨ r = 3 := by omega
  rcases this with rfl | rfl | rfl | rfl <;> exact ⟨_, rfl, by omega, by omega⟩
theorem ix_size {r : Int} (h0 : 0 ≤ r) (h1 : r < 8) : ∃ a c : Nat, gIx (.lst [.lst [.int 3, .int 3], .lst [.int 2, .int 4], .lst [.int 0, .int 2], .lst [.int 4, .int 3], .lst [.int 1, .int 1], .lst [.int 3, .int 4], .lst [.int 2, .int 0], .lst [.int 4, .int 2]]) (.int r) = some (.d (.lst [.int (a : Int), .int (c : Int)])) ∧ a ≤ 20 ∧ c ≤ 20 := by
  have : r = 0 ∨ r = 1 ∨ r = 2 ∨ r = 3 ∨ r = 4 ∨ r = 5 ∨ r = 6 ∨ r = 7 := by omega
  rcases this with rfl | rfl | rfl | rfl | rfl | rfl | rfl | rfl
  · exact ⟨3, 3, rfl, by omega, by omega⟩
  · exact ⟨2, 4, rfl, by omega, by omega⟩
  · exact ⟨0, 2, rfl, by omega, by omega⟩
  · exact ⟨4, 3, rfl, by omega, by omega⟩
  · exact ⟨1, 1, rfl, by omega, by omega⟩
  · exact ⟨3, 4, rfl, by omega, by omega⟩
  · exact ⟨2, 0, rfl, by omega, by omega⟩
  · exact ⟨4, 2, rfl, by omega, by omega⟩
theorem ix_near {r a b c d : Int} (h0 : 0 ≤ r) (h1 : r < 4) (p : Int → Prop) (ha : p a) (hb : p b) (hc : p c) (hd : p d) : ∃ m : Int, gIx (.lst [.int a, .int b, .int c, .int d]) (.int r) = some (.d (.int m)) ∧ p m := by
  have : r = 0 ∨ r = 1 ∨ r = 2 ∨ r = 3 := by omega
  rcases this with rfl | rfl | rfl | rfl
  · exact ⟨a, rfl, ha⟩
  · exact ⟨b, rfl, hb⟩
  · exact ⟨c, rfl, hc⟩
  · exact ⟨d, rfl, hd⟩
theorem ix_three {r a b c : Int} (h0 : 0 ≤ r) (h1 : r < 3) (p : Int → Prop) (ha : p a) (hb : p b) (hc : p c) : ∃ m : Int, gIx (.lst [.int a, .int b, .int c]) (.int r) = some (.d (.int m)) ∧ p m := by
  have : r = 0 ∨ r = 1 ∨ r = 2 := by omega
  rcases this with rfl | rfl | rfl
  · exact ⟨a, rfl, ha⟩
  · exact ⟨b, rfl, hb⟩
  · exact ⟨c, rfl, hc⟩
theorem Cok.snoc {cs : List Cv} {c : Cv} (h : Cok cs) (hc : upTo cs.length c.1 ∧ 1 ≤ c.2 ∧ c.2 ≤ 1000000) (hl : cs.length < 20) : Cok (cs ++ [c]) := by
  refine ⟨fun i x hx => ?_, by simp; omega⟩
  by_cases e : i < cs.length
  · rw [List.getElem?_append_left e] at hx
    exact h.c i x hx
  · rw [List.getElem?_append_right (by omega)] at hx
    have : i - cs.length = 0 := by
      have := (List.getElem?_eq_some_iff.mp hx).1
      simp at this
      omega
    rw [this] at hx
    simp at hx
    subst hx
    have : i = cs.length := by omega
    subst this
    exact hc
def N__law_search : List Str := ["box", "great", "most", "k", "shape", "spread", "many", "count", "covers", "inspections", "near", "cover"]
def W__law_search : WS := (wsCons (wsPar3 4 2 5 (aCons (oF (wCall 2 S__law_take (aCons (oS 0) (aCons (oE (wC (.int 4))) aNil)))) (aCons (oF (wOp2 (up2 gIx) (oE (wLst (aCons (oF (wC (.int 3))) (aCons (oF (wC (.int 1))) (aCons (oF (wC (.int 9))) (aCons (oF (wC (.int 60))) aNil)))))) (oF (wCall 2 S__law_take (aCons (oS 0) (aCons (oE (wC (.int 4))) aNil)))))) (aCons (oF (wCall 2 S__law_take (aCons (oS 0) (aCons (oE (wC (.int 8))) aNil)))) aNil)))) (wsCons (wsAsg (gtTp 2 (gtsCons (gtNm 6) (gtsCons (gtNm 7) gtsNil))) (wIf (wBorT (wTr (oS 1))) (wLst (aCons (oF (wC (.int 20))) (aCons (oF (wC (.int 20))) aNil))) (wOp2 (up2 gIx) (oE (wLst (aCons (oF (wLst (aCons (oF (wC (.int 3))) (aCons (oF (wC (.int 3))) aNil)))) (aCons (oF (wLst (aCons (oF (wC (.int 2))) (aCons (oF (wC (.int 4))) aNil)))) (aCons (oF (wLst (aCons (oF (wC (.int 0))) (aCons (oF (wC (.int 2))) aNil)))) (aCons (oF (wLst (aCons (oF (wC (.int 4))) (aCons (oF (wC (.int 3))) aNil)))) (aCons (oF (wLst (aCons (oF (wC (.int 1))) (aCons (oF (wC (.int 1))) aNil)))) (aCons (oF (wLst (aCons (oF (wC (.int 3))) (aCons (oF (wC (.int 4))) aNil)))) (aCons (oF (wLst (aCons (oF (wC (.int 2))) (aCons (oF (wC (.int 0))) aNil)))) (aCons (oF (wLst (aCons (oF (wC (.int 4))) (aCons (oF (wC (.int 2))) aNil)))) aNil)))))))))) (oS 5)))) (wsCons (wsSet 2 (wFr (wIf (wBorT (wAnd (wTr (oS 1)) (wB (wOp2 (up2 gGt) (oS 2) (oE (wC (.int 3))))))) (wC (.int 1000000)) (wVar 2)))) (wsCons (wsPar 8 9 (aCons (oE (wLst aNil)) (aCons (oE (wLst aNil)) aNil))) (wsCons (wsFor (iRg1 (aCons (oF (wVar 6)) aNil)) (gtNm 3) (wsCons (wsSet 10 (wFr (wOp2 (up2 gIx) (oE (wLst (aCons (oF (wOp2 (up2 gSub) (oS 3) (oE (wC (.int 1))))) (aCons (oF (wOp2 (up2 gSub) (oF (wCall 2 S__law_take (aCons (oS 0) (aCons (oF (wOp2 (up2 gAdd) (oS 3) (oE (wC (.int 1))))) aNil)))) (oE (wC (.int 1))))) (aCons (oF (wC (.int 0))) (aCons (oF (wOp2 (up2 gSub) (oE (wOp2 (up2 gSub) (oS 3) (oE (wC (.int 1))))) (oF (wCall 2 S__law_take (aCons (oS 0) (aCons (oE (wC (.int 3))) aNil)))))) aNil)))))) (oS 4)))) (wsEx (wApp 8 (wFr (wTup (aCons (oF (wIf (wBorT (wOr (wB (wOp2 (up2 gLt) (oS 10) (oE (wC (.int 0))))) (wB (wOp2 (up2 gEq) (oS 3) (oE (wC (.int 0))))))) (wC .non) (wVar 10))) (aCons (oF (wOp2 (up2 gAdd) (oE (wC (.int 1))) (oF (wCall 2 S__law_take (aCons (oS 0) (aCons (oS 2) aNil)))))) aNil)))))))) (wsCons (wsFor (iRg1 (aCons (oF (wVar 7)) aNil)) (gtNm 3) (wsCons (wsSet 11 (wFr (wOp2 (up2 gSub) (oE (wOp2 (up2 gIx) (oE (wLst (aCons (oF (wCall 2 S__law_take (aCons (oS 0) (aCons (oF (wOp2 (up2 gAdd) (oS 6) (oE (wC (.int 1))))) aNil)))) (aCons (oF (wVar 6)) (aCons (oF (wCall 2 S__law_take (aCons (oS 0) (aCons (oF (wOp2 (up2 gAdd) (oS 6) (oE (wC (.int 1))))) aNil)))) aNil))))) (oF (wCall 2 S__law_take (aCons (oS 0) (aCons (oE (wC (.int 3))) aNil)))))) (oE (wC (.int 1)))))) (wsEx (wApp 9 (wFr (wTup (aCons (oF (wIf (wBorT (wB (wOp2 (up2 gLt) (oS 11) (oE (wC (.int 0)))))) (wC .non) (wVar 11))) (aCons (oF (wOp2 (up2 gAdd) (oE (wC (.int 1))) (oF (wCall 2 S__law_take (aCons (oS 0) (aCons (oS 2) aNil)))))) (aCons (oF (wOp2 (up2 gAdd) (oE (wC (.int 1))) (oF (wCall 2 S__law_take (aCons (oS 0) (aCons (oS 2) aNil)))))) aNil))))))))) (wsRet (wFr (wLst (aCons (oF (wVar 8)) (aCons (oF (wVar 9)) aNil)))))))))))
def B0__law_search : WS := (wsCons (wsSet 10 (wFr (wOp2 (up2 gIx) (oE (wLst (aCons (oF (wOp2 (up2 gSub) (oS 3) (oE (wC (.int 1))))) (aCons (oF (wOp2 (up2 gSub) (oF (wCall 2 S__law_take (aCons (oS 0) (aCons (oF (wOp2 (up2 gAdd) (oS 3) (oE (wC (.int 1))))) aNil)))) (oE (wC (.int 1))))) (aCons (oF (wC (.int 0))) (aCons (oF (wOp2 (up2 gSub) (oE (wOp2 (up2 gSub) (oS 3) (oE (wC (.int 1))))) (oF (wCall 2 S__law_take (aCons (oS 0) (aCons (oE (wC (.int 3))) aNil)))))) aNil)))))) (oS 4)))) (wsEx (wApp 8 (wFr (wTup (aCons (oF (wIf (wBorT (wOr (wB (wOp2 (up2 gLt) (oS 10) (oE (wC (.int 0))))) (wB (wOp2 (up2 gEq) (oS 3) (oE (wC (.int 0))))))) (wC .non) (wVar 10))) (aCons (oF (wOp2 (up2 gAdd) (oE (wC (.int 1))) (oF (wCall 2 S__law_take (aCons (oS 0) (aCons (oS 2) aNil)))))) aNil)))))))
def B1__law_search : WS := (wsCons (wsSet 11 (wFr (wOp2 (up2 gSub) (oE (wOp2 (up2 gIx) (oE (wLst (aCons (oF (wCall 2 S__law_take (aCons (oS 0) (aCons (oF (wOp2 (up2 gAdd) (oS 6) (oE (wC (.int 1))))) aNil)))) (aCons (oF (wVar 6)) (aCons (oF (wCall 2 S__law_take (aCons (oS 0) (aCons (oF (wOp2 (up2 gAdd) (oS 6) (oE (wC (.int 1))))) aNil)))) aNil))))) (oF (wCall 2 S__law_take (aCons (oS 0) (aCons (oE (wC (.int 3))) aNil)))))) (oE (wC (.int 1)))))) (wsEx (wApp 9 (wFr (wTup (aCons (oF (wIf (wBorT (wB (wOp2 (up2 gLt) (oS 11) (oE (wC (.int 0)))))) (wC .non) (wVar 11))) (aCons (oF (wOp2 (up2 gAdd) (oE (wC (.int 1))) (oF (wCall 2 S__law_take (aCons (oS 0) (aCons (oS 2) aNil)))))) (aCons (oF (wOp2 (up2 gAdd) (oE (wC (.int 1))) (oF (wCall 2 S__law_take (aCons (oS 0) (aCons (oS 2) aNil)))))) aNil))))))))
theorem l0_search {x : XP} {E : ED} {b : Box} {g : Bool} {most shape : Int} {a c : Nat} {u3 u5 u9 u10 u11 : Option N} (hm0 : 1 ≤ most) (hm1 : most ≤ 1000000) (hs0 : 0 ≤ shape) (hs1 : shape < 4) (ha : a ≤ 20)
    (h : ∀ b' cs u3 u10, Cok cs → cs.length = a → E.nx [some (boxN b'), some (.d (.bl g)), some (.d (.int most)), u3, some (.d (.int shape)), u5, some (.d (.int (a : Int))), some (.d (.int (c : Int))), some (.lst ((cs.map cD).map N.d)), u9, u10, u11]) :
    forL (gtNm 3) B0__law_search x (nD (List.range a)) [some (boxN b), some (.d (.bl g)), some (.d (.int most)), u3, some (.d (.int shape)), u5, some (.d (.int (a : Int))), some (.d (.int (c : Int))), some (.lst []), u9, u10, u11] E := by
  have big := big_sizeLine
  have z2 : 2 ≤ sizeLine := by omega
  have z4 : 4 ≤ sizeLine := by omega
  refine forL_rec iD (fun tn r e => (∃ b' cs u3 u10, e = [some (boxN b'), some (.d (.bl g)), some (.d (.int most)), u3, some (.d (.int shape)), u5, some (.d (.int (a : Int))), some (.d (.int (c : Int))), some (.lst ((cs.map cD).map N.d)), u9, u10, u11] ∧ Cok cs ∧ cs.length = tn.length) ∧ tn ++ r = List.range a) ?_ ?_ (List.range a) [] _ ⟨⟨b, [], u3, u10, rfl, ⟨by simp, by simp⟩, rfl⟩, rfl⟩
  · rintro tn t r _ kk ⟨⟨b', cs, v3, v10, rfl, hc, hl⟩, hd⟩ hk
    have htl : t = tn.length := by
      have h1 : (List.range a)[tn.length]? = some t := by rw [← hd]; simp
      have := List.getElem?_eq_some_iff.mp h1
      obtain ⟨_, h2⟩ := this
      simpa using h2.symm
    have hta : t < a := by
      have : t ∈ List.range a := by rw [← hd]; simp
      simpa using this
    have hz : cs.length < sizeLine := by omega
    simp -implicitDefEqProofs [B0__law_search, gSub, gAdd, iD, z4, z2]
    refine x_take (by omega) (by omega) fun r1 b1 h10 h11 => ?_
    simp -implicitDefEqProofs [gSub, gAdd, iD, z4, z2]
    refine x_take (by omega) (by omega) fun r2 b2 h20 h21 => ?_
    obtain ⟨nr, hn, hp⟩ := ix_near (r := shape) (a := (t : Int) - 1) (b := r1 - 1) (c := 0) (d := (t : Int) - 1 - r2) hs0 hs1 (fun m => m < t ∨ t = 0) (by omega) (by omega) (by omega) (by omega)
    simp -implicitDefEqProofs [gSub, gAdd, iD, z4, z2, hn]
    obtain ⟨c1, hc1, hc2⟩ : ∃ o : Option Nat, (if nr < 0 ∨ t = 0 then D.non else D.int nr) = oD o ∧ upTo cs.length o := by
      by_cases q : nr < 0 ∨ t = 0
      · exact ⟨none, if_pos q, trivial⟩
      · refine ⟨some nr.toNat, ?_, ?_⟩
        · rw [if_neg q]
          show D.int nr = D.int (nr.toNat : Int)
          congr 1
          omega
        · show nr.toNat < cs.length
          omega
    have fin : ∀ r3 b3, 0 ≤ r3 → r3 < most → kk [some (boxN b3), some (.d (.bl g)), some (.d (.int most)), some (.d (iD t)), some (.d (.int shape)), u5, some (.d (.int (a : Int))), some (.d (.int (c : Int))), some (.lst ((cs.map cD).map N.d ++ [.d (cD (c1, 1 + r3))])), u9, some (.d (.int nr)), u11] := by
      intro r3 b3 h30 h31
      refine hk _ ⟨⟨b3, cs ++ [(c1, 1 + r3)], _, _, by simp; exact ⟨rfl, rfl⟩, hc.snoc ⟨hc2, by simp; omega, by simp; omega⟩ (by omega), by simp [hl]⟩, by rw [← hd]; simp⟩
    by_cases q1 : nr < 0
    · rw [if_pos (.inl q1)] at hc1
      simp -implicitDefEqProofs [gLt, q1, hz, z2]
      refine x_take hm0 hm1 fun r3 b3 h30 h31 => ?_
      simp -implicitDefEqProofs [gAdd, hz, z2, hc1]
      have := fin r3 b3 h30 h31
      simpa [cD, iD] using this
    · have g1 : gLt (.int nr) (.int 0) = some (.d (.bl false)) := by simp [gLt, q1]
      by_cases q2 : t = 0
      · rw [if_pos (.inr q2)] at hc1
        have g2 : gEq (.int (t : Int)) (.int 0) = some (.d (.bl true)) := by simp [gEq, eqD, q2]
        simp -implicitDefEqProofs [g1, g2, hz, z2]
        refine x_take hm0 hm1 fun r3 b3 h30 h31 => ?_
        simp -implicitDefEqProofs [gAdd, hz, z2, hc1]
        have := fin r3 b3 h30 h31
        simpa [cD, iD] using this
      · rw [if_neg (by omega)] at hc1
        have g2 : gEq (.int (t : Int)) (.int 0) = some (.d (.bl false)) := by simp [gEq, eqD, q2]
        simp -implicitDefEqProofs [g1, g2, hz, z2]
        refine x_take hm0 hm1 fun r3 b3 h30 h31 => ?_
        simp -implicitDefEqProofs [gAdd, hz, z2]
        have := fin r3 b3 h30 h31
        simp only [cD, ← hc1] at this
        simpa [iD] using this
  · rintro tn _ ⟨⟨b', cs, v3, v10, rfl, hc, hl⟩, hd⟩
    rw [List.append_nil] at hd
    exact h _ _ _ _ hc (by rw [hl, hd]; simp)
theorem l1_search {x : XP} {E : ED} {b : Box} {g : Bool} {most shape : Int} {a c : Nat} {cs : List Cv} {u3 u5 u10 u11 : Option N} (hm0 : 1 ≤ most) (hm1 : most ≤ 1000000) (ha : a ≤ 20) (hc20 : c ≤ 20) (hcs : Cok cs) (hcl : cs.length = a)
    (h : ∀ b' js u3 u11, Wok cs js → E.nx [some (boxN b'), some (.d (.bl g)), some (.d (.int most)), u3, some (.d (.int shape)), u5, some (.d (.int (a : Int))), some (.d (.int (c : Int))), some (.lst ((cs.map cD).map N.d)), some (.lst ((js.map jD).map N.d)), u10, u11]) :
    forL (gtNm 3) B1__law_search x (nD (List.range c)) [some (boxN b), some (.d (.bl g)), some (.d (.int most)), u3, some (.d (.int shape)), u5, some (.d (.int (a : Int))), some (.d (.int (c : Int))), some (.lst ((cs.map cD).map N.d)), some (.lst []), u10, u11] E := by
  have big := big_sizeLine
  have z3 : 3 ≤ sizeLine := by omega
  refine forL_rec iD (fun tn r e => (∃ b' js u3 u11, e = [some (boxN b'), some (.d (.bl g)), some (.d (.int most)), u3, some (.d (.int shape)), u5, some (.d (.int (a : Int))), some (.d (.int (c : Int))), some (.lst ((cs.map cD).map N.d)), some (.lst ((js.map jD).map N.d)), u10, u11] ∧ Wok cs js ∧ js.length = tn.length) ∧ tn ++ r = List.range c) ?_ ?_ (List.range c) [] _ ⟨⟨b, [], u3, u11, rfl, ⟨hcs.c, by simp, hcs.cl, by simp⟩, rfl⟩, rfl⟩
  · rintro tn t r _ kk ⟨⟨b', js, v3, v11, rfl, hw, hl⟩, hd⟩ hk
    have htc : tn.length < c := by
      have := congrArg List.length hd
      simp at this
      omega
    have hz : js.length < sizeLine := by omega
    simp -implicitDefEqProofs [B1__law_search, gSub, gAdd, iD, z3]
    refine x_take (by omega) (by omega) fun r1 b1 h10 h11 => ?_
    simp -implicitDefEqProofs [gSub, gAdd, iD, z3]
    refine x_take (by omega) (by omega) fun r2 b2 h20 h21 => ?_
    simp -implicitDefEqProofs [gSub, gAdd, iD, z3]
    refine x_take (by omega) (by omega) fun r3 b3 h30 h31 => ?_
    obtain ⟨nr, hn, hp⟩ := ix_three (r := r3) (a := r1) (b := (a : Int)) (c := r2) h30 h31 (fun m => 0 ≤ m ∧ m ≤ a) (by omega) (by omega) (by omega)
    simp -implicitDefEqProofs [gSub, gAdd, iD, z3, hn]
    have fin : ∀ c1 r4 r5 b5 v11, upTo cs.length c1 → 0 ≤ r4 → r4 < most → 0 ≤ r5 → r5 < most → kk [some (boxN b5), some (.d (.bl g)), some (.d (.int most)), some (.d (iD t)), some (.d (.int shape)), u5, some (.d (.int (a : Int))), some (.d (.int (c : Int))), some (.lst ((cs.map cD).map N.d)), some (.lst ((js.map jD).map N.d ++ [.d (jD (c1, 1 + r4, 1 + r5))])), u10, v11] := by
      intro c1 r4 r5 b5 v11 q q0 q1 q2 q3
      refine hk _ ⟨⟨b5, js ++ [(c1, 1 + r4, 1 + r5)], _, _, by simp; exact ⟨rfl, rfl⟩, ⟨hw.c, fun x hx => ?_, hw.cl, by simp; omega⟩, by simp [hl]⟩, by rw [← hd]; simp⟩
      rcases List.mem_append.mp hx with hx | hx
      · exact hw.j x hx
      · rw [List.mem_singleton.mp hx]
        exact ⟨q, ⟨by simp; omega, by simp; omega⟩, by simp; omega, by simp; omega⟩
    by_cases q1 : nr - 1 < 0
    · have g1 : gLt (.int (nr - 1)) (.int 0) = some (.d (.bl true)) := by simp [gLt]; omega
      simp -implicitDefEqProofs [g1, hz, z3]
      refine x_take hm0 hm1 fun r4 b4 h40 h41 => ?_
      simp -implicitDefEqProofs [gAdd, hz, z3]
      refine x_take hm0 hm1 fun r5 b5 h50 h51 => ?_
      simp -implicitDefEqProofs [gAdd, hz, z3]
      have := fin none r4 r5 b5 (some (.d (.int (nr - 1)))) trivial h40 h41 h50 h51
      simpa [jD, iD] using this
    · have g1 : gLt (.int (nr - 1)) (.int 0) = some (.d (.bl false)) := by simp [gLt]; omega
      simp -implicitDefEqProofs [g1, hz, z3]
      refine x_take hm0 hm1 fun r4 b4 h40 h41 => ?_
      simp -implicitDefEqProofs [gAdd, hz, z3]
      refine x_take hm0 hm1 fun r5 b5 h50 h51 => ?_
      simp -implicitDefEqProofs [gAdd, hz, z3]
      obtain ⟨m, hm⟩ : ∃ m : Nat, nr - 1 = m := ⟨(nr - 1).toNat, by omega⟩
      have := fin (some m) r4 r5 b5 (some (.d (.int (nr - 1)))) (show m < cs.length by omega) h40 h41 h50 h51
      rw [hm] at this ⊢
      simpa [jD, iD] using this
  · rintro tn _ ⟨⟨b', js, v3, v11, rfl, hw, hl⟩, hd⟩
    exact h _ _ _ _ hw
theorem s__law_search : ∀ ns k x, S__law_search ns k x → ns.length = 2 → W__law_search (startE N__law_search ns) (endsOf 2 k) (xOf 2 x) := by
  rintro _ k x ⟨b, g, rfl, h⟩ _
  have big := big_sizeLine
  have z0 : 0 ≤ sizeLine := by omega
  have z2 : 2 ≤ sizeLine := by omega
  have z3 : 3 ≤ sizeLine := by omega
  have z4 : 4 ≤ sizeLine := by omega
  have z8 : 8 ≤ sizeLine := by omega
  simp -implicitDefEqProofs [W__law_search, N__law_search, endsOf]
  refine x_take (by omega) (by omega) fun shape b1 hs0 hs1 => ?_
  simp -implicitDefEqProofs [z4]
  refine x_take (by omega) (by omega) fun r2 b2 h20 h21 => ?_
  obtain ⟨most, hm, hm0, hm1⟩ := ix_most h20 h21
  simp -implicitDefEqProofs [hm]
  refine x_take (by omega) (by omega) fun spread b3 h30 h31 => ?_
  obtain ⟨a0, c0, hac, ha0, hc0⟩ := ix_size h30 h31
  have ra : ∀ a : Nat, a ≤ 20 → ((-4611686018427387904 : Int) ≤ (a : Int) ∧ (a : Int) < 4611686018427387904) := fun a h => by omega
  cases g
  · simp -implicitDefEqProofs [hac, z2, z8, ra a0 ha0, rangeD_zero]
    refine l0_search (by omega) (by omega) hs0 hs1 ha0 fun b' cs u3 u10 hc hl => ?_
    simp -implicitDefEqProofs [ra c0 hc0, rangeD_zero, -List.map_map]
    refine l1_search (by omega) (by omega) ha0 hc0 hc hl fun b' js u3 u11 hw => ?_
    have := h b' cs js hw
    simp -implicitDefEqProofs [z2]
    exact this
  · by_cases q : most > 3
    · simp -implicitDefEqProofs [z2, gGt, q, rangeD_zero]
      refine l0_search (a := 20) (c := 20) (by omega) (by omega) hs0 hs1 (by omega) fun b' cs u3 u10 hc hl => ?_
      simp -implicitDefEqProofs [rangeD_zero, -List.map_map]
      refine l1_search (a := 20) (c := 20) (by omega) (by omega) (by omega) (by omega) hc hl fun b' js u3 u11 hw => ?_
      have := h b' cs js hw
      simp -implicitDefEqProofs [z2]
      exact this
    · simp -implicitDefEqProofs [z2, gGt, q, rangeD_zero]
      refine l0_search (a := 20) (c := 20) (by omega) (by omega) hs0 hs1 (by omega) fun b' cs u3 u10 hc hl => ?_
      simp -implicitDefEqProofs [rangeD_zero, -List.map_map]
      refine l1_search (a := 20) (c := 20) (by omega) (by omega) (by omega) (by omega) hc hl fun b' js u3 u11 hw => ?_
      have := h b' cs js hw
      simp -implicitDefEqProofs [z2]
      exact this

/-! ### the law's own judge of a tuple -/
def lawQ (cs : List Cv) (js : List Jb) (least : Int) : Option Tri → Bool
  | none => false
  | some (a, q, c) => isNumB (least + 1) a && (decide (jvO (lawOut cs js) q = [c]) && (isInt a least && jvB (fun l => decide (sumM cs js l = least)) q))
def S__law_is_quickest : FS := fun ns k _ => ∃ cs js least v z, ns = [.d (worD cs js), .d (.int least), .d v] ∧ Wok cs js ∧ vOk (cs.length + js.length) v z ∧ (∀ a q c, z = some (a, q, c) → upTo 1000000 c) ∧ k (.d (.bl (lawQ cs js least z))) [some (.d (worD cs js)), some (.d (.int least)), some (.d v)]
theorem x_lquick {cs : List Cv} {js : List Jb} {least : Int} {v : D} {z : Option Tri} {k : N → Env → Prop} {x : XP} (hw : Wok cs js) (h1 : vOk (cs.length + js.length) v z) (h2 : ∀ a q c, z = some (a, q, c) → upTo 1000000 c) (h : k (.d (.bl (lawQ cs js least z))) [some (.d (worD cs js)), some (.d (.int least)), some (.d v)]) : S__law_is_quickest [.d (worD cs js), .d (.int least), .d v] k x := ⟨cs, js, least, v, z, rfl, hw, h1, h2, h⟩
theorem Rp.oD {c : Option Nat} {n m : Nat} (h : upTo 1000000 c) : Rp (oD c) n m := by
  cases c with
  | none => exact Rp.non
  | some i =>
    have : i < 1000000 := h
    exact Rp.int (by omega) (by omega)
def rpO : Option Nat → Str
  | none => "None"
  | some i => toString (i : Int)
theorem gRepr_oD {c : Option Nat} (h : upTo 1000000 c) : gRepr [oD c] = some (.d (.str (rpO c))) := by
  cases c with
  | none => rfl
  | some i =>
    have hi : i < 1000000 := h
    have : (i : Int).natAbs.log2 < 1920 := by
      by_cases z : i = 0
      · subst z; decide
      · have e20 : (2 : Nat) ^ 20 = 1048576 := by decide
        have lt : (i : Int).natAbs < 2 ^ 20 := by omega
        exact (Nat.log2_lt (by omega)).mpr (Nat.lt_of_lt_of_le lt (Nat.pow_le_pow_right (by omega) (by omega)))
    show (if (i : Int).natAbs.log2 < 1920 then some (N.d (.str (toString (i : Int)))) else none) = _
    rw [if_pos this]
    rfl
theorem rpO_inj {a b : Option Nat} (ha : upTo 1000000 a) (hb : upTo 1000000 b) : rpO a = rpO b ↔ a = b := by
  have nn : ∀ i : Nat, Str.ofString (toString (i : Int)) ≠ Str.ofString "None" := by
    intro i h
    rw [ofString_inj] at h
    have h2 := congrArg String.toList h
    have h3 : ∀ c ∈ (toString (i : Int)).toList, c.isDigit = true := by
      intro c hc
      have e : (toString (i : Int)) = Nat.repr i := rfl
      rw [e, Nat.toList_repr] at hc
      exact Nat.isDigit_of_mem_toDigits (b := 10) (by omega) (by omega) hc
    have h4 : 'N' ∈ (toString (i : Int)).toList := by rw [h2]; decide
    exact absurd (h3 _ h4) (by decide)
  cases a with
  | none =>
    cases b with
    | none => simp
    | some j => exact ⟨fun h => absurd h.symm (nn j), fun h => by cases h⟩
  | some i =>
    cases b with
    | none => exact ⟨fun h => absurd h (nn i), fun h => by cases h⟩
    | some j =>
      show Str.ofString (toString (i : Int)) = Str.ofString (toString (j : Int)) ↔ _
      rw [strInt_inj]
      simp
      omega
theorem gNe_str (a b : Str) : gNe (.str a) (.str b) = some (.d (.bl (!decide (a = b)))) := by simp [gNe, eqD]
def N__law_is_quickest : List Str := ["world", "least", "value", "left"]
def W__law_is_quickest : WS := (wsCons (wsIf (wBorT (wOr (wNot (wB (wIsi (oS 2) ["tuple"]))) (wOr (wB (wOp2 (up2 gNe) (oE (wCB (upL gLen) (aCons (oS 2) aNil))) (oE (wC (.int 3))))) (wNot (wB (wCall 2 S__law_is_number (aCons (oF (wOp2 (up2 gIx) (oS 2) (oE (wC (.int 0))))) (aCons (oF (wOp2 (up2 gAdd) (oS 1) (oE (wC (.int 1))))) aNil)))))))) (wsRet (wC (.bl false))) wsNil) (wsCons (wsSet 3 (wFr (wCall 2 S__law_left_out (aCons (oS 0) (aCons (oF (wOp2 (up2 gIx) (oS 2) (oE (wC (.int 1))))) aNil))))) (wsCons (wsIf (wBorT (wOr (wB (wOp2 (up2 gEq) (oS 3) (oE (wLst aNil)))) (wB (wOp2 (up2 gNe) (oE (wCB (upL gRepr) (aCons (oE (wOp2 (up2 gIx) (oS 3) (oE (wC (.int 0))))) aNil))) (oE (wCB (upL gRepr) (aCons (oE (wOp2 (up2 gIx) (oS 2) (oE (wC (.int 2))))) aNil))))))) (wsRet (wC (.bl false))) wsNil) (wsRet (wBor (wAndV (wOp2 (up2 gEq) (oE (wOp2 (up2 gIx) (oS 2) (oE (wC (.int 0))))) (oS 1)) (wOp2 (up2 gEq) (oF (wCall 2 S__law_minutes (aCons (oS 0) (aCons (oF (wOp2 (up2 gIx) (oS 2) (oE (wC (.int 1))))) aNil)))) (oS 1))))))))
theorem s__law_is_quickest : ∀ ns k x, S__law_is_quickest ns k x → ns.length = 3 → W__law_is_quickest (startE N__law_is_quickest ns) (endsOf 3 k) (xOf 3 x) := by
  rintro _ k x ⟨cs, js, least, v, z, rfl, hw, h1, h2, h⟩ _
  have big := big_sizeLine
  cases z with
  | none =>
    obtain ⟨ho, ht⟩ := h1
    simp only [lawQ] at h
    cases v with
    | tup l =>
      have g1 : gNe (.int (l.length : Int)) (.int 3) = some (.d (.bl true)) := by
        simp [isTupD] at ht
        simp [gNe, eqD]
        omega
      simp -implicitDefEqProofs [W__law_is_quickest, N__law_is_quickest, isaB, g1]
      exact h
    | _ => simp -implicitDefEqProofs [W__law_is_quickest, N__law_is_quickest, isaB, isaOk] at ho ⊢ <;> exact h
  | some z =>
    obtain ⟨a, q, c⟩ := z
    obtain ⟨rfl, ha, hq⟩ := h1
    have hc := h2 a q c rfl
    have ha' := flatA_ok ha
    have g3 : gNe (.int 3) (.int 3) = some (.d (.bl false)) := by simp [gNe, eqD]
    have i0 : gIx (.tup [a, jv q, oD c]) (.int 0) = some (.d a) := rfl
    have i1 : gIx (.tup [a, jv q, oD c]) (.int 1) = some (.d (jv q)) := rfl
    have i2 : gIx (.tup [a, jv q, oD c]) (.int 2) = some (.d (oD c)) := rfl
    simp -implicitDefEqProofs [W__law_is_quickest, N__law_is_quickest, endsOf, isaB, g3, i0, gAdd]
    refine x_is_number ha' ?_
    cases hn : isNumB (least + 1) a with
    | false =>
      simp -implicitDefEqProofs [lawQ, hn] at h ⊢
      exact h
    | true =>
      obtain ⟨i, rfl⟩ : ∃ i, a = .int i := by
        cases a with
        | int i => exact ⟨i, rfl⟩
        | _ => cases hn
      simp -implicitDefEqProofs [lawQ, hn, N__law_is_quickest, i1] at h ⊢
      refine x_lleft hw hq ?_
      simp -implicitDefEqProofs [N__law_is_quickest]
      have hlo : jvO (lawOut cs js) q = [] ∨ ∃ b l o, q = some (b, l) ∧ lawOut cs js l = [o] ∧ upTo 1000000 o := by
        cases q with
        | none => exact .inl rfl
        | some q =>
          obtain ⟨b, l⟩ := q
          show lawOut cs js l = [] ∨ _
          rw [lawOut_eq]
          split
          · refine .inr ⟨b, l, (leftN cs js l).head?, rfl, by rw [lawOut_eq, if_pos (by assumption)], ?_⟩
            cases hh : (leftN cs js l).head? with
            | none => trivial
            | some i =>
              have := (mem_insN.mp (List.mem_filter.mp (List.mem_of_mem_head? (Option.mem_def.mpr hh))).1).2
              have := hw.cl
              have := hw.jl
              show i < 1000000
              omega
          · exact .inl rfl
      rcases hlo with hlo | ⟨b, l, o, rfl, hlo, ho⟩
      · have g4 : gEq (.lst []) (.lst []) = some (.d (.bl true)) := by have := eqD_os0 []; simp at this; simp [gEq, this]
        rw [hlo] at h ⊢
        simp -implicitDefEqProofs [g4]
        simpa using h
      · have hlo' : jvO (lawOut cs js) (some (b, l)) = [o] := hlo
        have g4 : gEq (.lst [oD o]) (.lst []) = some (.d (.bl false)) := by have := eqD_os0 [o]; simp at this; simp [gEq, this]
        have g5 : gIx (.lst [oD o]) (.int 0) = some (.d (oD o)) := rfl
        have g6 : gNe (.str (rpO o)) (.str (rpO c)) = some (.d (.bl (!decide (o = c)))) := by rw [gNe_str, decide_eq_decide.mpr (rpO_inj ho hc)]
        rw [hlo'] at h ⊢
        simp -implicitDefEqProofs [g4, g5, i2, gRepr_oD ho, gRepr_oD hc, g6]
        by_cases e : o = c
        · subst e
          have g7 : gEq (.int i) (.int least) = some (.d (.bl (decide (i = least)))) := by simp [gEq, eqD]
          simp -implicitDefEqProofs [i0, g7]
          by_cases e2 : i = least
          · subst e2
            simp -implicitDefEqProofs [i1]
            refine x_minutes (b := b) (l := l) hq.1 hq.2 ?_
            simp -implicitDefEqProofs [gEq, eqD]
            simpa [isInt, jvB, jv] using h
          · simp -implicitDefEqProofs [e2]
            simpa [isInt, e2] using h
        · simp -implicitDefEqProofs [e]
          simpa [e] using h

/-! ### both judges agree -/
theorem isInt_iff {a : D} {i : Int} : isInt a i = true ↔ a = .int i := by
  cases a <;> simp [isInt]
theorem judge_eq {cs : List Cv} {js : List Jb} (hw : Wok cs js) (z : Option Tri) : lawQ cs js (minsO cs js (quickO cs js)) z = qckB cs js z := by
  cases z with
  | none => rfl
  | some z =>
    obtain ⟨a, q, c⟩ := z
    have hp := (sumM_pos hw (need cs js (quickO cs js))).1
    generalize hM : minsO cs js (quickO cs js) = M
    have hp : 0 ≤ M := by rw [← hM]; exact hp
    cases q with
    | none => simp [lawQ, qckB, tellB, jvO, jvB]
    | some q =>
      obtain ⟨b, l⟩ := q
      simp only [lawQ, qckB, tellB, jvO, jvB, lawOut_eq, hM]
      by_cases hi : isInt a M = true
      · obtain rfl := isInt_iff.mp hi
        by_cases hs : shoB cs js l = true
        · by_cases hc : (leftN cs js l).head? = c
          · subst hc
            by_cases e : sumM cs js l = M
            · simp [hs, isInt, isNumB, isIntD, e]; omega
            · have e' : ¬ M = sumM cs js l := fun z => e z.symm
              simp [hs, isInt, isNumB, isIntD, e, e']
          · have hc' : ¬ c = (leftN cs js l).head? := fun z => hc z.symm
            simp [hs, hc, hc']
        · simp [hs]
      · simp [hi]
/-- a value that both are asked -/
def Gd (cs : List Cv) (js : List Jb) (v : D) : Prop := ∃ z, vOk (cs.length + js.length) v z ∧ (∀ a q c, z = some (a, q, c) → upTo 1000000 c) ∧ ∃ s : Str, gRepr [v] = some (.d (.str s))
theorem Rp.sq {b : Bool} {l : List Nat} {N : Nat} (h : ∀ j ∈ l, j < N) (hN : N ≤ 1000) : Rp (sqD b l) 1 l.length := by
  have r : Rps (nD l) 0 (l.length * (0 + 1)) := Rps.mapf fun j hj => by
    have := h j hj
    exact Rp.int (by omega) (by omega)
  rw [Nat.zero_add, Nat.mul_one] at r
  cases b
  · exact Rp.lst r
  · exact Rp.tup r
theorem Rp.jv {q : Option (Bool × List Nat)} {n : Nat} (h : jvOk n q) (hN : n ≤ 1000) : Rp (jv q) 1 1000 := by
  cases q with
  | none => exact Rp.non
  | some q =>
    obtain ⟨b, l⟩ := q
    exact (Rp.sq h.1 hN).mono (by omega) h.2
theorem Gd.tri {cs : List Cv} {js : List Jb} {a : D} {q : Option (Bool × List Nat)} {c : Option Nat} (hw : Wok cs js) (ha : flatA a = true) (hr : Rp a 1 0) (hq : jvOk (cs.length + js.length) q) (hc : upTo 1000000 c) : Gd cs js (.tup [a, jv q, oD c]) := by
  have h1 := hw.cl
  have h2 := hw.jl
  refine ⟨some (a, q, c), ⟨rfl, ha, hq⟩, fun _ _ _ e => by cases e; exact hc, ?_⟩
  exact Rp.fit (n := 2) (m := 0 + 1 + (1000 + 1 + (0 + 1 + 0))) (Rp.tup (Rps.cons hr (Rps.cons (Rp.jv hq (by omega)) (Rps.cons (Rp.oD hc) Rps.nil)))) (by omega) (by omega)
theorem Gd.non {cs : List Cv} {js : List Jb} {v : D} (ho : isaOk v = true) (ht : isTupD 3 v = false) {n m : Nat} (hr : Rp v n m) (hn : n < 64) (hm : m ≤ 9000) : Gd cs js v :=
  ⟨none, ⟨ho, ht⟩, fun _ _ _ e => (by cases e), hr.fit hn hm⟩
theorem Rp.str {z : Str} {n m : Nat} (h : ∀ c ∈ z.cps.toList, c < 16 ^ 8) (hm : z.cps.size ≤ m) : Rp (.str z) n m :=
  ⟨_, by rw [toPy], by rw [PyData.showable], by rw [PyData.hasDict], by rw [PyData.depth]; omega, by rw [PyData.leavesShort, List.all_eq_true]; exact fun c hc => by simpa using h c hc, by rw [PyData.bulk]; exact hm⟩
theorem jv_ok {cs : List Cv} {js : List Jb} (hw : Wok cs js) {o : Option Nat} (b : Bool) {l : List Nat} (sub : ∀ j ∈ l, j ∈ need cs js o) (hl : l.length ≤ 1000) : jvOk (cs.length + js.length) (some (b, l)) :=
  ⟨fun j hj => need_lt o j (sub j hj), hl⟩
theorem cho_up {cs : List Cv} {js : List Jb} (hw : Wok cs js) {o : Option Nat} (ho : o ∈ choO cs js) : upTo 1000000 o := by
  have h1 := hw.cl
  have h2 := hw.jl
  rcases mem_choO.mp ho with ⟨_, rfl⟩ | ⟨_, i, rfl, _, h⟩
  · trivial
  · show i < 1000000
    omega
theorem mins_le {cs : List Cv} {js : List Jb} (hw : Wok cs js) {l : List Nat} (h : l.length ≤ 40) : 0 ≤ sumM cs js l ∧ sumM cs js l ≤ 40000000 := by
  have := sumM_pos hw l
  omega
def keptD (cs : List Cv) (js : List Jb) : D := .tup [.int (minsO cs js (quickO cs js)), .lst (nD (need cs js (quickO cs js))), oD (quickO cs js)]
def S__law_tuples_right : FS := fun ns k _ => ∃ (b : Box) (cs : List Cv) (js : List Jb), ns = [boxN b, .d (seaD cs js), .d (worD cs js), .d (.int (minsO cs js (quickO cs js))), .d (keptD cs js)] ∧ Wok cs js ∧
  ∀ b', k (.d (.bl true)) [some (boxN b'), some (.d (seaD cs js)), some (.d (worD cs js)), some (.d (.int (minsO cs js (quickO cs js)))), some (.d (keptD cs js))]
theorem x_tuples {b : Box} {cs : List Cv} {js : List Jb} {k : N → Env → Prop} {x : XP} (hw : Wok cs js) (h : ∀ b', k (.d (.bl true)) [some (boxN b'), some (.d (seaD cs js)), some (.d (worD cs js)), some (.d (.int (minsO cs js (quickO cs js)))), some (.d (keptD cs js))]) :
  S__law_tuples_right [boxN b, .d (seaD cs js), .d (worD cs js), .d (.int (minsO cs js (quickO cs js))), .d (keptD cs js)] k x := ⟨b, cs, js, rfl, hw, h⟩
theorem gSl_drop1 (l : List Nat) : gSl (.lst (nD l)) (some 1) none = some (.lst ((nD (l.drop 1)).map N.d)) := by
  show some (N.lst ((cutD (nD l) (some 1) none).map N.d)) = _
  have e1 : HT.sIx (nD l).length 0 (some 1) = min 1 (nD l).length := HT.sIx_nat _ _ 1
  have e2 : HT.sIx (nD l).length (nD l).length none = (nD l).length := rfl
  unfold cutD
  rw [e1, e2]
  cases l with
  | nil => rfl
  | cons a l =>
    have : min 1 (nD (a :: l)).length = 1 := by simp
    rw [this]
    have e3 : ((nD (a :: l)).drop 1).take ((nD (a :: l)).length - 1) = nD l := by
      show (nD l).take _ = _
      exact List.take_of_length_le (by simp)
    rw [e3]
    rfl
theorem gSl_take1 (l : List Nat) : gSl (.lst (nD l)) none (some 1) = some (.lst ((nD (l.take 1)).map N.d)) := by
  show some (N.lst ((cutD (nD l) none (some 1)).map N.d)) = _
  have e1 : HT.sIx (nD l).length (nD l).length (some 1) = min 1 (nD l).length := HT.sIx_nat _ _ 1
  have e2 : HT.sIx (nD l).length 0 none = 0 := rfl
  unfold cutD
  rw [e1, e2]
  cases l with
  | nil => rfl
  | cons a l =>
    have : min 1 (nD (a :: l)).length = 1 := by simp
    rw [this]
    simp [nD]
theorem nD_rev (l : List Nat) : (nD l).reverse = nD l.reverse := by simp [nD]
/-- a loop whose turns keep a state, over the members -/
theorem forL_each {g : GT} {b : WS} {x : XP} {E : ED} (I : Env → Prop) : ∀ {l : List D} {e : Env}, I e → (∀ d ∈ l, ∀ e (kk : Env → Prop), I e → (∀ e', I e' → kk e') → g (.d d) e fun e1 => b e1 { E with nx := kk, ct := kk, bk := E.nx } x) → (∀ e, I e → E.nx e) → forL g b x l e E
  | [], e, h, _, hd => hd e h
  | d :: l, e, h, st, hd => by
    rw [forL_cons]
    exact st d List.mem_cons_self e _ h fun e' h' => forL_each I h' (fun a ha => st a (List.mem_cons_of_mem _ ha)) hd
def N__law_tuples_right : List Str := ["box", "search", "world", "least", "kept", "values", "turn", "value", "minutes", "order", "left", "other", "out", "answer", "due", "shown"]
def W__law_tuples_right : WS := (wsCons (wsAsg (gtTp 3 (gtsCons (gtNm 8) (gtsCons (gtNm 9) (gtsCons (gtNm 10) gtsNil)))) (wVar 4)) (wsCons (wsSet 5 (wLst (aCons (oF (wVar 4)) (aCons (oF (wTup (aCons (oF (wVar 8)) (aCons (oF (wCB fTuple (aCons (oS 9) aNil))) (aCons (oF (wVar 10)) aNil))))) (aCons (oF (wTup (aCons (oF (wOp2 (up2 gAdd) (oS 8) (oE (wC (.int 1))))) (aCons (oF (wVar 9)) (aCons (oF (wVar 10)) aNil))))) (aCons (oF (wTup (aCons (oF (wOp2 (up2 gSub) (oS 8) (oE (wC (.int 1))))) (aCons (oF (wVar 9)) (aCons (oF (wVar 10)) aNil))))) aNil)))))) (wsCons (wsSet 5 (wOp2 (up2 gAdd) (oS 5) (oE (wLst (aCons (oF (wLst (aCons (oF (wVar 8)) (aCons (oF (wVar 9)) (aCons (oF (wVar 10)) aNil))))) (aCons (oF (wTup (aCons (oF (wVar 8)) (aCons (oF (wVar 9)) aNil)))) (aCons (oF (wTup (aCons (oF (wVar 8)) (aCons (oF (wVar 9)) (aCons (oF (wVar 10)) (aCons (oF (wC (.int 0))) aNil)))))) (aCons (oF (wTup (aCons (oF (wVar 8)) (aCons (oF (wVar 9)) (aCons (oF (wC .non)) aNil))))) aNil)))))))) (wsCons (wsSet 5 (wOp2 (up2 gAdd) (oS 5) (oE (wLst (aCons (oF (wTup (aCons (oF (wVar 8)) (aCons (oF (wVar 9)) (aCons (oF (wC (.int 0))) aNil))))) (aCons (oF (wTup (aCons (oF (wVar 8)) (aCons (oF (wSl (oS 9) (pSome (wC (.int 1))) pNo)) (aCons (oF (wVar 10)) aNil))))) (aCons (oF (wTup (aCons (oF (wVar 8)) (aCons (oF (wRevL (oS 9))) (aCons (oF (wVar 10)) aNil))))) (aCons (oF (wC .non)) (aCons (oF (wTup aNil)) (aCons (oF (wC (.str "abc"))) aNil)))))))))) (wsCons (wsSet 5 (wOp2 (up2 gAdd) (oS 5) (oE (wLst (aCons (oF (wTup (aCons (oF (wVar 8)) (aCons (oF (wC .non)) (aCons (oF (wVar 10)) aNil))))) (aCons (oF (wTup (aCons (oF (wC .non)) (aCons (oF (wVar 9)) (aCons (oF (wVar 10)) aNil))))) (aCons (oF (wTup (aCons (oF (wC (.bl true))) (aCons (oF (wVar 9)) (aCons (oF (wVar 10)) aNil))))) aNil))))))) (wsCons (wsEx (wApp 5 (wFr (wTup (aCons (oF (wVar 8)) (aCons (oF (wOp2 (up2 gAdd) (oS 9) (oE (wSl (oS 9) pNo (pSome (wC (.int 1))))))) (aCons (oF (wVar 10)) aNil))))))) (wsCons (wsFor (iRg1 (aCons (oF (wC (.int 4))) aNil)) (gtNm 6) (wsCons (wsSet 11 (wFr (wCall 2 S__law_drawn (aCons (oS 0) (aCons (oS 2) aNil))))) (wsCons (wsSet 12 (wFr (wOp2 (up2 gIx) (oF (wCall 2 S__law_left_out (aCons (oS 2) (aCons (oS 11) aNil)))) (oE (wC (.int 0)))))) (wsSet 5 (wOp2 (up2 gAdd) (oS 5) (oE (wLst (aCons (oF (wTup (aCons (oF (wCall 2 S__law_minutes (aCons (oS 2) (aCons (oS 11) aNil)))) (aCons (oF (wVar 11)) (aCons (oF (wVar 12)) aNil))))) (aCons (oF (wTup (aCons (oF (wVar 8)) (aCons (oF (wVar 11)) (aCons (oF (wVar 12)) aNil))))) (aCons (oF (wTup (aCons (oF (wVar 8)) (aCons (oF (wVar 11)) (aCons (oF (wVar 10)) aNil))))) aNil)))))))))) (wsCons (wsFor (iSeq (wVar 5)) (gtNm 7) (wsCons (wsPar 14 15 (aCons (oF (wCall 3 S__law_is_quickest (aCons (oS 2) (aCons (oS 3) (aCons (oS 7) aNil))))) (aCons (oF (wCB (upL gRepr) (aCons (oS 7) aNil))) aNil))) (wsCons (wsSet 13 (wFr (wIf (wBorT (wTr (oS 14))) (wCall 2 S_is_quickest_short_order (aKw 0 2 [1, 0] aNil (aCons (oS 7) (aCons (oS 1) aNil)))) (wCall 2 S_is_quickest_short_order (aCons (oS 1) (aCons (oS 7) aNil)))))) (wsIf (wBorT (wOr (wIfT (wTr (oS 14)) (wB (wOp2 (up2 gIsNot) (oS 13) (oE (wC (.bl true))))) (wB (wOp2 (up2 gIsNot) (oS 13) (oE (wC (.bl false)))))) (wB (wOp2 (up2 gNe) (oE (wCB (upL gRepr) (aCons (oS 7) aNil))) (oS 15))))) (wsRet (wC (.bl false))) wsNil)))) (wsRet (wC (.bl true)))))))))))
def B0__law_tuples_right : WS := (wsCons (wsSet 11 (wFr (wCall 2 S__law_drawn (aCons (oS 0) (aCons (oS 2) aNil))))) (wsCons (wsSet 12 (wFr (wOp2 (up2 gIx) (oF (wCall 2 S__law_left_out (aCons (oS 2) (aCons (oS 11) aNil)))) (oE (wC (.int 0)))))) (wsSet 5 (wOp2 (up2 gAdd) (oS 5) (oE (wLst (aCons (oF (wTup (aCons (oF (wCall 2 S__law_minutes (aCons (oS 2) (aCons (oS 11) aNil)))) (aCons (oF (wVar 11)) (aCons (oF (wVar 12)) aNil))))) (aCons (oF (wTup (aCons (oF (wVar 8)) (aCons (oF (wVar 11)) (aCons (oF (wVar 12)) aNil))))) (aCons (oF (wTup (aCons (oF (wVar 8)) (aCons (oF (wVar 11)) (aCons (oF (wVar 10)) aNil))))) aNil)))))))))
def B1__law_tuples_right : WS := (wsCons (wsPar 14 15 (aCons (oF (wCall 3 S__law_is_quickest (aCons (oS 2) (aCons (oS 3) (aCons (oS 7) aNil))))) (aCons (oF (wCB (upL gRepr) (aCons (oS 7) aNil))) aNil))) (wsCons (wsSet 13 (wFr (wIf (wBorT (wTr (oS 14))) (wCall 2 S_is_quickest_short_order (aKw 0 2 [1, 0] aNil (aCons (oS 7) (aCons (oS 1) aNil)))) (wCall 2 S_is_quickest_short_order (aCons (oS 1) (aCons (oS 7) aNil)))))) (wsIf (wBorT (wOr (wIfT (wTr (oS 14)) (wB (wOp2 (up2 gIsNot) (oS 13) (oE (wC (.bl true))))) (wB (wOp2 (up2 gIsNot) (oS 13) (oE (wC (.bl false)))))) (wB (wOp2 (up2 gNe) (oE (wCB (upL gRepr) (aCons (oS 7) aNil))) (oS 15))))) (wsRet (wC (.bl false))) wsNil)))
@[simp] theorem Nl__law_tuples_right : N__law_tuples_right.length = 16 := rfl
theorem s__law_tuples_right : ∀ ns k x, S__law_tuples_right ns k x → ns.length = 5 → W__law_tuples_right (startE N__law_tuples_right ns) (endsOf 5 k) (xOf 5 x) := by
  rintro _ k x ⟨b, cs, js, rfl, hw, h⟩ _
  have big := big_sizeLine
  have hlo := (quickO_least cs js).1
  have hll := need_len hw (quickO cs js)
  have hnm := mins_le hw hll
  have hup := cho_up hw hlo
  have hjq := fun z => judge_eq hw z
  have hok : ∀ b l, (∀ j ∈ l, j ∈ need cs js (quickO cs js)) → l.length ≤ 1000 → jvOk (cs.length + js.length) (some (b, l)) := fun b l h1 h2 => jv_ok hw b h1 h2
  have hM : sumM cs js (need cs js (quickO cs js)) = minsO cs js (quickO cs js) := rfl
  rw [hM] at hnm
  unfold keptD at h ⊢
  revert h hll hnm hup hjq hok hlo hM
  generalize need cs js (quickO cs js) = O
  generalize minsO cs js (quickO cs js) = M
  generalize quickO cs js = L
  intro h hlo hll hnm hup hjq hok hM
  have z0 : 0 ≤ sizeLine := by omega
  have z2 : 2 ≤ sizeLine := by omega
  have z3 : 3 ≤ sizeLine := by omega
  have z4 : 4 ≤ sizeLine := by omega
  have z6 : 6 ≤ sizeLine := by omega
  have z8 : 8 ≤ sizeLine := by omega
  have z14 : 14 ≤ sizeLine := by omega
  have z17 : 17 ≤ sizeLine := by omega
  have zz : ∀ n : Nat, n ≤ 100 → n ≤ sizeLine := fun n h => by omega
  have hl2 : O.length < sizeLine := by omega
  have hl3 : O.length ≤ sizeLine := by omega
  have ft : ∃ t, fTuple [.d (.lst (nD O))] = some t ∧ t.view = .tup (nD O) := by
    refine ⟨_, rfl, ?_⟩
    simp
  obtain ⟨t, ht, htv⟩ := ft
  simp -implicitDefEqProofs [W__law_tuples_right, N__law_tuples_right, ht, htv, gAdd, gSub, z0, z2, z3, z4, z6, z8, z14, z17]
  have hl4 : O.length + min 1 O.length ≤ sizeLine := by omega
  simp -implicitDefEqProofs [gSl_drop1, gSl_take1, nD_rev, gAdd, gSub, z0, z2, z3, z4, z6, z8, z14, z17, hl4]
  have e0 : rangeD 0 4 = (List.range 4).map iD := rfl
  have gt : ∀ (a : D) (q : Option (Bool × List Nat)) (c : Option Nat), flatA a = true → Rp a 1 0 → jvOk (cs.length + js.length) q → upTo 1000000 c → Gd cs js (.tup [a, jv q, oD c]) := fun a q c h1 h2 h3 h4 => Gd.tri hw h1 h2 h3 h4
  have ri : ∀ i : Int, -10 ≤ i → i ≤ 100000000 → Rp (.int i) 1 0 := fun i h1 h2 => Rp.int (by omega) (by omega)
  have o0 := hok false O (fun _ h => h) (by omega)
  have u0 : upTo 1000000 (some 0) := by show 0 < 1000000; omega
  have rO : Rp (.lst (nD O)) 1 1000 := Rp.jv o0 (by have := hw.cl; have := hw.jl; omega)
  have rI : Rp (.int M) 1 0 := ri M (by omega) (by omega)
  have rL : Rp (oD L) 1 0 := Rp.oD hup
  refine ⟨by omega, ?_⟩
  rw [e0]
  refine forL_rec iD (fun tn r e => ∃ b' vs u6 u11 u12, e = [some (boxN b'), some (.d (seaD cs js)), some (.d (worD cs js)), some (.d (.int M)), some (.d (.tup [.int M, .lst (nD O), oD L])), some (.lst (vs.map N.d)), u6, none, some (.d (.int M)), some (.d (.lst (nD O))), some (.d (oD L)), u11, u12, none, none, none] ∧ (∀ v ∈ vs, Gd cs js v) ∧ vs.length + 3 * r.length ≤ 40) ?_ ?_ (List.range 4) [] _
    ⟨b, [.tup [.int M, .lst (nD O), oD L], .tup [.int M, .tup (nD O), oD L], .tup [.int (M + 1), .lst (nD O), oD L], .tup [.int (M - 1), .lst (nD O), oD L], .lst [.int M, .lst (nD O), oD L], .tup [.int M, .lst (nD O)], .tup [.int M, .lst (nD O), oD L, .int 0], .tup [.int M, .lst (nD O), .non], .tup [.int M, .lst (nD O), .int 0], .tup [.int M, .lst (nD O.tail), oD L], .tup [.int M, .lst (nD O.reverse), oD L], .non, .tup [], .str "abc", .tup [.int M, .non, oD L], .tup [.non, .lst (nD O), oD L], .tup [.bl true, .lst (nD O), oD L], .tup [.int M, .lst (nD O ++ nD (O.take 1)), oD L]], none, none, none, rfl, ?_, by simp⟩
  · rintro tn t r _ kk ⟨b', vs, u6, u11, u12, rfl, hvs, hln⟩ hk
    simp -implicitDefEqProofs []
    refine x_drawn hw fun b2 o l ho hp hb => ?_
    have hs := sho_of ho hp hb
    have hjl : jvOk (cs.length + js.length) (some (false, l)) := jv_ok (o := o) hw false (fun j hj => hp.mem_iff.mp hj) (by rw [hp.length_eq]; have := need_len hw o; omega)
    have hou := cho_up hw ho
    have hll2 : l.length ≤ 40 := by rw [hp.length_eq]; exact need_len hw o
    have hml := mins_le hw hll2
    simp -implicitDefEqProofs []
    refine x_lleft (q := some (false, l)) hw hjl ?_
    have hlaw : jvO (lawOut cs js) (some (false, l)) = [o] := by
      show lawOut cs js l = [o]
      rw [lawOut_eq, if_pos hs.1, hs.2]
    rw [hlaw]
    have g0 : gIx (.lst [oD o]) (.int 0) = some (.d (oD o)) := rfl
    simp -implicitDefEqProofs [g0]
    refine x_minutes (b := false) (l := l) hjl.1 hjl.2 ?_
    have hlv : vs.length + 3 ≤ sizeLine := by simp at hln; omega
    simp -implicitDefEqProofs [z3, gAdd, hlv]
    refine hk _ ⟨b2, vs ++ [.tup [.int (sumM cs js l), .lst (nD l), oD o], .tup [.int M, .lst (nD l), oD o], .tup [.int M, .lst (nD l), oD L]], some (.d (iD t)), some (.d (.lst (nD l))), some (.d (oD o)), by simp [jv, sqD], ?_, by simp at hln ⊢; omega⟩
    intro v hv
    rcases List.mem_append.mp hv with hv | hv
    · exact hvs v hv
    · simp only [List.mem_cons, List.not_mem_nil, or_false] at hv
      rcases hv with rfl | rfl | rfl
      · exact gt _ (some (false, l)) o rfl (ri _ (by omega) (by omega)) hjl hou
      · exact gt _ (some (false, l)) o rfl rI hjl hou
      · exact gt _ (some (false, l)) L rfl rI hjl hup
  · rintro tn _ ⟨b', vs, u6, u11, u12, rfl, hvs, hln⟩
    simp -implicitDefEqProofs []
    refine forL_each (fun e => ∃ b' vs u6 u7 u11 u12 u13 u14 u15, e = [some (boxN b'), some (.d (seaD cs js)), some (.d (worD cs js)), some (.d (.int M)), some (.d (.tup [.int M, .lst (nD O), oD L])), some (.d (.lst vs)), u6, u7, some (.d (.int M)), some (.d (.lst (nD O))), some (.d (oD L)), u11, u12, u13, u14, u15]) ⟨b', vs, u6, none, u11, u12, none, none, none, rfl⟩ ?_ ?_
    · rintro v hv _ kk ⟨b', vs, u6, u7, u11, u12, u13, u14, u15, rfl⟩ hk
      obtain ⟨z, hz1, hz2, rs, hrs⟩ := hvs v hv
      simp -implicitDefEqProofs []
      refine x_lquick hw hz1 hz2 ?_
      rw [hjq]
      simp -implicitDefEqProofs [hrs]
      have gn : gNe (.str rs) (.str rs) = some (.d (.bl false)) := by rw [gNe_str]; simp
      have gi : ∀ b : Bool, gIsNot (.bl b) (.bl b) = some (.d (.bl false)) := fun b => by cases b <;> rfl
      cases hb : qckB cs js z with
      | true =>
        rw [if_pos rfl]
        refine x_is_quickest hw hz1 ?_
        rw [hb]
        simp -implicitDefEqProofs [gi, hrs, gn]
        exact hk _ ⟨b', vs, u6, _, u11, u12, _, _, _, rfl⟩
      | false =>
        rw [if_neg (by simp)]
        refine x_is_quickest hw hz1 ?_
        rw [hb]
        simp -implicitDefEqProofs [gi, hrs, gn]
        exact hk _ ⟨b', vs, u6, _, u11, u12, _, _, _, rfl⟩
    · rintro _ ⟨b', vs, u6, u7, u11, u12, u13, u14, u15, rfl⟩
      simp -implicitDefEqProofs []
      exact h b'
  · intro v hv
    simp only [List.mem_cons, List.not_mem_nil, or_false] at hv
    have hot : jvOk (cs.length + js.length) (some (false, O.tail)) := hok false O.tail (fun j hj => List.mem_of_mem_tail hj) (by simp; omega)
    have hor : jvOk (cs.length + js.length) (some (false, O.reverse)) := hok false O.reverse (fun j hj => by simpa using hj) (by simp; omega)
    have hoa : jvOk (cs.length + js.length) (some (false, O ++ O.take 1)) := hok false _ (fun j hj => by
      rcases List.mem_append.mp hj with hj | hj
      · exact hj
      · exact List.mem_of_mem_take hj) (by simp; omega)
    rcases hv with rfl | rfl | rfl | rfl | rfl | rfl | rfl | rfl | rfl | rfl | rfl | rfl | rfl | rfl | rfl | rfl | rfl | rfl
    · exact gt _ (some (false, O)) L rfl rI o0 hup
    · exact gt _ (some (true, O)) L rfl rI o0 hup
    · exact gt _ (some (false, O)) L rfl (ri _ (by omega) (by omega)) o0 hup
    · exact gt _ (some (false, O)) L rfl (ri _ (by omega) (by omega)) o0 hup
    · exact Gd.non rfl rfl (Rp.lst (Rps.cons rI (Rps.cons rO (Rps.cons rL Rps.nil (m2 := 0))))) (by omega) (by omega)
    · exact Gd.non rfl rfl (Rp.tup (Rps.cons rI (Rps.cons rO Rps.nil (m2 := 0)))) (by omega) (by omega)
    · exact Gd.non rfl rfl (Rp.tup (Rps.cons rI (Rps.cons rO (Rps.cons rL (Rps.cons (ri 0 (by omega) (by omega)) Rps.nil (m2 := 0)))))) (by omega) (by omega)
    · exact gt _ (some (false, O)) none rfl rI o0 trivial
    · exact gt _ (some (false, O)) (some 0) rfl rI o0 u0
    · exact gt _ (some (false, O.tail)) L rfl rI hot hup
    · exact gt _ (some (false, O.reverse)) L rfl rI hor hup
    · exact Gd.non rfl rfl (Rp.non (n := 0) (m := 0)) (by omega) (by omega)
    · exact Gd.non rfl rfl (Rp.tup (Rps.nil (n := 0) (m := 0))) (by omega) (by omega)
    · exact Gd.non rfl rfl (Rp.str (n := 0) (m := 3) (by decide) (by decide)) (by omega) (by omega)
    · exact gt _ none L rfl rI trivial hup
    · exact gt _ (some (false, O)) L rfl Rp.non o0 hup
    · exact gt _ (some (false, O)) L rfl Rp.bl o0 hup
    · have := gt _ (some (false, O ++ O.take 1)) L rfl rI hoa hup
      rwa [show jv (some (false, O ++ O.take 1)) = .lst (nD O ++ nD (O.take 1)) by simp [jv, sqD, nD]] at this

/-! ### one search -/
theorem y_Covers_init {cs : List Cv} {k : N → Env → Prop} {x : XP} (hc : Cok cs) (h : k (.d .non) [some (covN cs), some (.d (.lst (cs.map cD)))]) : S_Covers_init [.obj "Covers" [] [], .d (.lst (cs.map cD))] k x := c_Covers_init.mpr ⟨hc, h⟩
theorem y_Search_init {b : Bool} {cs : List Cv} {js : List Jb} {k : N → Env → Prop} {x : XP} (hw : Wok cs js) (h : k (.d .non) [some (seaN cs js), some (.d (covD cs)), some (.d (insD b js))]) : S_Search_init [.obj "Search" [] [], .d (covD cs), .d (insD b js)] k x := c_Search_init.mpr ⟨hw, h⟩
def S__law_search_right : FS := fun ns k _ => ∃ (b : Box) (g : Bool), ns = [boxN b, .d (.bl g)] ∧ ∀ b', k (.d (.bl true)) [some (boxN b'), some (.d (.bl g))]
theorem x_sright {b : Box} {g : Bool} {k : N → Env → Prop} {x : XP} (h : ∀ b', k (.d (.bl true)) [some (boxN b'), some (.d (.bl g))]) : S__law_search_right [boxN b, .d (.bl g)] k x := ⟨b, g, rfl, h⟩
theorem quick_true {cs : List Cv} {js : List Jb} (hw : Wok cs js) (b : Bool) : qckB cs js (some (.int (minsO cs js (quickO cs js)), some (b, need cs js (quickO cs js)), quickO cs js)) = true := by
  obtain ⟨h1, h2⟩ := need_sho hw (quickO_least cs js).1
  have h3 : sumM cs js (need cs js (quickO cs js)) = minsO cs js (quickO cs js) := rfl
  simp [qckB, tellB, jvB, h1, h2, isInt, isIntD, h3]
@[simp] theorem cleans_nD (l : List Nat) : cleans ((nD l).map N.d) = true := by
  induction l with
  | nil => rw [show (nD []).map N.d = [] from rfl, cleans]
  | cons a l ih =>
    rw [show (nD (a :: l)).map N.d = .d (iD a) :: (nD l).map N.d from rfl, cleans, ih]
    rfl
@[simp] theorem scalD_oD (o : Option Nat) : scalD (oD o) = true := by cases o <;> rfl
theorem eqD_oO (a b : Option Nat) : eqD (oD a) (oD b) = some (decide (a = b)) := by
  cases a with
  | some i => exact eqD_iO i b
  | none => cases b <;> simp [eqD]
def outB (cs : List Cv) (js : List Jb) (L o : Option Nat) : Bool := decide (o ≠ L) && decide (o ∉ (need cs js L).map some)
theorem left_none {cs : List Cv} {js : List Jb} {L : Option Nat} (hL : L ∈ choO cs js) : (choO cs js).filter (outB cs js L) = [] := by
  rw [List.filter_eq_nil_iff]
  intro o ho
  unfold outB
  rcases mem_choO.mp ho with ⟨h1, rfl⟩ | ⟨h1, i, rfl, h2, h3⟩
  · rcases mem_choO.mp hL with ⟨_, rfl⟩ | ⟨h, _⟩
    · simp
    · exact absurd h1 h
  · by_cases e : some i = L
    · simp [e]
    · have : i ∈ need cs js L := mem_need.mpr (.inr (List.mem_filter.mpr ⟨mem_insN.mpr ⟨h2, h3⟩, by simpa using e⟩))
      simp [this]
theorem sumM_snoc (cs : List Cv) (js : List Jb) (l : List Nat) (j : Nat) : sumM cs js (l ++ [j]) = sumM cs js l + minJ cs js j := by simp [sumM]
def N__law_search_right : List Str := ["box", "great", "search", "least", "found", "job", "world", "by_name", "kept", "ends", "left"]
def W__law_search_right : WS := (wsCons (wsAsg (gtTp 2 (gtsCons (gtNm 6) (gtsCons (gtNm 7) gtsNil))) (wTup (aCons (oF (wCall 2 S__law_search (aCons (oS 0) (aCons (oS 1) aNil)))) (aCons (oF (wOp2 (up2 gEq) (oF (wCall 2 S__law_take (aCons (oS 0) (aCons (oE (wC (.int 2))) aNil)))) (oE (wC (.int 1))))) aNil)))) (wsCons (wsSet 2 (wFr (wMake "Search" 3 S_Search_init (aKw 0 2 [1, 0] aNil (aCons (oF (wCB fTuple (aCons (oE (wOp2 (up2 gIx) (oS 6) (oE (wC (.int 1))))) aNil))) (aCons (oF (wMake "Covers" 2 S_Covers_init (aKw 1 0 [0] (aCons (oF (wOp2 (up2 gIx) (oS 6) (oE (wC (.int 0))))) aNil) aNil))) aNil)))))) (wsCons (wsSet 3 (wFr (wCB (upL gMin) (aCons (oE (wLc (iSeq (wCall 1 S__law_lefts (aCons (oS 6) aNil))) (gtNm 10) wYes (wFr (wCall 2 S__law_minutes (aCons (oS 6) (aCons (oF (wCall 2 S__law_needed (aCons (oS 6) (aCons (oS 10) aNil)))) aNil)))) [10])) aNil)))) (wsCons (wsSet 4 (wIf (wBorT (wTr (oS 7))) (wCall 1 S_quickest_short_order (aKw 0 1 [0] aNil (aCons (oS 2) aNil))) (wCall 1 S_quickest_short_order (aCons (oS 2) aNil)))) (wsCons (wsIf (wBorT (wOr (wNot (wB (wCall 3 S__law_is_quickest (aCons (oS 6) (aCons (oS 3) (aCons (oS 4) aNil)))))) (wNot (wB (wIsi (oE (wOp2 (up2 gIx) (oS 4) (oE (wC (.int 1))))) ["list"]))))) (wsRet (wC (.bl false))) wsNil) (wsCons (wsAsg (gtTp 2 (gtsCons (gtNm 8) (gtsCons (gtNm 9) gtsNil))) (wTup (aCons (oF (wTup (aCons (oF (wBor (wOp2 (up2 gIx) (oS 4) (oE (wC (.int 0)))))) (aCons (oF (wBor (wCB (upL gList) (aCons (oE (wOp2 (up2 gIx) (oS 4) (oE (wC (.int 1))))) aNil)))) (aCons (oF (wBor (wOp2 (up2 gIx) (oS 4) (oE (wC (.int 2)))))) aNil))))) (aCons (oF (wC (.int 0))) aNil)))) (wsCons (wsEx (wAppAt 4 1 "more")) (wsCons (wsIf (wBorT (wB (wOp2 (up2 gNe) (oE (wCB (upL gRepr) (aCons (oF (wCall 1 S_quickest_short_order (aCons (oF (wMake "Search" 3 S_Search_init (aKw 2 0 [0, 1] (aCons (oF (wMake "Covers" 2 S_Covers_init (aKw 1 0 [0] (aCons (oF (wOp2 (up2 gIx) (oS 6) (oE (wC (.int 0))))) aNil) aNil))) (aCons (oF (wCB (upL gList) (aCons (oE (wOp2 (up2 gIx) (oS 6) (oE (wC (.int 1))))) aNil))) aNil)) aNil))) aNil))) aNil))) (oE (wCB (upL gRepr) (aCons (oS 8) aNil)))))) (wsRet (wC (.bl false))) wsNil) (wsCons (wsFor (iSeq (wOp2 (up2 gIx) (oS 8) (oE (wC (.int 1))))) (gtNm 5) (wsSet 9 (wFr (wOp2 (up2 gAdd) (oS 9) (oE (wOp2 (up2 gIx) (oF (wCall 2 S__law_job (aCons (oS 6) (aCons (oS 5) aNil)))) (oE (wC (.int 1))))))))) (wsCons (wsIf (wBorT (wOr (wB (wOp2 (up2 gGt) (oS 9) (oE (wOp2 (up2 gIx) (oS 8) (oE (wC (.int 0))))))) (wB (wOp2 (up2 gNe) (oE (wLc (iSeq (wCall 1 S__law_lefts (aCons (oS 6) aNil))) (gtNm 5) (wBorT (wAnd (wB (wOp2 (up2 gNe) (oS 5) (oE (wOp2 (up2 gIx) (oS 8) (oE (wC (.int 2))))))) (wB (wOp2 (up2 gNotIn) (oS 5) (oE (wOp2 (up2 gIx) (oS 8) (oE (wC (.int 1))))))))) (wFr (wVar 5)) [5])) (oE (wLst aNil)))))) (wsRet (wC (.bl false))) wsNil) (wsRet (wFr (wCall 5 S__law_tuples_right (aCons (oS 0) (aCons (oS 2) (aCons (oS 6) (aCons (oS 3) (aCons (oS 8) aNil))))))))))))))))))
def B0__law_search_right : WS := (wsSet 9 (wFr (wOp2 (up2 gAdd) (oS 9) (oE (wOp2 (up2 gIx) (oF (wCall 2 S__law_job (aCons (oS 6) (aCons (oS 5) aNil)))) (oE (wC (.int 1))))))))
@[simp] theorem Nl__law_search_right : N__law_search_right.length = 11 := rfl
theorem s__law_search_right : ∀ ns k x, S__law_search_right ns k x → ns.length = 2 → W__law_search_right (startE N__law_search_right ns) (endsOf 2 k) (xOf 2 x) := by
  rintro _ k x ⟨b, g, rfl, h⟩ _
  have big := big_sizeLine
  have z0 : 0 ≤ sizeLine := by omega
  have z2 : 2 ≤ sizeLine := by omega
  have z3 : 3 ≤ sizeLine := by omega
  simp -implicitDefEqProofs [W__law_search_right]
  refine x_search fun b1 cs js hw => ?_
  simp -implicitDefEqProofs []
  refine x_take (by omega) (by omega) fun r b2 h0 h1 => ?_
  obtain ⟨bn, hbn⟩ : ∃ bn : Bool, gEq (.int r) (.int 1) = some (.d (.bl bn)) := ⟨decide (r = 1), by simp [gEq, eqD]⟩
  have ht : fTuple [.d (.lst (js.map jD))] = some (.tup ((js.map jD).map N.d)) := rfl
  simp -implicitDefEqProofs [hbn, z2, ht]
  refine y_Covers_init hw.cok ?_
  simp -implicitDefEqProofs []
  refine y_Search_init (b := true) hw ?_
  simp -implicitDefEqProofs []
  refine x_lefts hw ?_
  simp -implicitDefEqProofs []
  have hcl := choO_len hw
  have hqo := quickO_least cs js
  have hnd : ∀ o, (D.lst (nD (need cs js o))) = sqD false (need cs js o) := fun _ => rfl
  refine lcL_mapX (E0 := [some (boxN b2), some (.d (.bl g)), some (.d (seaD cs js)), none, none, none, some (.d (worD cs js)), some (.d (.bl bn)), none, none, none]) oD (fun o => .d (.int (minsO cs js o))) (fun o ho kk hk => ?_) (by omega) rfl fun e he => ?_
  · simp -implicitDefEqProofs []
    refine x_needed hw ?_
    simp -implicitDefEqProofs []
    refine x_minutes (b := false) (need_lt o) (by have := need_len hw o; omega) ?_
    simp -implicitDefEqProofs []
    exact hk _ rfl
  · obtain ⟨y, rfl⟩ := wipe1 he
    have hmn : gMin [.lst ((choO cs js).map fun o => .int (minsO cs js o))] = some (.d (.int (minsO cs js (quickO cs js)))) := by
      show (allI ((choO cs js).map fun o => .int (minsO cs js o))).bind _ = _
      rw [allI_mapf, Option.bind_some, least_eq]
      rfl
    have hv1 : N.views ((choO cs js).map fun o => N.d (.int (minsO cs js o))) = (choO cs js).map fun o => D.int (minsO cs js o) := views_mapF _ _
    have hv2 : allD ((choO cs js).map fun o => N.d (.int (minsO cs js o))) = some ((choO cs js).map fun o => D.int (minsO cs js o)) := views_mapD _ _
    simp -implicitDefEqProofs [hv1, hv2, hmn]
    split
    all_goals
      refine x_quickest hw ?_
      have hlo := hqo.1
      have hll := need_len hw (quickO cs js)
      have hjo : jvOk (cs.length + js.length) (some (false, need cs js (quickO cs js))) := jv_ok (o := quickO cs js) hw false (fun _ h => h) (by omega)
      simp -implicitDefEqProofs [foundN]
      refine x_lquick (z := some (.int (minsO cs js (quickO cs js)), some (false, need cs js (quickO cs js)), quickO cs js)) hw ⟨rfl, rfl, hjo⟩ (fun _ _ _ e => by cases e; exact cho_up hw hlo) ?_
      rw [judge_eq hw, quick_true hw]
      have i0 : ∀ a b c : D, gIx (.tup [a, b, c]) (.int 0) = some (.d a) := fun _ _ _ => rfl
      have i1 : ∀ a b c : D, gIx (.tup [a, b, c]) (.int 1) = some (.d b) := fun _ _ _ => rfl
      have i2 : ∀ a b c : D, gIx (.tup [a, b, c]) (.int 2) = some (.d c) := fun _ _ _ => rfl
      have gl : ∀ l, gList [.lst l] = some (.lst (l.map N.d)) := fun _ => rfl
      simp -implicitDefEqProofs [foundN, i0, i1, i2, isaB, isaOk, gl, z2, z3, wAppAt]
      refine ⟨by omega, ?_⟩
      refine y_Covers_init hw.cok ?_
      have gj : gList [.lst (js.map jD)] = some (.lst ((js.map jD).map N.d)) := rfl
      simp -implicitDefEqProofs [foundN, gj]
      refine y_Search_init (b := false) hw ?_
      simp -implicitDefEqProofs [foundN]
      refine x_quickest hw ?_
      obtain ⟨_, _, _, rs, hrs⟩ := Gd.tri (q := some (false, need cs js (quickO cs js))) hw rfl (Rp.int (i := minsO cs js (quickO cs js)) (by have := mins_le hw hll; unfold minsO; omega) (by have := mins_le hw hll; unfold minsO; omega)) hjo (cho_up hw hlo)
      have hrs : gRepr [.tup [.int (minsO cs js (quickO cs js)), .lst (nD (need cs js (quickO cs js))), oD (quickO cs js)]] = some (.d (.str rs)) := hrs
      have gn : gNe (.str rs) (.str rs) = some (.d (.bl false)) := by rw [gNe_str]; simp
      simp -implicitDefEqProofs [foundN, hrs, gn, i1, seq_lst]
      refine forL_rec iD (fun dn r e => (∃ u5 u10, e = [some (boxN b2), some (.d (.bl g)), some (.d (seaD cs js)), some (.d (.int (minsO cs js (quickO cs js)))),
        some (.tup [.d (.int (minsO cs js (quickO cs js))), .lst ((nD (need cs js (quickO cs js))).map N.d ++ [.d (.str "more")]), .d (oD (quickO cs js))]), u5, some (.d (worD cs js)), some (.d (.bl bn)),
        some (.d (.tup [.int (minsO cs js (quickO cs js)), .lst (nD (need cs js (quickO cs js))), oD (quickO cs js)])), some (.d (.int (sumM cs js dn))), u10]) ∧ dn ++ r = need cs js (quickO cs js)) ?_ ?_ (need cs js (quickO cs js)) [] _ ⟨⟨_, _, rfl⟩, rfl⟩
      · rintro dn j r _ kk ⟨⟨u5, u10, rfl⟩, hd⟩ hk
        have hj := need_lt (cs := cs) (js := js) (quickO cs js) j (by rw [← hd]; simp)
        obtain ⟨row, hr, _, hmj⟩ := row_get hj
        simp -implicitDefEqProofs []
        refine x_job hj fun r' hr' => ?_
        rw [hr] at hr'
        cases hr'
        simp -implicitDefEqProofs [gAdd]
        refine hk _ ⟨⟨some (.d (iD j)), u10, by rw [sumM_snoc, hmj]⟩, by rw [← hd]; simp⟩
      · rintro dn _ ⟨⟨u5, u10, rfl⟩, hd⟩
        rw [List.append_nil] at hd
        subst hd
        have gg : gGt (.int (sumM cs js (need cs js (quickO cs js)))) (.int (minsO cs js (quickO cs js))) = some (.d (.bl false)) := by simp [gGt, minsO]
        simp -implicitDefEqProofs [gg, i0]
        refine x_lefts hw ?_
        simp -implicitDefEqProofs []
        refine lcL_filX oD (outB cs js (quickO cs js)) (fun o => .d (oD o)) (fun o ho kk hk => ?_) (by omega) rfl fun e he => ?_
        · have g1 : gNe (oD o) (oD (quickO cs js)) = some (.d (.bl (!decide (o = quickO cs js)))) := by simp [gNe, eqD_oO]
          have g2 : gNotIn (oD o) (.lst (nD (need cs js (quickO cs js)))) = some (.d (.bl (!decide (o ∈ (need cs js (quickO cs js)).map some)))) := by
            have := inD_oD o false (need cs js (quickO cs js))
            simp only [sqD, Bool.false_eq_true, if_false] at this
            rw [gNotIn, this]
            rfl
          by_cases c1 : o = quickO cs js
          · have g1' : gNe (oD o) (oD (quickO cs js)) = some (.d (.bl false)) := by rw [g1, decide_eq_true c1]; rfl
            simp -implicitDefEqProofs [g1', i2]
            rw [show outB cs js (quickO cs js) o = false by unfold outB; simp [c1]] at hk
            exact hk _ rfl
          · by_cases c2 : o ∈ (need cs js (quickO cs js)).map some
            · simp only [c2, decide_true, Bool.not_true] at g2
              simp -implicitDefEqProofs [g1, c1, i2, i1, g2]
              rw [show outB cs js (quickO cs js) o = false by unfold outB; simp only [c2]; simp] at hk
              exact hk _ rfl
            · simp only [c2, decide_false, Bool.not_false] at g2
              simp -implicitDefEqProofs [g1, c1, i2, i1, g2]
              rw [show outB cs js (quickO cs js) o = true by unfold outB; rw [decide_eq_true (show o ≠ quickO cs js from c1), decide_eq_true c2]; rfl] at hk
              exact hk _ rfl
        · obtain ⟨y5, rfl⟩ := wipe1 he
          have g3 : gNe (.lst []) (.lst []) = some (.d (.bl false)) := by have := eqD_os0 []; simp at this; simp [gNe, this]
          have hf := left_none hlo
          simp -implicitDefEqProofs [hf, g3]
          refine x_tuples hw fun b5 => ?_
          simp -implicitDefEqProofs []
          exact h b5

def N_law : List Str := ["script", "k", "box", "turn"]
def W_law : WS := (wsCons (wsFor (iRg1 (aCons (oF (wCB (upL gMax) (aCons (oE (wC (.int 2))) (aCons (oE (wCB (upL gMin) (aCons (oE (wC (.int 5))) (aCons (oE (wCB (upL gLen) (aCons (oS 0) aNil))) aNil)))) aNil)))) aNil)) (gtNm 1) (wsCons (wsSet 2 (wCall 1 S__law_box (aCons (oF (wCall 2 S__law_cell (aCons (oS 0) (aCons (oS 1) aNil)))) aNil))) (wsCons (wsFor (iRg1 (aCons (oF (wC (.int 3))) aNil)) (gtNm 3) (wsIf (wNot (wB (wCall 2 S__law_search_right (aCons (oS 2) (aCons (oE (wC (.bl false))) aNil))))) (wsRet (wC (.bl false))) wsNil)) (wsIf (wAnd (wB (wOp2 (up2 gEq) (oS 1) (oE (wC (.int 0))))) (wNot (wB (wCall 2 S__law_search_right (aCons (oS 2) (aCons (oE (wC (.bl true))) aNil)))))) (wsRet (wC (.bl false))) wsNil)))) (wsRet (wC (.bl true))))
def B0_law : WS := (wsCons (wsSet 2 (wCall 1 S__law_box (aCons (oF (wCall 2 S__law_cell (aCons (oS 0) (aCons (oS 1) aNil)))) aNil))) (wsCons (wsFor (iRg1 (aCons (oF (wC (.int 3))) aNil)) (gtNm 3) (wsIf (wNot (wB (wCall 2 S__law_search_right (aCons (oS 2) (aCons (oE (wC (.bl false))) aNil))))) (wsRet (wC (.bl false))) wsNil)) (wsIf (wAnd (wB (wOp2 (up2 gEq) (oS 1) (oE (wC (.int 0))))) (wNot (wB (wCall 2 S__law_search_right (aCons (oS 2) (aCons (oE (wC (.bl true))) aNil)))))) (wsRet (wC (.bl false))) wsNil)))
def B1_law : WS := (wsIf (wNot (wB (wCall 2 S__law_search_right (aCons (oS 2) (aCons (oE (wC (.bl false))) aNil))))) (wsRet (wC (.bl false))) wsNil)
@[simp] theorem Nl_law : N_law.length = 4 := rfl
/-! ### the law -/
def S_law : FS := fun ns k _ => ∃ sc : List Int, ns = [.d (.scr sc)] ∧ sc.length ≤ 63 ∧ k (.d (.bl true)) [some (.d (.scr sc))]
theorem s_law : ∀ ns k x, S_law ns k x → ns.length = 1 → W_law (startE N_law ns) (endsOf 1 k) (xOf 1 x) := by
  rintro _ k x ⟨sc, rfl, hsc, h⟩ _
  have big := big_sizeLine
  have hl : gLen [.scr sc] = some (.d (.int sc.length)) := rfl
  have hm : ∀ a : Int, gMin [.int 5, .int a] = some (.d (.int (if a < 5 then a else 5))) := fun _ => rfl
  have hx : ∀ a : Int, gMax [.int 2, .int a] = some (.d (.int (if a > 2 then a else 2))) := fun _ => rfl
  obtain ⟨n, hn, hn5⟩ : ∃ n : Nat, (if (if (sc.length : Int) < 5 then (sc.length : Int) else 5) > 2 then (if (sc.length : Int) < 5 then (sc.length : Int) else 5) else 2) = (n : Int) ∧ n ≤ 5 := by
    by_cases c : (sc.length : Int) < 5
    · rw [if_pos c]
      by_cases c2 : (sc.length : Int) > 2
      · exact ⟨sc.length, by rw [if_pos c2], by omega⟩
      · exact ⟨2, by rw [if_neg c2]; rfl, by omega⟩
    · rw [if_neg c]
      exact ⟨5, rfl, by omega⟩
  have rn : (-4611686018427387904 : Int) ≤ (n : Int) ∧ (n : Int) < 4611686018427387904 := by omega
  have e3 : rangeD 0 3 = (List.range 3).map iD := rfl
  have gn : gEq (.int 0) (.int 0) = some (.d (.bl true)) := by simp [gEq, eqD]
  simp -implicitDefEqProofs [W_law, hl, hm, hx]
  rw [hn]
  simp -implicitDefEqProofs [rn, rangeD_zero]
  refine forL_rec iD (fun tn r e => (∃ u1 u2 u3, e = [some (.d (.scr sc)), u1, u2, u3]) ∧ tn ++ r = List.range n) ?_ ?_ (List.range n) [] _ ⟨⟨_, _, _, rfl⟩, rfl⟩
  · rintro tn t r _ kk ⟨⟨u1, u2, u3, rfl⟩, hd⟩ hk
    have ht : t < n := by
      have : t ∈ List.range n := by rw [← hd]; simp
      simpa using this
    simp -implicitDefEqProofs []
    refine x_cell (by omega) fun g => ?_
    simp -implicitDefEqProofs []
    refine x_box fun b => ?_
    simp -implicitDefEqProofs [e3]
    refine forL_each (fun e => ∃ b u3, e = [some (.d (.scr sc)), some (.d (iD t)), some (boxN b), u3]) ⟨b, u3, rfl⟩ ?_ ?_
    · rintro d hd2 _ k2 ⟨b, u3, rfl⟩ hk2
      simp -implicitDefEqProofs []
      refine x_sright fun b2 => ?_
      simp -implicitDefEqProofs []
      exact hk2 _ ⟨b2, _, rfl⟩
    · rintro _ ⟨b, u3, rfl⟩
      have hd' : (tn ++ [t]) ++ r = List.range n := by rw [← hd]; simp
      have gq : gEq (iD t) (.int 0) = some (.d (.bl (decide (t = 0)))) := by
        have := eqD_iD t 0
        rw [gEq, show (D.int 0) = iD 0 from rfl, this]
        rfl
      simp -implicitDefEqProofs [gq]
      by_cases c : t = 0
      · rw [if_pos c]
        refine x_sright fun b2 => ?_
        simp -implicitDefEqProofs []
        exact hk _ ⟨⟨_, _, _, rfl⟩, hd'⟩
      · rw [if_neg c]
        exact hk _ ⟨⟨_, _, _, rfl⟩, hd'⟩
  · rintro tn _ ⟨⟨u1, u2, u3, rfl⟩, hd⟩
    simp -implicitDefEqProofs []
    exact h

/-! ### the text by places (printed by genhead.py) -/
def top (i : Nat) : Stmt := PySem.Challenge.pw_crownwork_k40_whole_quickest_short_order.main.body.getD i (.Pass ⟨0, 0, 0, 0⟩)
def d_is_integer : He.DefD := ⟨("is_integer", none), "is_integer", "is_integer", defArgs (top 5), defBody (top 5), defScope (top 5), [], []⟩
def d_is_positive : He.DefD := ⟨("is_positive", none), "is_positive", "is_positive", defArgs (top 6), defBody (top 6), defScope (top 6), [], []⟩
def d_is_index : He.DefD := ⟨("is_index", none), "is_index", "is_index", defArgs (top 7), defBody (top 7), defScope (top 7), [], []⟩
def d_is_list : He.DefD := ⟨("is_list", none), "is_list", "is_list", defArgs (top 8), defBody (top 8), defScope (top 8), [], []⟩
def d_is_tuple : He.DefD := ⟨("is_tuple", none), "is_tuple", "is_tuple", defArgs (top 9), defBody (top 9), defScope (top 9), [], []⟩
def d_is_inspection : He.DefD := ⟨("is_inspection", none), "is_inspection", "is_inspection", defArgs (top 11), defBody (top 11), defScope (top 11), [], []⟩
def d_above_by : He.DefD := ⟨("above_by", none), "above_by", "above_by", defArgs (top 12), defBody (top 12), defScope (top 12), [], []⟩
def d_Search_init : He.DefD := ⟨("Search", some "__init__"), "__init__", "Search.__init__", defArgs (inClass (top 13) 0), defBody (inClass (top 13) 0), defScope (inClass (top 13) 0), [], []⟩
def d_Search_eq : He.DefD := ⟨("Search", some "__eq__"), "__eq__", "Search.__eq__", defArgs (inClass (top 13) 1), defBody (inClass (top 13) 1), defScope (inClass (top 13) 1), [], []⟩
def d_Search_len : He.DefD := ⟨("Search", some "__len__"), "__len__", "Search.__len__", defArgs (inClass (top 13) 2), defBody (inClass (top 13) 2), defScope (inClass (top 13) 2), [], []⟩
def d_Search_contains : He.DefD := ⟨("Search", some "__contains__"), "__contains__", "Search.__contains__", defArgs (inClass (top 13) 3), defBody (inClass (top 13) 3), defScope (inClass (top 13) 3), [], []⟩
def d_is_beginning : He.DefD := ⟨("is_beginning", none), "is_beginning", "is_beginning", defArgs (top 14), defBody (top 14), defScope (top 14), [], []⟩
def d_inspections_in : He.DefD := ⟨("inspections_in", none), "inspections_in", "inspections_in", defArgs (top 16), defBody (top 16), defScope (top 16), [], []⟩
def d_left_out : He.DefD := ⟨("left_out", none), "left_out", "left_out", defArgs (top 17), defBody (top 17), defScope (top 17), [], []⟩
def d_jobs_without : He.DefD := ⟨("jobs_without", none), "jobs_without", "jobs_without", defArgs (top 18), defBody (top 18), defScope (top 18), [], []⟩
def d_minutes_in : He.DefD := ⟨("minutes_in", none), "minutes_in", "minutes_in", defArgs (top 19), defBody (top 19), defScope (top 19), [], []⟩
def d_is_short_order : He.DefD := ⟨("is_short_order", none), "is_short_order", "is_short_order", defArgs (top 20), defBody (top 20), defScope (top 20), [], []⟩
def d_choices : He.DefD := ⟨("choices", none), "choices", "choices", defArgs (top 21), defBody (top 21), defScope (top 21), [], []⟩
def d_quickest_short_order : He.DefD := ⟨("quickest_short_order", none), "quickest_short_order", "quickest_short_order", defArgs (top 22), defBody (top 22), defScope (top 22), [], []⟩
def d_tells_left : He.DefD := ⟨("tells_left", none), "tells_left", "tells_left", defArgs (top 23), defBody (top 23), defScope (top 23), [], []⟩
def d_is_quickest_short_order : He.DefD := ⟨("is_quickest_short_order", none), "is_quickest_short_order", "is_quickest_short_order", defArgs (top 24), defBody (top 24), defScope (top 24), [], []⟩
def d_is_row : He.DefD := ⟨("is_row", none), "is_row", "is_row", defArgs (top 26), defBody (top 26), defScope (top 26), [], []⟩
def d_are_rows : He.DefD := ⟨("are_rows", none), "are_rows", "are_rows", defArgs (top 27), defBody (top 27), defScope (top 27), [], []⟩
def d_paths_by : He.DefD := ⟨("paths_by", none), "paths_by", "paths_by", defArgs (top 28), defBody (top 28), defScope (top 28), [], []⟩
def d_Covers_init : He.DefD := ⟨("Covers", some "__init__"), "__init__", "Covers.__init__", defArgs (inClass (top 29) 0), defBody (inClass (top 29) 0), defScope (inClass (top 29) 0), [], []⟩
def d_Covers_eq : He.DefD := ⟨("Covers", some "__eq__"), "__eq__", "Covers.__eq__", defArgs (inClass (top 29) 1), defBody (inClass (top 29) 1), defScope (inClass (top 29) 1), [], []⟩
def d_Covers_len : He.DefD := ⟨("Covers", some "__len__"), "__len__", "Covers.__len__", defArgs (inClass (top 29) 2), defBody (inClass (top 29) 2), defScope (inClass (top 29) 2), [], []⟩
def d_Covers_contains : He.DefD := ⟨("Covers", some "__contains__"), "__contains__", "Covers.__contains__", defArgs (inClass (top 29) 3), defBody (inClass (top 29) 3), defScope (inClass (top 29) 3), [], []⟩
def d__law_cell : He.DefD := ⟨("_law_cell", none), "_law_cell", "_law_cell", defArgs (top 31), defBody (top 31), defScope (top 31), [], []⟩
def d__law_box : He.DefD := ⟨("_law_box", none), "_law_box", "_law_box", defArgs (top 32), defBody (top 32), defScope (top 32), [], []⟩
def d__law_take : He.DefD := ⟨("_law_take", none), "_law_take", "_law_take", defArgs (top 33), defBody (top 33), defScope (top 33), [], []⟩
def d__law_mixed : He.DefD := ⟨("_law_mixed", none), "_law_mixed", "_law_mixed", defArgs (top 34), defBody (top 34), defScope (top 34), [], []⟩
def d__law_search : He.DefD := ⟨("_law_search", none), "_law_search", "_law_search", defArgs (top 35), defBody (top 35), defScope (top 35), [], []⟩
def d__law_above : He.DefD := ⟨("_law_above", none), "_law_above", "_law_above", defArgs (top 36), defBody (top 36), defScope (top 36), [], []⟩
def d__law_needed : He.DefD := ⟨("_law_needed", none), "_law_needed", "_law_needed", defArgs (top 37), defBody (top 37), defScope (top 37), [], []⟩
def d__law_lefts : He.DefD := ⟨("_law_lefts", none), "_law_lefts", "_law_lefts", defArgs (top 38), defBody (top 38), defScope (top 38), [], []⟩
def d__law_job : He.DefD := ⟨("_law_job", none), "_law_job", "_law_job", defArgs (top 39), defBody (top 39), defScope (top 39), [], []⟩
def d__law_is_number : He.DefD := ⟨("_law_is_number", none), "_law_is_number", "_law_is_number", defArgs (top 40), defBody (top 40), defScope (top 40), [], []⟩
def d__law_left_out : He.DefD := ⟨("_law_left_out", none), "_law_left_out", "_law_left_out", defArgs (top 41), defBody (top 41), defScope (top 41), [], []⟩
def d__law_short_cost : He.DefD := ⟨("_law_short_cost", none), "_law_short_cost", "_law_short_cost", defArgs (top 42), defBody (top 42), defScope (top 42), [], []⟩
def d__law_drawn : He.DefD := ⟨("_law_drawn", none), "_law_drawn", "_law_drawn", defArgs (top 43), defBody (top 43), defScope (top 43), [], []⟩
def d__law_minutes : He.DefD := ⟨("_law_minutes", none), "_law_minutes", "_law_minutes", defArgs (top 44), defBody (top 44), defScope (top 44), [], []⟩
def d__law_is_quickest : He.DefD := ⟨("_law_is_quickest", none), "_law_is_quickest", "_law_is_quickest", defArgs (top 45), defBody (top 45), defScope (top 45), [], []⟩
def d__law_tuples_right : He.DefD := ⟨("_law_tuples_right", none), "_law_tuples_right", "_law_tuples_right", defArgs (top 46), defBody (top 46), defScope (top 46), [], []⟩
def d__law_search_right : He.DefD := ⟨("_law_search_right", none), "_law_search_right", "_law_search_right", defArgs (top 47), defBody (top 47), defScope (top 47), [], []⟩
def d_law : He.DefD := ⟨("law", none), "law", "law", defArgs (top 48), defBody (top 48), defScope (top 48), [], []⟩
def fn0 : List He.DefD := [d_is_integer, d_is_positive, d_is_index, d_is_list, d_is_tuple, d_is_inspection, d_above_by, d_Search_init, d_Search_eq, d_Search_len, d_Search_contains, d_is_beginning, d_inspections_in, d_left_out, d_jobs_without, d_minutes_in, d_is_short_order, d_choices, d_quickest_short_order, d_tells_left, d_is_quickest_short_order, d_is_row, d_are_rows, d_paths_by, d_Covers_init, d_Covers_eq, d_Covers_len, d_Covers_contains, d__law_cell, d__law_box]
def fn1 : List He.DefD := [d__law_take, d__law_mixed, d__law_search, d__law_above, d__law_needed, d__law_lefts, d__law_job, d__law_is_number, d__law_left_out, d__law_short_cost, d__law_drawn, d__law_minutes, d__law_is_quickest, d__law_tuples_right, d__law_search_right, d_law]
def fn : List He.DefD := fn0 ++ fn1
def fa0 : List He.Fa := [.glo "CrownError", .glo "InvalidCovers", .glo "InvalidInspections", .glo "is_integer", .glo "is_positive", .glo "is_index", .glo "is_list", .glo "is_tuple", .glo "is_inspection", .glo "above_by", .glo "Search", .cls "Search", .mkr "Search", .meth "Search" "__init__", .meth "Search" "__eq__", .meth "Search" "__len__", .meth "Search" "__contains__", .noat "Search" "above", .noat "Search" "covers", .noat "Search" "inspections", .noat "Search" "rows", .glo "is_beginning", .glo "inspections_in", .glo "left_out", .glo "jobs_without", .glo "minutes_in", .glo "is_short_order", .glo "choices", .glo "quickest_short_order", .glo "tells_left"]
def fa1 : List He.Fa := [.glo "is_quickest_short_order", .glo "is_row", .glo "are_rows", .glo "paths_by", .glo "Covers", .cls "Covers", .mkr "Covers", .meth "Covers" "__init__", .meth "Covers" "__eq__", .meth "Covers" "__len__", .meth "Covers" "__contains__", .noat "Covers" "paths", .noat "Covers" "rows", .glo "_law_cell", .glo "_law_box", .glo "_law_take", .glo "_law_mixed", .glo "_law_search", .glo "_law_above", .glo "_law_needed", .glo "_law_lefts", .glo "_law_job", .glo "_law_is_number", .glo "_law_left_out", .glo "_law_short_cost", .glo "_law_drawn", .glo "_law_minutes", .glo "_law_is_quickest", .glo "_law_tuples_right", .glo "_law_search_right"]
def fa2 : List He.Fa := [.glo "law", .free "ValueError", .free "abs", .free "all", .free "bool", .free "enumerate", .free "int", .free "isinstance", .free "len", .free "list", .free "max", .free "min", .free "range", .free "repr", .free "set", .free "sorted", .free "sum", .free "tuple"]
def fa : List He.Fa := fa0 ++ fa1 ++ fa2
def loose0 : List Str := ["CrownError", "InvalidCovers", "InvalidInspections", "is_integer", "is_positive", "is_index", "is_list", "is_tuple", "is_inspection", "above_by", "Search", "is_beginning", "inspections_in", "left_out", "jobs_without", "minutes_in", "is_short_order", "choices", "quickest_short_order", "tells_left", "is_quickest_short_order", "is_row", "are_rows", "paths_by", "Covers", "_law_cell", "_law_box", "_law_take", "_law_mixed", "_law_search"]
def loose1 : List Str := ["_law_above", "_law_needed", "_law_lefts", "_law_job", "_law_is_number", "_law_left_out", "_law_short_cost", "_law_drawn", "_law_minutes", "_law_is_quickest", "_law_tuples_right", "_law_search_right"]
def loose : List Str := loose0 ++ loose1
def lawIx : Nat := 48
def steps : Nat := 60000

theorem cr_listA {X : Cx} : CallR X (.type "list") (rListOf X.K) := call_list_of
section
variable {P : Program} {w : World} {K : PySem.W.Frag} {mg : Str → Option Value} {base : Heap}
theorem p_is_integer  (f_bool : mg "bool" = none) (f_int : mg "int" = none) (f_isinstance : mg "isinstance" = none) (cdv : Value) (A : Around) (outer : List PySem.Env) (s : Shared) (H : Hp) (E : XK) (hr : RoomG 0 (A.deeper (envOfC d_is_integer.qual d_is_integer.scope s.heap.objs.size (He.fAd K d_is_integer.at_) cdv))) : PSsD (cxd P w K mg base d_is_integer N_is_integer cdv A outer s H E) (WW E) (List.range 1) d_is_integer.body (W_is_integer) := by
  have nd : N_is_integer.Nodup := by decide +kernel
  exact (pss_done (psd_ret (pd_bor (pd_and (pd_isi1 rfl f_isinstance (po_s 0) (pe_tyn rfl f_int PyProof.Rows.boot_int)) (pd_one (pd_not (po_e (pd_isi1 rfl f_isinstance (po_s 0) (pe_tyn rfl f_bool PyProof.Rows.boot_bool)))))))))
theorem p_is_positive (k_is_integer : Ok P w K mg base d_is_integer ["value"] 1 S_is_integer) (g_is_integer : mg "is_integer" = some (.ref (He.ga K "is_integer"))) (cdv : Value) (A : Around) (outer : List PySem.Env) (s : Shared) (H : Hp) (E : XK) (hr : RoomG 1 (A.deeper (envOfC d_is_positive.qual d_is_positive.scope s.heap.objs.size (He.fAd K d_is_positive.at_) cdv))) : PSsD (cxd P w K mg base d_is_positive N_is_positive cdv A outer s H E) (WW E) (List.range 1) d_is_positive.body (W_is_positive) := by
  have nd : N_is_positive.Nodup := by decide +kernel
  exact (pss_done (psd_ret (pd_bor (pd_and (pd_f k_is_integer (hr.mono (by decide)) rfl g_is_integer tk_d (pa_cons (po_s 0) pa_nil)) (pd_one (pd_ge (po_s 0) (po_e pd_int)))))))
theorem p_is_index (k_is_integer : Ok P w K mg base d_is_integer ["value"] 1 S_is_integer) (g_is_integer : mg "is_integer" = some (.ref (He.ga K "is_integer"))) (cdv : Value) (A : Around) (outer : List PySem.Env) (s : Shared) (H : Hp) (E : XK) (hr : RoomG 1 (A.deeper (envOfC d_is_index.qual d_is_index.scope s.heap.objs.size (He.fAd K d_is_index.at_) cdv))) : PSsD (cxd P w K mg base d_is_index N_is_index cdv A outer s H E) (WW E) (List.range 2) d_is_index.body (W_is_index) := by
  have nd : N_is_index.Nodup := by decide +kernel
  exact (pss_done (psd_ret (pd_bor (pd_and (pd_f k_is_integer (hr.mono (by decide)) rfl g_is_integer tk_d (pa_cons (po_s 0) pa_nil)) (pd_one (pd_chain op_leAll op_ltAll sd_le.snd sd_lt.snd (po_e pd_int) (po_s 0) (po_s 1)))))))
theorem p_is_list  (f_isinstance : mg "isinstance" = none) (f_list : mg "list" = none) (f_tuple : mg "tuple" = none) (cdv : Value) (A : Around) (outer : List PySem.Env) (s : Shared) (H : Hp) (E : XK) (hr : RoomG 0 (A.deeper (envOfC d_is_list.qual d_is_list.scope s.heap.objs.size (He.fAd K d_is_list.at_) cdv))) : PSsD (cxd P w K mg base d_is_list N_is_list cdv A outer s H E) (WW E) (List.range 1) d_is_list.body (W_is_list) := by
  have nd : N_is_list.Nodup := by decide +kernel
  exact (pss_done (psd_ret (pd_bor (pd_isi2 rfl f_isinstance (po_s 0) (pe_tyn rfl f_list PyProof.Rows.boot_list) (pe_tyn rfl f_tuple PyProof.Rows.boot_tuple)))))
theorem p_is_tuple  (f_isinstance : mg "isinstance" = none) (f_len : mg "len" = none) (f_tuple : mg "tuple" = none) (cdv : Value) (A : Around) (outer : List PySem.Env) (s : Shared) (H : Hp) (E : XK) (hr : RoomG 0 (A.deeper (envOfC d_is_tuple.qual d_is_tuple.scope s.heap.objs.size (He.fAd K d_is_tuple.at_) cdv))) : PSsD (cxd P w K mg base d_is_tuple N_is_tuple cdv A outer s H E) (WW E) (List.range 2) d_is_tuple.body (W_is_tuple) := by
  have nd : N_is_tuple.Nodup := by decide +kernel
  have hu64 := hr.r.units
  exact (pss_done (psd_ret (pd_bor (pd_and (pd_isi1 rfl f_isinstance (po_s 0) (pe_tyn rfl f_tuple PyProof.Rows.boot_tuple)) (pd_one (pd_eq hu64 (po_e (pd_b cr_len sd_len.snd rfl f_len PySem.boot_len (pa_cons (po_s 0) pa_nil))) (po_s 1)))))))
theorem p_is_inspection (k_is_tuple : Ok P w K mg base d_is_tuple ["value", "many"] 1 S_is_tuple) (k_is_index : Ok P w K mg base d_is_index ["value", "many"] 2 S_is_index) (k_is_positive : Ok P w K mg base d_is_positive ["value"] 2 S_is_positive) (g_is_index : mg "is_index" = some (.ref (He.ga K "is_index"))) (g_is_positive : mg "is_positive" = some (.ref (He.ga K "is_positive"))) (g_is_tuple : mg "is_tuple" = some (.ref (He.ga K "is_tuple"))) (cdv : Value) (A : Around) (outer : List PySem.Env) (s : Shared) (H : Hp) (E : XK) (hr : RoomG 2 (A.deeper (envOfC d_is_inspection.qual d_is_inspection.scope s.heap.objs.size (He.fAd K d_is_inspection.at_) cdv))) : PSsD (cxd P w K mg base d_is_inspection N_is_inspection cdv A outer s H E) (WW E) (List.range 2) d_is_inspection.body (W_is_inspection) := by
  have nd : N_is_inspection.Nodup := by decide +kernel
  exact (pss_dcons (psd_if (pt_bor (pt_nt (pt_val (pd_f k_is_tuple (hr.mono (by decide)) rfl g_is_tuple tk_d (pa_cons (po_s 0) (pa_cons (po_e pd_int) pa_nil)))))) (pss_done (psd_ret pd_bl)) pss_dnil) (pss_dcons (psd_asg (ch := [2, 3, 4]) (pgd_tup rfl (pgsd_cons (pgd_name nd rfl (by first | exact Or.inl rfl | exact Or.inr rfl) (by decide)) (pgsd_cons (pgd_name nd rfl (by first | exact Or.inl rfl | exact Or.inr rfl) (by decide)) (pgsd_cons (pgd_name nd rfl (by first | exact Or.inl rfl | exact Or.inr rfl) (by decide)) pgsd_nil)))) (pd_var 0)) (pss_done (psd_ret (pd_bor (pd_and (pd_or (pd_is (po_s 2) (po_e pd_non)) (pd_one (pd_f k_is_index (hr.mono (by decide)) rfl g_is_index tk_d (pa_cons (po_s 2) (pa_cons (po_s 1) pa_nil))))) (pd_and (pd_f k_is_positive (hr.mono (by decide)) rfl g_is_positive tk_d (pa_cons (po_s 3) pa_nil)) (pd_one (pd_f k_is_positive (hr.mono (by decide)) rfl g_is_positive tk_d (pa_cons (po_s 4) pa_nil))))))))))
theorem p_above_by  (f_tuple : mg "tuple" = none) (cdv : Value) (A : Around) (outer : List PySem.Env) (s : Shared) (H : Hp) (E : XK) (hr : RoomG 0 (A.deeper (envOfC d_above_by.qual d_above_by.scope s.heap.objs.size (He.fAd K d_above_by.at_) cdv))) : PSsD (cxd P w K mg base d_above_by N_above_by cdv A outer s H E) (WW E) (List.range 1) d_above_by.body (W_above_by) := by
  have nd : N_above_by.Nodup := by decide +kernel
  exact (pss_dcons (psd_set nd (pd_lst pa_nil)) (pss_dcons (psd_for (ch := [2, 3, 3]) (passes_of rfl) rfl (pid_seq (pd_var 0)) (pgd_tup rfl (pgsd_cons (pgd_name nd rfl (by first | exact Or.inl rfl | exact Or.inr rfl) (by decide)) (pgsd_cons (pgd_name nd rfl (by first | exact Or.inl rfl | exact Or.inr rfl) (by decide)) (pgsd_cons (pgd_name nd rfl (by first | exact Or.inl rfl | exact Or.inr rfl) (by decide)) pgsd_nil)))) (pss_done (psd_expr (pd_app 1 (pd_fr (pd_if (pt_bor (pt_is (po_s 2) (po_e pd_non))) (pd_tup pa_nil) (pd_tup (pa_dstar (pd_sub' (po_s 1) (po_s 2)) (pa_cons (po_f (pd_var 2)) pa_nil))))))))) (pss_done (psd_ret (pd_fr (pd_ty call_tuple_of sd_tuple rfl f_tuple PyProof.Rows.boot_tuple (pa_cons (po_s 1) pa_nil)))))))
theorem p_is_row (k_is_tuple : Ok P w K mg base d_is_tuple ["value", "many"] 1 S_is_tuple) (k_is_index : Ok P w K mg base d_is_index ["value", "many"] 2 S_is_index) (k_is_positive : Ok P w K mg base d_is_positive ["value"] 2 S_is_positive) (g_is_index : mg "is_index" = some (.ref (He.ga K "is_index"))) (g_is_positive : mg "is_positive" = some (.ref (He.ga K "is_positive"))) (g_is_tuple : mg "is_tuple" = some (.ref (He.ga K "is_tuple"))) (cdv : Value) (A : Around) (outer : List PySem.Env) (s : Shared) (H : Hp) (E : XK) (hr : RoomG 2 (A.deeper (envOfC d_is_row.qual d_is_row.scope s.heap.objs.size (He.fAd K d_is_row.at_) cdv))) : PSsD (cxd P w K mg base d_is_row N_is_row cdv A outer s H E) (WW E) (List.range 2) d_is_row.body (W_is_row) := by
  have nd : N_is_row.Nodup := by decide +kernel
  exact (pss_dcons (psd_if (pt_bor (pt_nt (pt_val (pd_f k_is_tuple (hr.mono (by decide)) rfl g_is_tuple tk_d (pa_cons (po_s 0) (pa_cons (po_e pd_int) pa_nil)))))) (pss_done (psd_ret pd_bl)) pss_dnil) (pss_dcons (psd_asg (ch := [2, 3]) (pgd_tup rfl (pgsd_cons (pgd_name nd rfl (by first | exact Or.inl rfl | exact Or.inr rfl) (by decide)) (pgsd_cons (pgd_name nd rfl (by first | exact Or.inl rfl | exact Or.inr rfl) (by decide)) pgsd_nil))) (pd_var 0)) (pss_done (psd_ret (pd_bor (pd_and (pd_or (pd_is (po_s 2) (po_e pd_non)) (pd_one (pd_f k_is_index (hr.mono (by decide)) rfl g_is_index tk_d (pa_cons (po_s 2) (pa_cons (po_s 1) pa_nil))))) (pd_one (pd_f k_is_positive (hr.mono (by decide)) rfl g_is_positive tk_d (pa_cons (po_s 3) pa_nil)))))))))
theorem p_are_rows (k_is_list : Ok P w K mg base d_is_list ["value"] 1 S_is_list) (k_is_row : Ok P w K mg base d_is_row ["value", "number"] 3 S_is_row) (f_all : mg "all" = none) (f_enumerate : mg "enumerate" = none) (g_is_list : mg "is_list" = some (.ref (He.ga K "is_list"))) (g_is_row : mg "is_row" = some (.ref (He.ga K "is_row"))) (cdv : Value) (A : Around) (outer : List PySem.Env) (s : Shared) (H : Hp) (E : XK) (hr : RoomG 3 (A.deeper (envOfC d_are_rows.qual d_are_rows.scope s.heap.objs.size (He.fAd K d_are_rows.at_) cdv))) : PSsD (cxd P w K mg base d_are_rows N_are_rows cdv A outer s H E) (WW E) (List.range 1) d_are_rows.body (W_are_rows) := by
  have nd : N_are_rows.Nodup := by decide +kernel
  exact (pss_done (psd_ret (pd_bor (pd_and (pd_f k_is_list (hr.mono (by decide)) rfl g_is_list tk_d (pa_cons (po_s 0) pa_nil)) (pd_one (pd_b (cr_all rfl) sd_all.snd rfl f_all PyProof.Rows.boot_all (pa_cons (po_e (pd_lc0 (ch := [1, 2]) (own := [("number", 1), ("row", 2)]) rfl nd (pid_enum rfl f_enumerate (pd_var 0)) (blkOk_by (by kernel_rfl)) (fun _ _ _ _ _ => (pgd_tup rfl (pgsd_cons (pgd_name nd rfl (by first | exact Or.inl rfl | exact Or.inr rfl) (by decide)) (pgsd_cons (pgd_name nd rfl (by first | exact Or.inl rfl | exact Or.inr rfl) (by decide)) pgsd_nil)))) (fun _ _ _ _ _ => (pd_fr (pd_f k_is_row (hr.mono (by decide)) rfl g_is_row tk_0 (pa_cons (po_s 2) (pa_cons (po_s 1) pa_nil))))))) pa_nil)))))))
theorem p_paths_by  (f_enumerate : mg "enumerate" = none) (f_tuple : mg "tuple" = none) (cdv : Value) (A : Around) (outer : List PySem.Env) (s : Shared) (H : Hp) (E : XK) (hr : RoomG 0 (A.deeper (envOfC d_paths_by.qual d_paths_by.scope s.heap.objs.size (He.fAd K d_paths_by.at_) cdv))) : PSsD (cxd P w K mg base d_paths_by N_paths_by cdv A outer s H E) (WW E) (List.range 1) d_paths_by.body (W_paths_by) := by
  have nd : N_paths_by.Nodup := by decide +kernel
  exact (pss_dcons (psd_set nd (pd_lst pa_nil)) (pss_dcons (psd_for (ch := [2, 3, 4]) (passes_of rfl) rfl (pid_enum rfl f_enumerate (pd_var 0)) (pgd_tup rfl (pgsd_cons (pgd_name nd rfl (by first | exact Or.inl rfl | exact Or.inr rfl) (by decide)) (pgsd_cons (pgd_tup rfl (pgsd_cons (pgd_name nd rfl (by first | exact Or.inl rfl | exact Or.inr rfl) (by decide)) (pgsd_cons (pgd_name nd rfl (by first | exact Or.inl rfl | exact Or.inr rfl) (by decide)) pgsd_nil))) pgsd_nil))) (pss_done (psd_expr (pd_app 1 (pd_fr (pd_if (pt_bor (pt_is (po_s 3) (po_e pd_non))) (pd_tup (pa_cons (po_f (pd_var 2)) pa_nil)) (pd_tup (pa_dstar (pd_sub' (po_s 1) (po_s 3)) (pa_cons (po_f (pd_var 2)) pa_nil))))))))) (pss_done (psd_ret (pd_fr (pd_ty call_tuple_of sd_tuple rfl f_tuple PyProof.Rows.boot_tuple (pa_cons (po_s 1) pa_nil)))))))
theorem p_Covers_init (k_are_rows : Ok P w K mg base d_are_rows ["value"] 4 S_are_rows) (k_paths_by : Ok P w K mg base d_paths_by ["rows"] 1 S_paths_by) (f_tuple : mg "tuple" = none) (g_are_rows : mg "are_rows" = some (.ref (He.ga K "are_rows"))) (g_paths_by : mg "paths_by" = some (.ref (He.ga K "paths_by"))) (hat : AtOk K at_) (cdv : Value) (A : Around) (outer : List PySem.Env) (s : Shared) (H : Hp) (E : XK) (hr : RoomG 4 (A.deeper (envOfC d_Covers_init.qual d_Covers_init.scope s.heap.objs.size (He.fAd K d_Covers_init.at_) cdv))) : PSsD (cxd P w K mg base d_Covers_init N_Covers_init cdv A outer s H E) (WW E) (List.range 2) d_Covers_init.body (W_Covers_init) := by
  have nd : N_Covers_init.Nodup := by decide +kernel
  exact (pss_dcons (psd_if (pt_bor (pt_nt (pt_val (pd_f k_are_rows (hr.mono (by decide)) rfl g_are_rows tk_d (pa_cons (po_s 1) pa_nil))))) (pss_done psd_never) pss_dnil) (pss_dcons (psd_fld 0 hat (pd_fr (pd_ty call_tuple_of sd_tuple rfl f_tuple PyProof.Rows.boot_tuple (pa_cons (po_s 1) pa_nil)))) (pss_done (psd_fld 0 hat (pd_fr (pd_f k_paths_by (hr.mono (by decide)) rfl g_paths_by tk_d (pa_cons (po_s 1) pa_nil)))))))
theorem p_Covers_len  (f_len : mg "len" = none) (hat : AtOk K at_) (cdv : Value) (A : Around) (outer : List PySem.Env) (s : Shared) (H : Hp) (E : XK) (hr : RoomG 0 (A.deeper (envOfC d_Covers_len.qual d_Covers_len.scope s.heap.objs.size (He.fAd K d_Covers_len.at_) cdv))) : PSsD (cxd P w K mg base d_Covers_len N_Covers_len cdv A outer s H E) (WW E) (List.range 1) d_Covers_len.body (W_Covers_len) := by
  have nd : N_Covers_len.Nodup := by decide +kernel
  exact (pss_done (psd_ret (pd_fr (pd_b cr_len sd_len.snd rfl f_len PySem.boot_len (pa_cons (po_e (pd_fld hat (po_s 0))) pa_nil)))))
theorem p_Search_init (k_is_list : Ok P w K mg base d_is_list ["value"] 1 S_is_list) (k_Covers_len : Ok P w K mg base d_Covers_len ["self"] 1 S_Covers_len) (k_is_inspection : Ok P w K mg base d_is_inspection ["value", "covers"] 3 S_is_inspection) (k_above_by : Ok P w K mg base d_above_by ["rows"] 1 S_above_by) (f_all : mg "all" = none) (f_len : mg "len" = none) (f_tuple : mg "tuple" = none) (g_above_by : mg "above_by" = some (.ref (He.ga K "above_by"))) (g_is_inspection : mg "is_inspection" = some (.ref (He.ga K "is_inspection"))) (g_is_list : mg "is_list" = some (.ref (He.ga K "is_list"))) (m_Covers_len : Meth K (He.ga K "Covers") "__len__" (He.fAd K d_Covers_len.at_)) (hat : AtOk K at_) (cdv : Value) (A : Around) (outer : List PySem.Env) (s : Shared) (H : Hp) (E : XK) (hr : RoomG 3 (A.deeper (envOfC d_Search_init.qual d_Search_init.scope s.heap.objs.size (He.fAd K d_Search_init.at_) cdv))) : PSsD (cxd P w K mg base d_Search_init N_Search_init cdv A outer s H E) (WW E) (List.range 3) d_Search_init.body (W_Search_init) := by
  have nd : N_Search_init.Nodup := by decide +kernel
  exact (pss_dcons (psd_if (pt_bor (pt_w (pw_or (pt_nt (pt_val (pd_f k_is_list (hr.mono (by decide)) rfl g_is_list tk_d (pa_cons (po_s 2) pa_nil)))) (pw_or1 (pt_nt (pt_val (pd_b (cr_all rfl) sd_all.snd rfl f_all PyProof.Rows.boot_all (pa_cons (po_e (pd_lc0 (ch := [5]) (own := [("item", 5)]) rfl nd (pid_seq (pd_var 2)) (blkOk_by (by kernel_rfl)) (fun _ _ _ _ _ => (pgd_name nd rfl (by first | exact Or.inl rfl | exact Or.inr rfl) (by decide))) (fun _ _ _ _ _ => (pd_fr (pd_f k_is_inspection (hr.mono (by decide)) rfl g_is_inspection tk_0 (pa_cons (po_s 5) (pa_cons (po_f (pd_len1 k_Covers_len m_Covers_len (hr.mono (by decide)) rfl f_len (po_s 1))) pa_nil))))))) pa_nil)))))))) (pss_done psd_never) pss_dnil) (pss_dcons (psd_fld 0 hat (pd_fr (pd_var 1))) (pss_dcons (psd_fld 0 hat (pd_fr (pd_ty call_tuple_of sd_tuple rfl f_tuple PyProof.Rows.boot_tuple (pa_cons (po_s 2) pa_nil)))) (pss_dcons (psd_fld 0 hat (pd_fr (pd_tup (pa_dstar (pd_lc0 (ch := [3, 4]) (own := [("above", 3), ("minutes", 4)]) rfl nd (pid_seq (pd_fld hat (po_s 1))) (blkOk_by (by kernel_rfl)) (fun _ _ _ _ _ => (pgd_tup rfl (pgsd_cons (pgd_name nd rfl (by first | exact Or.inl rfl | exact Or.inr rfl) (by decide)) (pgsd_cons (pgd_name nd rfl (by first | exact Or.inl rfl | exact Or.inr rfl) (by decide)) pgsd_nil)))) (fun _ _ _ _ _ => (pd_fr (pd_tup (pa_cons (po_f (pd_var 3)) (pa_cons (po_f (pd_var 4)) (pa_cons (po_f pd_int) pa_nil))))))) (pa_dstar (pd_var 2) pa_nil))))) (pss_done (psd_fld 0 hat (pd_fr (pd_f k_above_by (hr.mono (by decide)) rfl g_above_by tk_d (pa_cons (po_f (pd_fld hat (po_s 0))) pa_nil)))))))))
theorem p_Search_len  (f_len : mg "len" = none) (hat : AtOk K at_) (cdv : Value) (A : Around) (outer : List PySem.Env) (s : Shared) (H : Hp) (E : XK) (hr : RoomG 0 (A.deeper (envOfC d_Search_len.qual d_Search_len.scope s.heap.objs.size (He.fAd K d_Search_len.at_) cdv))) : PSsD (cxd P w K mg base d_Search_len N_Search_len cdv A outer s H E) (WW E) (List.range 1) d_Search_len.body (W_Search_len) := by
  have nd : N_Search_len.Nodup := by decide +kernel
  exact (pss_done (psd_ret (pd_fr (pd_b cr_len sd_len.snd rfl f_len PySem.boot_len (pa_cons (po_e (pd_fld hat (po_s 0))) pa_nil)))))
theorem p_Search_contains (k_is_index : Ok P w K mg base d_is_index ["value", "many"] 2 S_is_index) (f_len : mg "len" = none) (g_is_index : mg "is_index" = some (.ref (He.ga K "is_index"))) (hat : AtOk K at_) (cdv : Value) (A : Around) (outer : List PySem.Env) (s : Shared) (H : Hp) (E : XK) (hr : RoomG 2 (A.deeper (envOfC d_Search_contains.qual d_Search_contains.scope s.heap.objs.size (He.fAd K d_Search_contains.at_) cdv))) : PSsD (cxd P w K mg base d_Search_contains N_Search_contains cdv A outer s H E) (WW E) (List.range 2) d_Search_contains.body (W_Search_contains) := by
  have nd : N_Search_contains.Nodup := by decide +kernel
  exact (pss_done (psd_ret (pd_bor (pd_f k_is_index (hr.mono (by decide)) rfl g_is_index tk_d (pa_cons (po_s 1) (pa_cons (po_f (pd_b cr_len sd_len.snd rfl f_len PySem.boot_len (pa_cons (po_e (pd_fld hat (po_s 0))) pa_nil))) pa_nil))))))
theorem p_is_beginning (k_is_list : Ok P w K mg base d_is_list ["value"] 1 S_is_list) (k_Search_len : Ok P w K mg base d_Search_len ["self"] 1 S_Search_len) (k_Search_contains : Ok P w K mg base d_Search_contains ["self", "value"] 3 S_Search_contains) (f_len : mg "len" = none) (g_is_list : mg "is_list" = some (.ref (He.ga K "is_list"))) (m_Search_contains : Meth K (He.ga K "Search") "__contains__" (He.fAd K d_Search_contains.at_)) (m_Search_len : Meth K (He.ga K "Search") "__len__" (He.fAd K d_Search_len.at_)) (hat : AtOk K at_) (cdv : Value) (A : Around) (outer : List PySem.Env) (s : Shared) (H : Hp) (E : XK) (hr : RoomG 3 (A.deeper (envOfC d_is_beginning.qual d_is_beginning.scope s.heap.objs.size (He.fAd K d_is_beginning.at_) cdv))) : PSsD (cxd P w K mg base d_is_beginning N_is_beginning cdv A outer s H E) (WW E) (List.range 2) d_is_beginning.body (W_is_beginning) := by
  have nd : N_is_beginning.Nodup := by decide +kernel
  unfold W_is_beginning V_is_beginning
  exact (pss_dcons (psd_if (pt_bor (pt_nt (pt_val (pd_f k_is_list (hr.mono (by decide)) rfl g_is_list tk_d (pa_cons (po_s 1) pa_nil))))) (pss_done (psd_ret pd_bl)) pss_dnil) (pss_dcons (psd_set nd (pd_mul (po_e (pd_lst (pa_cons (po_f pd_bl) pa_nil))) (po_e (pd_len1 k_Search_len m_Search_len (hr.mono (by decide)) rfl f_len (po_s 0))))) (pss_dcons (psd_for (ch := [3]) (passes_of rfl) rfl (pid_seq (pd_var 1)) (pgd_name nd rfl (by first | exact Or.inl rfl | exact Or.inr rfl) (by decide)) (pss_dcons (psd_if (pt_bor (pt_w (pw_or (pt_notIn1 k_Search_contains (m_Search_contains) (hr.mono (by decide)) (po_s 3) (po_s 0)) (pw_or1 (pt_tr (po_e (pd_sub' (po_s 2) (po_s 3)))))))) (pss_done (psd_ret pd_bl)) pss_dnil) (pss_dcons (psd_set nd (pd_fr (pd_sub' (po_e (pd_sub' (po_e (pd_fld hat (po_s 0))) (po_s 3))) (po_e pd_int)))) (pss_dcons (psd_if (pt_bor (pt_w (pw_and (pt_isNot (po_s 4) (po_e pd_non)) (pw_and1 (pt_nt (pt_tr (po_e (pd_sub' (po_s 2) (po_s 4))))))))) (pss_done (psd_ret pd_bl)) pss_dnil) (pss_done (psd_putL 2 (pd_fr pd_bl) (po_s 3))))))) (pss_done (psd_ret pd_bl)))))
theorem p_inspections_in (k_Covers_len : Ok P w K mg base d_Covers_len ["self"] 1 S_Covers_len) (k_Search_len : Ok P w K mg base d_Search_len ["self"] 1 S_Search_len) (f_len : mg "len" = none) (f_list : mg "list" = none) (f_range : mg "range" = none) (m_Covers_len : Meth K (He.ga K "Covers") "__len__" (He.fAd K d_Covers_len.at_)) (m_Search_len : Meth K (He.ga K "Search") "__len__" (He.fAd K d_Search_len.at_)) (hat : AtOk K at_) (cdv : Value) (A : Around) (outer : List PySem.Env) (s : Shared) (H : Hp) (E : XK) (hr : RoomG 2 (A.deeper (envOfC d_inspections_in.qual d_inspections_in.scope s.heap.objs.size (He.fAd K d_inspections_in.at_) cdv))) : PSsD (cxd P w K mg base d_inspections_in N_inspections_in cdv A outer s H E) (WW E) (List.range 1) d_inspections_in.body (W_inspections_in) := by
  have nd : N_inspections_in.Nodup := by decide +kernel
  exact (pss_done (psd_ret (pd_fr (pd_listRg2 rfl rfl f_list rfl f_range (pd_len1 k_Covers_len m_Covers_len (hr.mono (by decide)) rfl f_len (po_e (pd_fld hat (po_s 0)))) (pd_len1 k_Search_len m_Search_len (hr.mono (by decide)) rfl f_len (po_s 0))))))
theorem p_left_out (k_inspections_in : Ok P w K mg base d_inspections_in ["search"] 3 S_inspections_in) (g_inspections_in : mg "inspections_in" = some (.ref (He.ga K "inspections_in"))) (cdv : Value) (A : Around) (outer : List PySem.Env) (s : Shared) (H : Hp) (E : XK) (hr : RoomG 3 (A.deeper (envOfC d_left_out.qual d_left_out.scope s.heap.objs.size (He.fAd K d_left_out.at_) cdv))) : PSsD (cxd P w K mg base d_left_out N_left_out cdv A outer s H E) (WW E) (List.range 2) d_left_out.body (W_left_out) := by
  have nd : N_left_out.Nodup := by decide +kernel
  exact (pss_done (psd_ret (pd_fr (pd_lc1 (ch := [2]) (own := [("job", 2)]) rfl nd (pid_seq (pd_f k_inspections_in (hr.mono (by decide)) rfl g_inspections_in tk_d (pa_cons (po_s 0) pa_nil))) (blkOk_by (by kernel_rfl)) (fun _ _ _ _ _ => (pgd_name nd rfl (by first | exact Or.inl rfl | exact Or.inr rfl) (by decide))) (fun _ _ _ _ _ => (pt_bor (pt_notIn (po_s 2) (po_s 1)))) (fun _ _ _ _ _ => (pd_fr (pd_var 2)))))))
theorem p_jobs_without (k_inspections_in : Ok P w K mg base d_inspections_in ["search"] 3 S_inspections_in) (f_sorted : mg "sorted" = none) (g_inspections_in : mg "inspections_in" = some (.ref (He.ga K "inspections_in"))) (hat : AtOk K at_) (cdv : Value) (A : Around) (outer : List PySem.Env) (s : Shared) (H : Hp) (E : XK) (hr : RoomG 3 (A.deeper (envOfC d_jobs_without.qual d_jobs_without.scope s.heap.objs.size (He.fAd K d_jobs_without.at_) cdv))) : PSsD (cxd P w K mg base d_jobs_without N_jobs_without cdv A outer s H E) (WW E) (List.range 2) d_jobs_without.body (W_jobs_without P w) := by
  have nd : N_jobs_without.Nodup := by decide +kernel
  have hu64 := hr.r.units
  exact (pss_dcons (psd_setLc1 (ch := [3]) (own := [("job", 3)]) rfl nd (pid_seq (pd_f k_inspections_in (hr.mono (by decide)) rfl g_inspections_in tk_d (pa_cons (po_s 0) pa_nil))) (blkOk_by (by kernel_rfl)) (fun _ _ _ _ _ => (pgd_name nd rfl (by first | exact Or.inl rfl | exact Or.inr rfl) (by decide))) (fun _ _ _ _ _ => (pt_bor (pt_ne hu64 (po_s 3) (po_s 1)))) (fun _ _ _ _ _ => (pd_fr (pd_var 3)))) (pss_done (psd_ret (pd_add (po_e (pd_sortS rfl rfl f_sorted (pd_sc2 (ch := [3]) (ch1 := [4]) (own := [("job", 3), ("cover", 4)]) (vs1 := [4]) rfl nd (pid_seq (pd_var 2)) (blkOk_by (by kernel_rfl)) (fun _ _ _ _ _ => (pgd_name nd rfl (by first | exact Or.inl rfl | exact Or.inr rfl) (by decide))) (fun _ _ _ _ _ => (pid_seq (pd_sub' (po_e (pd_fld hat (po_s 0))) (po_s 3)))) (fun _ _ _ _ _ => (pgd_name nd rfl (by first | exact Or.inl rfl | exact Or.inr rfl) (by decide))) (fun _ _ _ _ _ => (pd_var 4))))) (po_s 2)))))
theorem p_minutes_in  (f_sum : mg "sum" = none) (hat : AtOk K at_) (cdv : Value) (A : Around) (outer : List PySem.Env) (s : Shared) (H : Hp) (E : XK) (hr : RoomG 0 (A.deeper (envOfC d_minutes_in.qual d_minutes_in.scope s.heap.objs.size (He.fAd K d_minutes_in.at_) cdv))) : PSsD (cxd P w K mg base d_minutes_in N_minutes_in cdv A outer s H E) (WW E) (List.range 2) d_minutes_in.body (W_minutes_in) := by
  have nd : N_minutes_in.Nodup := by decide +kernel
  exact (pss_done (psd_ret (pd_fr (pd_b (cr_sum rfl) sd_sum.snd rfl f_sum PyProof.Rows.boot_sum (pa_cons (po_e (pd_lc0 (ch := [2]) (own := [("job", 2)]) rfl nd (pid_seq (pd_var 1)) (blkOk_by (by kernel_rfl)) (fun _ _ _ _ _ => (pgd_name nd rfl (by first | exact Or.inl rfl | exact Or.inr rfl) (by decide))) (fun _ _ _ _ _ => (pd_fr (pd_sub' (po_e (pd_sub' (po_e (pd_fld hat (po_s 0))) (po_s 2))) (po_e pd_int)))))) pa_nil)))))
theorem p_is_short_order (k_is_beginning : Ok P w K mg base d_is_beginning ["search", "value"] 4 S_is_beginning) (k_left_out : Ok P w K mg base d_left_out ["search", "jobs"] 4 S_left_out) (k_jobs_without : Ok P w K mg base d_jobs_without ["search", "left"] 4 S_jobs_without) (f_len : mg "len" = none) (f_min : mg "min" = none) (f_sorted : mg "sorted" = none) (g_is_beginning : mg "is_beginning" = some (.ref (He.ga K "is_beginning"))) (g_jobs_without : mg "jobs_without" = some (.ref (He.ga K "jobs_without"))) (g_left_out : mg "left_out" = some (.ref (He.ga K "left_out"))) (hat : AtOk K at_) (cdv : Value) (A : Around) (outer : List PySem.Env) (s : Shared) (H : Hp) (E : XK) (hr : RoomG 4 (A.deeper (envOfC d_is_short_order.qual d_is_short_order.scope s.heap.objs.size (He.fAd K d_is_short_order.at_) cdv))) : PSsD (cxd P w K mg base d_is_short_order N_is_short_order cdv A outer s H E) (WW E) (List.range 2) d_is_short_order.body (W_is_short_order) := by
  have nd : N_is_short_order.Nodup := by decide +kernel
  have hu64 := hr.r.units
  exact (pss_dcons (psd_if (pt_bor (pt_nt (pt_val (pd_f k_is_beginning (hr.mono (by decide)) rfl g_is_beginning tk_d (pa_cons (po_s 0) (pa_cons (po_s 1) pa_nil)))))) (pss_done (psd_ret pd_bl)) pss_dnil) (pss_dcons (psd_set nd (pd_fr (pd_f k_left_out (hr.mono (by decide)) rfl g_left_out tk_d (pa_cons (po_s 0) (pa_cons (po_s 1) pa_nil))))) (pss_dcons (psd_if (pt_bor (pt_ne hu64 (po_e (pd_b cr_len sd_len.snd rfl f_len PySem.boot_len (pa_cons (po_s 2) pa_nil))) (po_e (pd_b (cr_minAll rfl) sd_min.snd rfl f_min PyProof.Rows.boot_min (pa_cons (po_e pd_int) (pa_cons (po_e (pd_b cr_len sd_len.snd rfl f_len PySem.boot_len (pa_cons (po_e (pd_fld hat (po_s 0))) pa_nil))) pa_nil)))))) (pss_done (psd_ret pd_bl)) pss_dnil) (pss_done (psd_ret (pd_bor (pd_eq hu64 (po_e (pd_b cr_sortedA sd_sortA.snd rfl f_sorted PyProof.Rows.boot_sorted (pa_cons (po_s 1) pa_nil))) (po_f (pd_f k_jobs_without (hr.mono (by decide)) rfl g_jobs_without tk_d (pa_cons (po_s 0) (pa_cons (po_f (pd_if (pt_bor (pt_ne hu64 (po_s 2) (po_e (pd_lst pa_nil)))) (pd_sub' (po_s 2) (po_e pd_int)) pd_non)) pa_nil)))))))))))
theorem p_choices (k_inspections_in : Ok P w K mg base d_inspections_in ["search"] 3 S_inspections_in) (f_len : mg "len" = none) (g_inspections_in : mg "inspections_in" = some (.ref (He.ga K "inspections_in"))) (hat : AtOk K at_) (cdv : Value) (A : Around) (outer : List PySem.Env) (s : Shared) (H : Hp) (E : XK) (hr : RoomG 3 (A.deeper (envOfC d_choices.qual d_choices.scope s.heap.objs.size (He.fAd K d_choices.at_) cdv))) : PSsD (cxd P w K mg base d_choices N_choices cdv A outer s H E) (WW E) (List.range 1) d_choices.body (W_choices) := by
  have nd : N_choices.Nodup := by decide +kernel
  exact (pss_done (psd_ret (pd_fr (pd_if (pt_bor (pt_gt (po_e (pd_b cr_len sd_len.snd rfl f_len PySem.boot_len (pa_cons (po_e (pd_fld hat (po_s 0))) pa_nil))) (po_e pd_int))) (pd_f k_inspections_in (hr.mono (by decide)) rfl g_inspections_in tk_d (pa_cons (po_s 0) pa_nil)) (pd_lst (pa_cons (po_f pd_non) pa_nil))))))
theorem p_quickest_short_order (k_choices : Ok P w K mg base d_choices ["search"] 4 S_choices) (k_jobs_without : Ok P w K mg base d_jobs_without ["search", "left"] 4 S_jobs_without) (k_minutes_in : Ok P w K mg base d_minutes_in ["search", "jobs"] 1 S_minutes_in) (g_choices : mg "choices" = some (.ref (He.ga K "choices"))) (g_jobs_without : mg "jobs_without" = some (.ref (He.ga K "jobs_without"))) (g_minutes_in : mg "minutes_in" = some (.ref (He.ga K "minutes_in"))) (cdv : Value) (A : Around) (outer : List PySem.Env) (s : Shared) (H : Hp) (E : XK) (hr : RoomG 4 (A.deeper (envOfC d_quickest_short_order.qual d_quickest_short_order.scope s.heap.objs.size (He.fAd K d_quickest_short_order.at_) cdv))) : PSsD (cxd P w K mg base d_quickest_short_order N_quickest_short_order cdv A outer s H E) (WW E) (List.range 1) d_quickest_short_order.body (W_quickest_short_order) := by
  have nd : N_quickest_short_order.Nodup := by decide +kernel
  exact (pss_dcons (psd_set nd pd_non) (pss_dcons (psd_for (ch := [2]) (passes_of rfl) rfl (pid_seq (pd_f k_choices (hr.mono (by decide)) rfl g_choices tk_d (pa_cons (po_s 0) pa_nil))) (pgd_name nd rfl (by first | exact Or.inl rfl | exact Or.inr rfl) (by decide)) (pss_dcons (psd_set nd (pd_f k_jobs_without (hr.mono (by decide)) rfl g_jobs_without tk_d (pa_cons (po_s 0) (pa_cons (po_s 2) pa_nil)))) (pss_dcons (psd_set nd (pd_fr (pd_bor (pd_f k_minutes_in (hr.mono (by decide)) rfl g_minutes_in tk_d (pa_cons (po_s 0) (pa_cons (po_s 3) pa_nil)))))) (pss_done (psd_if (pt_bor (pt_w (pw_or (pt_is (po_s 1) (po_e pd_non)) (pw_or1 (pt_lt (po_s 4) (po_e (pd_sub' (po_s 1) (po_e pd_int)))))))) (pss_done (psd_set nd (pd_tup (pa_cons (po_f (pd_var 4)) (pa_cons (po_e (pd_mv 3)) (pa_cons (po_f (pd_var 2)) pa_nil)))))) pss_dnil))))) (pss_done (psd_ret (pd_mv 1)))))
theorem p_tells_left (k_is_tuple : Ok P w K mg base d_is_tuple ["value", "many"] 1 S_is_tuple) (k_is_integer : Ok P w K mg base d_is_integer ["value"] 1 S_is_integer) (k_is_short_order : Ok P w K mg base d_is_short_order ["search", "value"] 5 S_is_short_order) (k_left_out : Ok P w K mg base d_left_out ["search", "jobs"] 4 S_left_out) (g_is_integer : mg "is_integer" = some (.ref (He.ga K "is_integer"))) (g_is_short_order : mg "is_short_order" = some (.ref (He.ga K "is_short_order"))) (g_is_tuple : mg "is_tuple" = some (.ref (He.ga K "is_tuple"))) (g_left_out : mg "left_out" = some (.ref (He.ga K "left_out"))) (cdv : Value) (A : Around) (outer : List PySem.Env) (s : Shared) (H : Hp) (E : XK) (hr : RoomG 5 (A.deeper (envOfC d_tells_left.qual d_tells_left.scope s.heap.objs.size (He.fAd K d_tells_left.at_) cdv))) : PSsD (cxd P w K mg base d_tells_left N_tells_left cdv A outer s H E) (WW E) (List.range 2) d_tells_left.body (W_tells_left) := by
  have nd : N_tells_left.Nodup := by decide +kernel
  have hu64 := hr.r.units
  exact (pss_dcons (psd_if (pt_bor (pt_nt (pt_val (pd_f k_is_tuple (hr.mono (by decide)) rfl g_is_tuple tk_d (pa_cons (po_s 1) (pa_cons (po_e pd_int) pa_nil)))))) (pss_done (psd_ret pd_bl)) pss_dnil) (pss_dcons (psd_asg (ch := [3, 4, 5]) (pgd_tup rfl (pgsd_cons (pgd_name nd rfl (by first | exact Or.inl rfl | exact Or.inr rfl) (by decide)) (pgsd_cons (pgd_name nd rfl (by first | exact Or.inl rfl | exact Or.inr rfl) (by decide)) (pgsd_cons (pgd_name nd rfl (by first | exact Or.inl rfl | exact Or.inr rfl) (by decide)) pgsd_nil)))) (pd_var 1)) (pss_dcons (psd_if (pt_bor (pt_w (pw_or (pt_nt (pt_val (pd_f k_is_integer (hr.mono (by decide)) rfl g_is_integer tk_d (pa_cons (po_s 3) pa_nil)))) (pw_or1 (pt_nt (pt_val (pd_f k_is_short_order (hr.mono (by decide)) rfl g_is_short_order tk_d (pa_cons (po_s 0) (pa_cons (po_s 4) pa_nil))))))))) (pss_done (psd_ret pd_bl)) pss_dnil) (pss_dcons (psd_set nd (pd_fr (pd_f k_left_out (hr.mono (by decide)) rfl g_left_out tk_d (pa_cons (po_s 0) (pa_cons (po_s 4) pa_nil))))) (pss_done (psd_ret (pd_fr (pd_if (pt_bor (pt_eq hu64 (po_s 2) (po_e (pd_lst pa_nil)))) (pd_is (po_s 5) (po_e pd_non)) (pd_and (pd_f k_is_integer (hr.mono (by decide)) rfl g_is_integer tk_d (pa_cons (po_s 5) pa_nil)) (pd_one (pd_eq hu64 (po_s 2) (po_e (pd_lst (pa_cons (po_f (pd_var 5)) pa_nil))))))))))))))
theorem p_is_quickest_short_order (k_tells_left : Ok P w K mg base d_tells_left ["search", "value"] 6 S_tells_left) (k_minutes_in : Ok P w K mg base d_minutes_in ["search", "jobs"] 1 S_minutes_in) (k_quickest_short_order : Ok P w K mg base d_quickest_short_order ["search"] 5 S_quickest_short_order) (g_minutes_in : mg "minutes_in" = some (.ref (He.ga K "minutes_in"))) (g_quickest_short_order : mg "quickest_short_order" = some (.ref (He.ga K "quickest_short_order"))) (g_tells_left : mg "tells_left" = some (.ref (He.ga K "tells_left"))) (cdv : Value) (A : Around) (outer : List PySem.Env) (s : Shared) (H : Hp) (E : XK) (hr : RoomG 6 (A.deeper (envOfC d_is_quickest_short_order.qual d_is_quickest_short_order.scope s.heap.objs.size (He.fAd K d_is_quickest_short_order.at_) cdv))) : PSsD (cxd P w K mg base d_is_quickest_short_order N_is_quickest_short_order cdv A outer s H E) (WW E) (List.range 2) d_is_quickest_short_order.body (W_is_quickest_short_order) := by
  have nd : N_is_quickest_short_order.Nodup := by decide +kernel
  have hu64 := hr.r.units
  exact (pss_dcons (psd_if (pt_bor (pt_nt (pt_val (pd_f k_tells_left (hr.mono (by decide)) rfl g_tells_left tk_d (pa_cons (po_s 0) (pa_cons (po_s 1) pa_nil)))))) (pss_done (psd_ret pd_bl)) pss_dnil) (pss_dcons (psd_asg (ch := [2, 3, 4]) (pgd_tup rfl (pgsd_cons (pgd_name nd rfl (by first | exact Or.inl rfl | exact Or.inr rfl) (by decide)) (pgsd_cons (pgd_name nd rfl (by first | exact Or.inl rfl | exact Or.inr rfl) (by decide)) (pgsd_cons (pgd_name nd rfl (by first | exact Or.inl rfl | exact Or.inr rfl) (by decide)) pgsd_nil)))) (pd_var 1)) (pss_done (psd_ret (pd_bor (pd_and (pd_eq hu64 (po_s 2) (po_f (pd_f k_minutes_in (hr.mono (by decide)) rfl g_minutes_in tk_d (pa_cons (po_s 0) (pa_cons (po_s 3) pa_nil))))) (pd_one (pd_eq hu64 (po_s 2) (po_e (pd_sub' (po_f (pd_f k_quickest_short_order (hr.mono (by decide)) rfl g_quickest_short_order tk_d (pa_cons (po_s 0) pa_nil))) (po_e pd_int)))))))))))
theorem p__law_cell  (f_len : mg "len" = none) (f_sum : mg "sum" = none) (cdv : Value) (A : Around) (outer : List PySem.Env) (s : Shared) (H : Hp) (E : XK) (hr : RoomG 0 (A.deeper (envOfC d__law_cell.qual d__law_cell.scope s.heap.objs.size (He.fAd K d__law_cell.at_) cdv))) : PSsD (cxd P w K mg base d__law_cell N__law_cell cdv A outer s H E) (WW E) (List.range 2) d__law_cell.body (W__law_cell) := by
  have nd : N__law_cell.Nodup := by decide +kernel
  unfold W__law_cell V__law_cell
  exact (pss_done (psd_ret (pd_fr (pd_if (pt_bor (pt_lt (po_s 1) (po_e (pd_b cr_len sd_len.snd rfl f_len PySem.boot_len (pa_cons (po_s 0) pa_nil))))) (pd_sub' (po_s 0) (po_s 1)) (pd_add (po_e (pd_mul (po_e pd_int) (po_s 1))) (po_e (pd_mod (po_e (pd_b (cr_sum rfl) sd_sum.snd rfl f_sum PyProof.Rows.boot_sum (pa_cons (po_e (pd_slice (po_s 0) ppd_no (ppd_some pd_int))) pa_nil))) (po_e pd_int))))))))
theorem p__law_box  (f_abs : mg "abs" = none) (f_int : mg "int" = none) (cdv : Value) (A : Around) (outer : List PySem.Env) (s : Shared) (H : Hp) (E : XK) (hr : RoomG 0 (A.deeper (envOfC d__law_box.qual d__law_box.scope s.heap.objs.size (He.fAd K d__law_box.at_) cdv))) : PSsD (cxd P w K mg base d__law_box N__law_box cdv A outer s H E) (WW E) (List.range 1) d__law_box.body (W__law_box) := by
  have nd : N__law_box.Nodup := by decide +kernel
  unfold W__law_box V__law_box
  exact (pss_done (psd_ret (pd_lst (pa_cons (po_f (pd_b call_abs sd_abs.snd rfl f_abs PyProof.Rows.boot_abs (pa_cons (po_s 0) pa_nil))) (pa_cons (po_f (pd_ge (po_e (pd_b call_abs sd_abs.snd rfl f_abs PyProof.Rows.boot_abs (pa_cons (po_s 0) pa_nil))) (po_e (pd_pow (po_e pd_int) (po_e pd_int))))) (pa_cons (po_f (pd_mod (po_e (pd_ty cr_int sd_int.snd rfl f_int PyProof.Rows.boot_int (pa_cons (po_e (pd_b call_abs sd_abs.snd rfl f_abs PyProof.Rows.boot_abs (pa_cons (po_s 0) pa_nil))) pa_nil))) (po_e pd_int))) (pa_cons (po_f pd_int) pa_nil)))))))
theorem p__law_take  (f_int : mg "int" = none) (cdv : Value) (A : Around) (outer : List PySem.Env) (s : Shared) (H : Hp) (E : XK) (hr : RoomG 0 (A.deeper (envOfC d__law_take.qual d__law_take.scope s.heap.objs.size (He.fAd K d__law_take.at_) cdv))) : PSsD (cxd P w K mg base d__law_take N__law_take cdv A outer s H E) (WW E) (List.range 2) d__law_take.body (W__law_take) := by
  have nd : N__law_take.Nodup := by decide +kernel
  unfold W__law_take V__law_take
  exact (pss_dcons (psd_if (pt_bor (pt_w (pw_and (pt_tr (po_e (pd_sub' (po_s 0) (po_e pd_int)))) (pw_and1 (pt_gt (po_e (pd_sub' (po_s 0) (po_e pd_int))) (po_e pd_int)))))) (pss_dcons (psd_set nd (pd_fr (pd_mod (po_e (pd_ty cr_int sd_int.snd rfl f_int PyProof.Rows.boot_int (pa_cons (po_e (pd_sub' (po_s 0) (po_e pd_int))) pa_nil))) (po_s 1)))) (pss_dcons (psd_putL 0 (pd_fr (pd_div (po_e (pd_ty cr_int sd_int.snd rfl f_int PyProof.Rows.boot_int (pa_cons (po_e (pd_sub' (po_s 0) (po_e pd_int))) pa_nil))) (po_s 1))) (po_e pd_int)) (pss_done (psd_ret (pd_var 2))))) pss_dnil) (pss_dcons (psd_putL 0 (pd_fr (pd_add (po_e (pd_sub' (po_s 0) (po_e pd_int))) (po_e pd_int))) (po_e pd_int)) (pss_dcons (psd_putL 0 (pd_fr (pd_mod (po_e (pd_add (po_e (pd_add (po_e (pd_mul (po_e (pd_sub' (po_s 0) (po_e pd_int))) (po_e pd_int))) (po_e (pd_mul (po_e pd_int) (po_e (pd_sub' (po_s 0) (po_e pd_int))))))) (po_e pd_int))) (po_e pd_int))) (po_e pd_int)) (pss_done (psd_ret (pd_fr (pd_mod (po_e (pd_div (po_e (pd_sub' (po_s 0) (po_e pd_int))) (po_e pd_int))) (po_s 1))))))))
theorem p__law_search (k__law_take : Ok P w K mg base d__law_take ["box", "many"] 1 S__law_take) (f_range : mg "range" = none) (g__law_take : mg "_law_take" = some (.ref (He.ga K "_law_take"))) (cdv : Value) (A : Around) (outer : List PySem.Env) (s : Shared) (H : Hp) (E : XK) (hr : RoomG 1 (A.deeper (envOfC d__law_search.qual d__law_search.scope s.heap.objs.size (He.fAd K d__law_search.at_) cdv))) : PSsD (cxd P w K mg base d__law_search N__law_search cdv A outer s H E) (WW E) (List.range 2) d__law_search.body (W__law_search) := by
  have nd : N__law_search.Nodup := by decide +kernel
  have hu64 := hr.r.units
  exact (pss_dcons (psd_par3 4 2 5 rfl nd (pa_cons (po_f (pd_f k__law_take (hr.mono (by decide)) rfl g__law_take tk_d (pa_cons (po_s 0) (pa_cons (po_e pd_int) pa_nil)))) (pa_cons (po_f (pd_sub' (po_e (pd_lst (pa_cons (po_f pd_int) (pa_cons (po_f pd_int) (pa_cons (po_f pd_int) (pa_cons (po_f pd_int) pa_nil)))))) (po_f (pd_f k__law_take (hr.mono (by decide)) rfl g__law_take tk_d (pa_cons (po_s 0) (pa_cons (po_e pd_int) pa_nil)))))) (pa_cons (po_f (pd_f k__law_take (hr.mono (by decide)) rfl g__law_take tk_d (pa_cons (po_s 0) (pa_cons (po_e pd_int) pa_nil)))) pa_nil)))) (pss_dcons (psd_asg (ch := [6, 7]) (pgd_tup rfl (pgsd_cons (pgd_name nd rfl (by first | exact Or.inl rfl | exact Or.inr rfl) (by decide)) (pgsd_cons (pgd_name nd rfl (by first | exact Or.inl rfl | exact Or.inr rfl) (by decide)) pgsd_nil))) (pd_if (pt_bor (pt_tr (po_s 1))) (pd_lst (pa_cons (po_f pd_int) (pa_cons (po_f pd_int) pa_nil))) (pd_sub' (po_e (pd_lst (pa_cons (po_f (pd_lst (pa_cons (po_f pd_int) (pa_cons (po_f pd_int) pa_nil)))) (pa_cons (po_f (pd_lst (pa_cons (po_f pd_int) (pa_cons (po_f pd_int) pa_nil)))) (pa_cons (po_f (pd_lst (pa_cons (po_f pd_int) (pa_cons (po_f pd_int) pa_nil)))) (pa_cons (po_f (pd_lst (pa_cons (po_f pd_int) (pa_cons (po_f pd_int) pa_nil)))) (pa_cons (po_f (pd_lst (pa_cons (po_f pd_int) (pa_cons (po_f pd_int) pa_nil)))) (pa_cons (po_f (pd_lst (pa_cons (po_f pd_int) (pa_cons (po_f pd_int) pa_nil)))) (pa_cons (po_f (pd_lst (pa_cons (po_f pd_int) (pa_cons (po_f pd_int) pa_nil)))) (pa_cons (po_f (pd_lst (pa_cons (po_f pd_int) (pa_cons (po_f pd_int) pa_nil)))) pa_nil)))))))))) (po_s 5)))) (pss_dcons (psd_set nd (pd_fr (pd_if (pt_bor (pt_w (pw_and (pt_tr (po_s 1)) (pw_and1 (pt_gt (po_s 2) (po_e pd_int)))))) pd_int (pd_var 2)))) (pss_dcons (psd_par 8 9 rfl nd (pa_cons (po_e (pd_lst pa_nil)) (pa_cons (po_e (pd_lst pa_nil)) pa_nil))) (pss_dcons (psd_for (ch := [3]) (passes_of rfl) rfl (pid_range1 rfl f_range (pa_cons (po_f (pd_var 6)) pa_nil)) (pgd_name nd rfl (by first | exact Or.inl rfl | exact Or.inr rfl) (by decide)) (pss_dcons (psd_set nd (pd_fr (pd_sub' (po_e (pd_lst (pa_cons (po_f (pd_sub (po_s 3) (po_e pd_int))) (pa_cons (po_f (pd_sub (po_f (pd_f k__law_take (hr.mono (by decide)) rfl g__law_take tk_d (pa_cons (po_s 0) (pa_cons (po_f (pd_add (po_s 3) (po_e pd_int))) pa_nil)))) (po_e pd_int))) (pa_cons (po_f pd_int) (pa_cons (po_f (pd_sub (po_e (pd_sub (po_s 3) (po_e pd_int))) (po_f (pd_f k__law_take (hr.mono (by decide)) rfl g__law_take tk_d (pa_cons (po_s 0) (pa_cons (po_e pd_int) pa_nil)))))) pa_nil)))))) (po_s 4)))) (pss_done (psd_expr (pd_app 8 (pd_fr (pd_tup (pa_cons (po_f (pd_if (pt_bor (pt_w (pw_or (pt_lt (po_s 10) (po_e pd_int)) (pw_or1 (pt_eq hu64 (po_s 3) (po_e pd_int)))))) pd_non (pd_var 10))) (pa_cons (po_f (pd_add (po_e pd_int) (po_f (pd_f k__law_take (hr.mono (by decide)) rfl g__law_take tk_d (pa_cons (po_s 0) (pa_cons (po_s 2) pa_nil)))))) pa_nil))))))))) (pss_dcons (psd_for (ch := [3]) (passes_of rfl) rfl (pid_range1 rfl f_range (pa_cons (po_f (pd_var 7)) pa_nil)) (pgd_name nd rfl (by first | exact Or.inl rfl | exact Or.inr rfl) (by decide)) (pss_dcons (psd_set nd (pd_fr (pd_sub (po_e (pd_sub' (po_e (pd_lst (pa_cons (po_f (pd_f k__law_take (hr.mono (by decide)) rfl g__law_take tk_d (pa_cons (po_s 0) (pa_cons (po_f (pd_add (po_s 6) (po_e pd_int))) pa_nil)))) (pa_cons (po_f (pd_var 6)) (pa_cons (po_f (pd_f k__law_take (hr.mono (by decide)) rfl g__law_take tk_d (pa_cons (po_s 0) (pa_cons (po_f (pd_add (po_s 6) (po_e pd_int))) pa_nil)))) pa_nil))))) (po_f (pd_f k__law_take (hr.mono (by decide)) rfl g__law_take tk_d (pa_cons (po_s 0) (pa_cons (po_e pd_int) pa_nil)))))) (po_e pd_int)))) (pss_done (psd_expr (pd_app 9 (pd_fr (pd_tup (pa_cons (po_f (pd_if (pt_bor (pt_lt (po_s 11) (po_e pd_int))) pd_non (pd_var 11))) (pa_cons (po_f (pd_add (po_e pd_int) (po_f (pd_f k__law_take (hr.mono (by decide)) rfl g__law_take tk_d (pa_cons (po_s 0) (pa_cons (po_s 2) pa_nil)))))) (pa_cons (po_f (pd_add (po_e pd_int) (po_f (pd_f k__law_take (hr.mono (by decide)) rfl g__law_take tk_d (pa_cons (po_s 0) (pa_cons (po_s 2) pa_nil)))))) pa_nil)))))))))) (pss_done (psd_ret (pd_fr (pd_lst (pa_cons (po_f (pd_var 8)) (pa_cons (po_f (pd_var 9)) pa_nil))))))))))))
theorem p__law_above  (f_len : mg "len" = none) (f_range : mg "range" = none) (cdv : Value) (A : Around) (outer : List PySem.Env) (s : Shared) (H : Hp) (E : XK) (hr : RoomG 0 (A.deeper (envOfC d__law_above.qual d__law_above.scope s.heap.objs.size (He.fAd K d__law_above.at_) cdv))) : PSsD (cxd P w K mg base d__law_above N__law_above cdv A outer s H E) (WW E) (List.range 2) d__law_above.body (W__law_above) := by
  have nd : N__law_above.Nodup := by decide +kernel
  exact (pss_dcons (psd_par 3 4 rfl nd (pa_cons (po_e (pd_lst pa_nil)) (pa_cons (po_f (pd_var 1)) pa_nil))) (pss_dcons (psd_for (ch := [2]) (passes_of rfl) rfl (pid_range1 rfl f_range (pa_cons (po_f (pd_b cr_len sd_len.snd rfl f_len PySem.boot_len (pa_cons (po_s 0) pa_nil))) pa_nil)) (pgd_name nd rfl (by first | exact Or.inl rfl | exact Or.inr rfl) (by decide)) (pss_dcons (psd_if (pt_bor (pt_is (po_s 4) (po_e pd_non))) (pss_done psd_brk) pss_dnil) (pss_dcons (psd_expr (pd_app 3 (pd_fr (pd_var 4)))) (pss_done (psd_set nd (pd_fr (pd_sub' (po_e (pd_sub' (po_s 0) (po_s 4))) (po_e pd_int)))))))) (pss_done (psd_ret (pd_var 3)))))
theorem p__law_needed (k__law_above : Ok P w K mg base d__law_above ["covers", "cover"] 1 S__law_above) (f_len : mg "len" = none) (f_range : mg "range" = none) (f_sorted : mg "sorted" = none) (g__law_above : mg "_law_above" = some (.ref (He.ga K "_law_above"))) (cdv : Value) (A : Around) (outer : List PySem.Env) (s : Shared) (H : Hp) (E : XK) (hr : RoomG 1 (A.deeper (envOfC d__law_needed.qual d__law_needed.scope s.heap.objs.size (He.fAd K d__law_needed.at_) cdv))) : PSsD (cxd P w K mg base d__law_needed N__law_needed cdv A outer s H E) (WW E) (List.range 2) d__law_needed.body (W__law_needed) := by
  have nd : N__law_needed.Nodup := by decide +kernel
  have hu64 := hr.r.units
  have hu1 : (A.deeper (envOfC d__law_needed.qual d__law_needed.scope s.heap.objs.size (He.fAd K d__law_needed.at_) cdv)).units + 1 < cLine := by have := hr.r.units; omega
  exact (pss_dcons (psd_asg (ch := [4, 5]) (pgd_tup rfl (pgsd_cons (pgd_name nd rfl (by first | exact Or.inl rfl | exact Or.inr rfl) (by decide)) (pgsd_cons (pgd_name nd rfl (by first | exact Or.inl rfl | exact Or.inr rfl) (by decide)) pgsd_nil))) (pd_var 0)) (pss_dcons (psd_set nd pd_dic0) (pss_dcons (psd_for (ch := [3]) (passes_of rfl) rfl (pid_range1 rfl f_range (pa_cons (po_f (pd_b cr_len sd_len.snd rfl f_len PySem.boot_len (pa_cons (po_s 5) pa_nil))) pa_nil)) (pgd_name nd rfl (by first | exact Or.inl rfl | exact Or.inr rfl) (by decide)) (pss_done (psd_if (pt_bor (pt_ne hu64 (po_e (pd_add (po_e (pd_b cr_len sd_len.snd rfl f_len PySem.boot_len (pa_cons (po_s 4) pa_nil))) (po_s 3))) (po_s 1))) (pss_done (psd_for (ch := [6]) (passes_of rfl) rfl (pid_seq (pd_f k__law_above (hr.mono (by decide)) rfl g__law_above tk_d (pa_cons (po_s 4) (pa_cons (po_f (pd_sub' (po_e (pd_sub' (po_s 5) (po_s 3))) (po_e pd_int))) pa_nil)))) (pgd_name nd rfl (by first | exact Or.inl rfl | exact Or.inr rfl) (by decide)) (pss_done (psd_putD 2 hu1 pd_bl (po_s 6))))) pss_dnil))) (pss_done (psd_ret (pd_fr (pd_add (po_e (pd_b (call_sortedDI rfl) sd_sortDI.snd rfl f_sorted PyProof.Rows.boot_sorted (pa_cons (po_s 2) pa_nil))) (po_e (pd_lc1 (ch := [3]) (own := [("k", 3)]) rfl nd (pid_range1 rfl f_range (pa_cons (po_f (pd_b cr_len sd_len.snd rfl f_len PySem.boot_len (pa_cons (po_s 5) pa_nil))) pa_nil)) (blkOk_by (by kernel_rfl)) (fun _ _ _ _ _ => (pgd_name nd rfl (by first | exact Or.inl rfl | exact Or.inr rfl) (by decide))) (fun _ _ _ _ _ => (pt_bor (pt_ne hu64 (po_e (pd_add (po_e (pd_b cr_len sd_len.snd rfl f_len PySem.boot_len (pa_cons (po_s 4) pa_nil))) (po_s 3))) (po_s 1)))) (fun _ _ _ _ _ => (pd_fr (pd_add (po_e (pd_b cr_len sd_len.snd rfl f_len PySem.boot_len (pa_cons (po_s 4) pa_nil))) (po_s 3)))))))))))))
theorem p__law_lefts  (f_len : mg "len" = none) (f_range : mg "range" = none) (cdv : Value) (A : Around) (outer : List PySem.Env) (s : Shared) (H : Hp) (E : XK) (hr : RoomG 0 (A.deeper (envOfC d__law_lefts.qual d__law_lefts.scope s.heap.objs.size (He.fAd K d__law_lefts.at_) cdv))) : PSsD (cxd P w K mg base d__law_lefts N__law_lefts cdv A outer s H E) (WW E) (List.range 1) d__law_lefts.body (W__law_lefts) := by
  have nd : N__law_lefts.Nodup := by decide +kernel
  have hu64 := hr.r.units
  exact (pss_done (psd_ret (pd_fr (pd_if (pt_bor (pt_ne hu64 (po_e (pd_sub' (po_s 0) (po_e pd_int))) (po_e (pd_lst pa_nil)))) (pd_lc0 (ch := [1]) (own := [("k", 1)]) rfl nd (pid_range1 rfl f_range (pa_cons (po_f (pd_b cr_len sd_len.snd rfl f_len PySem.boot_len (pa_cons (po_e (pd_sub' (po_s 0) (po_e pd_int))) pa_nil))) pa_nil)) (blkOk_by (by kernel_rfl)) (fun _ _ _ _ _ => (pgd_name nd rfl (by first | exact Or.inl rfl | exact Or.inr rfl) (by decide))) (fun _ _ _ _ _ => (pd_fr (pd_add (po_e (pd_b cr_len sd_len.snd rfl f_len PySem.boot_len (pa_cons (po_e (pd_sub' (po_s 0) (po_e pd_int))) pa_nil))) (po_s 1))))) (pd_lst (pa_cons (po_f pd_non) pa_nil))))))
theorem p__law_job  (f_len : mg "len" = none) (cdv : Value) (A : Around) (outer : List PySem.Env) (s : Shared) (H : Hp) (E : XK) (hr : RoomG 0 (A.deeper (envOfC d__law_job.qual d__law_job.scope s.heap.objs.size (He.fAd K d__law_job.at_) cdv))) : PSsD (cxd P w K mg base d__law_job N__law_job cdv A outer s H E) (WW E) (List.range 2) d__law_job.body (W__law_job) := by
  have nd : N__law_job.Nodup := by decide +kernel
  exact (pss_dcons (psd_set nd (pd_fr (pd_b cr_len sd_len.snd rfl f_len PySem.boot_len (pa_cons (po_e (pd_sub' (po_s 0) (po_e pd_int))) pa_nil)))) (pss_done (psd_ret (pd_fr (pd_if (pt_bor (pt_lt (po_s 1) (po_s 2))) (pd_tup (pa_cons (po_f (pd_sub' (po_e (pd_sub' (po_e (pd_sub' (po_s 0) (po_e pd_int))) (po_s 1))) (po_e pd_int))) (pa_cons (po_f (pd_sub' (po_e (pd_sub' (po_e (pd_sub' (po_s 0) (po_e pd_int))) (po_s 1))) (po_e pd_int))) (pa_cons (po_f pd_int) pa_nil)))) (pd_sub' (po_e (pd_sub' (po_s 0) (po_e pd_int))) (po_e (pd_sub (po_s 1) (po_s 2)))))))))
theorem p__law_is_number  (f_bool : mg "bool" = none) (f_int : mg "int" = none) (f_isinstance : mg "isinstance" = none) (cdv : Value) (A : Around) (outer : List PySem.Env) (s : Shared) (H : Hp) (E : XK) (hr : RoomG 0 (A.deeper (envOfC d__law_is_number.qual d__law_is_number.scope s.heap.objs.size (He.fAd K d__law_is_number.at_) cdv))) : PSsD (cxd P w K mg base d__law_is_number N__law_is_number cdv A outer s H E) (WW E) (List.range 2) d__law_is_number.body (W__law_is_number) := by
  have nd : N__law_is_number.Nodup := by decide +kernel
  exact (pss_done (psd_ret (pd_bor (pd_and (pd_isi1 rfl f_isinstance (po_s 0) (pe_tyn rfl f_int PyProof.Rows.boot_int)) (pd_and (pd_not (po_e (pd_isi1 rfl f_isinstance (po_s 0) (pe_tyn rfl f_bool PyProof.Rows.boot_bool)))) (pd_one (pd_chain op_leAll op_ltAll sd_le.snd sd_lt.snd (po_e pd_int) (po_s 0) (po_s 1))))))))
theorem p__law_left_out (k__law_is_number : Ok P w K mg base d__law_is_number ["value", "many"] 1 S__law_is_number) (k__law_job : Ok P w K mg base d__law_job ["world", "job"] 1 S__law_job) (k__law_lefts : Ok P w K mg base d__law_lefts ["world"] 1 S__law_lefts) (k__law_needed : Ok P w K mg base d__law_needed ["world", "left"] 2 S__law_needed) (f_isinstance : mg "isinstance" = none) (f_len : mg "len" = none) (f_list : mg "list" = none) (f_range : mg "range" = none) (f_set : mg "set" = none) (f_sorted : mg "sorted" = none) (f_tuple : mg "tuple" = none) (g__law_is_number : mg "_law_is_number" = some (.ref (He.ga K "_law_is_number"))) (g__law_job : mg "_law_job" = some (.ref (He.ga K "_law_job"))) (g__law_lefts : mg "_law_lefts" = some (.ref (He.ga K "_law_lefts"))) (g__law_needed : mg "_law_needed" = some (.ref (He.ga K "_law_needed"))) (cdv : Value) (A : Around) (outer : List PySem.Env) (s : Shared) (H : Hp) (E : XK) (hr : RoomG 2 (A.deeper (envOfC d__law_left_out.qual d__law_left_out.scope s.heap.objs.size (He.fAd K d__law_left_out.at_) cdv))) : PSsD (cxd P w K mg base d__law_left_out N__law_left_out cdv A outer s H E) (WW E) (List.range 2) d__law_left_out.body (W__law_left_out) := by
  have nd : N__law_left_out.Nodup := by decide +kernel
  have hu64 := hr.r.units
  exact (pss_dcons (psd_asg (ch := [4, 5]) (pgd_tup rfl (pgsd_cons (pgd_name nd rfl (by first | exact Or.inl rfl | exact Or.inr rfl) (by decide)) (pgsd_cons (pgd_name nd rfl (by first | exact Or.inl rfl | exact Or.inr rfl) (by decide)) pgsd_nil))) (pd_tup (pa_cons (po_f (pd_b cr_len sd_len.snd rfl f_len PySem.boot_len (pa_cons (po_e (pd_sub' (po_s 0) (po_e pd_int))) pa_nil))) (pa_cons (po_f (pd_add (po_e (pd_b cr_len sd_len.snd rfl f_len PySem.boot_len (pa_cons (po_e (pd_sub' (po_s 0) (po_e pd_int))) pa_nil))) (po_e (pd_b cr_len sd_len.snd rfl f_len PySem.boot_len (pa_cons (po_e (pd_sub' (po_s 0) (po_e pd_int))) pa_nil))))) pa_nil)))) (pss_dcons (psd_if (pt_bor (pt_nt (pt_val (pd_isi2 rfl f_isinstance (po_s 1) (pe_tyn rfl f_list PyProof.Rows.boot_list) (pe_tyn rfl f_tuple PyProof.Rows.boot_tuple))))) (pss_done (psd_ret (pd_fr (pd_lst pa_nil)))) pss_dnil) (pss_dcons (psd_if (pt_bor (pt_w (pw_or (pt_ne hu64 (po_e (pd_lc1 (ch := [8]) (own := [("one", 8)]) rfl nd (pid_seq (pd_var 1)) (blkOk_by (by kernel_rfl)) (fun _ _ _ _ _ => (pgd_name nd rfl (by first | exact Or.inl rfl | exact Or.inr rfl) (by decide))) (fun _ _ _ _ _ => (pt_bor (pt_nt (pt_val (pd_f k__law_is_number (hr.mono (by decide)) rfl g__law_is_number tk_0 (pa_cons (po_s 8) (pa_cons (po_s 5) pa_nil))))))) (fun _ _ _ _ _ => (pd_fr (pd_var 8))))) (po_e (pd_lst pa_nil))) (pw_or1 (pt_ne hu64 (po_e (pd_lenSet rfl rfl f_len rfl f_set (po_s 1))) (po_e (pd_b cr_len sd_len.snd rfl f_len PySem.boot_len (pa_cons (po_s 1) pa_nil)))))))) (pss_done (psd_ret (pd_fr (pd_lst pa_nil)))) pss_dnil) (pss_dcons (psd_for (ch := [2]) (passes_of rfl) rfl (pid_range1 rfl f_range (pa_cons (po_f (pd_b cr_len sd_len.snd rfl f_len PySem.boot_len (pa_cons (po_s 1) pa_nil))) pa_nil)) (pgd_name nd rfl (by first | exact Or.inl rfl | exact Or.inr rfl) (by decide)) (pss_dcons (psd_set nd (pd_fr (pd_sub' (po_f (pd_f k__law_job (hr.mono (by decide)) rfl g__law_job tk_d (pa_cons (po_s 0) (pa_cons (po_f (pd_sub' (po_s 1) (po_s 2))) pa_nil)))) (po_e pd_int)))) (pss_done (psd_if (pt_bor (pt_w (pw_and (pt_isNot (po_s 6) (po_e pd_non)) (pw_and1 (pt_notIn (po_s 6) (po_e (pd_slice (po_s 1) ppd_no (ppd_some (pd_var 2))))))))) (pss_done (psd_ret (pd_fr (pd_lst pa_nil)))) pss_dnil)))) (pss_dcons (psd_setLc1 (ch := [7]) (own := [("left", 7)]) rfl nd (pid_seq (pd_f k__law_lefts (hr.mono (by decide)) rfl g__law_lefts tk_d (pa_cons (po_s 0) pa_nil))) (blkOk_by (by kernel_rfl)) (fun _ _ _ _ _ => (pgd_name nd rfl (by first | exact Or.inl rfl | exact Or.inr rfl) (by decide))) (fun _ _ _ _ _ => (pt_bor (pt_notIn (po_s 7) (po_s 1)))) (fun _ _ _ _ _ => (pd_fr (pd_var 7)))) (pss_done (psd_ret (pd_fr (pd_if (pt_bor (pt_w (pw_and (pt_eq hu64 (po_e (pd_b cr_len sd_len.snd rfl f_len PySem.boot_len (pa_cons (po_s 3) pa_nil))) (po_e pd_int)) (pw_and1 (pt_eq hu64 (po_e (pd_b cr_sortedA sd_sortA.snd rfl f_sorted PyProof.Rows.boot_sorted (pa_cons (po_s 1) pa_nil))) (po_f (pd_f k__law_needed (hr.mono (by decide)) rfl g__law_needed tk_d (pa_cons (po_s 0) (pa_cons (po_f (pd_sub' (po_s 3) (po_e pd_int))) pa_nil))))))))) (pd_var 3) (pd_lst pa_nil))))))))))
theorem p__law_drawn (k__law_lefts : Ok P w K mg base d__law_lefts ["world"] 1 S__law_lefts) (k__law_take : Ok P w K mg base d__law_take ["box", "many"] 1 S__law_take) (k__law_needed : Ok P w K mg base d__law_needed ["world", "left"] 2 S__law_needed) (k__law_job : Ok P w K mg base d__law_job ["world", "job"] 1 S__law_job) (f_len : mg "len" = none) (f_range : mg "range" = none) (g__law_job : mg "_law_job" = some (.ref (He.ga K "_law_job"))) (g__law_lefts : mg "_law_lefts" = some (.ref (He.ga K "_law_lefts"))) (g__law_needed : mg "_law_needed" = some (.ref (He.ga K "_law_needed"))) (g__law_take : mg "_law_take" = some (.ref (He.ga K "_law_take"))) (cdv : Value) (A : Around) (outer : List PySem.Env) (s : Shared) (H : Hp) (E : XK) (hr : RoomG 2 (A.deeper (envOfC d__law_drawn.qual d__law_drawn.scope s.heap.objs.size (He.fAd K d__law_drawn.at_) cdv))) : PSsD (cxd P w K mg base d__law_drawn N__law_drawn cdv A outer s H E) (WW E) (List.range 2) d__law_drawn.body (W__law_drawn P w) := by
  have nd : N__law_drawn.Nodup := by decide +kernel
  exact (pss_dcons (psd_set nd (pd_fr (pd_f k__law_lefts (hr.mono (by decide)) rfl g__law_lefts tk_d (pa_cons (po_s 1) pa_nil)))) (pss_dcons (psd_asg (ch := [4, 5, 6]) (pgd_tup rfl (pgsd_cons (pgd_name nd rfl (by first | exact Or.inl rfl | exact Or.inr rfl) (by decide)) (pgsd_cons (pgd_name nd rfl (by first | exact Or.inl rfl | exact Or.inr rfl) (by decide)) (pgsd_cons (pgd_name nd rfl (by first | exact Or.inl rfl | exact Or.inr rfl) (by decide)) pgsd_nil)))) (pd_tup (pa_cons (po_f (pd_f k__law_needed (hr.mono (by decide)) rfl g__law_needed tk_d (pa_cons (po_s 1) (pa_cons (po_f (pd_sub' (po_s 2) (po_f (pd_f k__law_take (hr.mono (by decide)) rfl g__law_take tk_d (pa_cons (po_s 0) (pa_cons (po_f (pd_b cr_len sd_len.snd rfl f_len PySem.boot_len (pa_cons (po_s 2) pa_nil))) pa_nil)))))) pa_nil)))) (pa_cons (po_e (pd_lst pa_nil)) (pa_cons (po_e (pd_disN pe_bl)) pa_nil))))) (pss_dcons (psd_for (ch := [3]) (passes_of rfl) rfl (pid_range1 rfl f_range (pa_cons (po_f (pd_b cr_len sd_len.snd rfl f_len PySem.boot_len (pa_cons (po_s 4) pa_nil))) pa_nil)) (pgd_name nd rfl (by first | exact Or.inl rfl | exact Or.inr rfl) (by decide)) (pss_dcons (psd_setLc1 (ch := [8]) (own := [("job", 8)]) rfl nd (pid_seq (pd_var 4)) (blkOk_by (by kernel_rfl)) (fun _ _ _ _ _ => (pgd_name nd rfl (by first | exact Or.inl rfl | exact Or.inr rfl) (by decide))) (fun _ _ _ _ _ => (pt_bor (pt_w (pw_and (pt_notInN (po_s 8) (po_s 6)) (pw_and1 (pt_inN (po_e (pd_sub' (po_f (pd_f k__law_job (hr.mono (by decide)) rfl g__law_job tk_0 (pa_cons (po_s 1) (pa_cons (po_s 8) pa_nil)))) (po_e pd_int))) (po_s 6))))))) (fun _ _ _ _ _ => (pd_fr (pd_var 8)))) (pss_dcons (psd_expr (pd_app 5 (pd_fr (pd_sub' (po_s 7) (po_f (pd_f k__law_take (hr.mono (by decide)) rfl g__law_take tk_d (pa_cons (po_s 0) (pa_cons (po_f (pd_b cr_len sd_len.snd rfl f_len PySem.boot_len (pa_cons (po_s 7) pa_nil))) pa_nil)))))))) (pss_done (psd_putN 6 pd_bl (po_e (pd_sub' (po_s 5) (po_e (pd_neg (po_e pd_int)))))))))) (pss_done (psd_ret (pd_var 5))))))
theorem p__law_minutes (k__law_job : Ok P w K mg base d__law_job ["world", "job"] 1 S__law_job) (f_sum : mg "sum" = none) (g__law_job : mg "_law_job" = some (.ref (He.ga K "_law_job"))) (cdv : Value) (A : Around) (outer : List PySem.Env) (s : Shared) (H : Hp) (E : XK) (hr : RoomG 1 (A.deeper (envOfC d__law_minutes.qual d__law_minutes.scope s.heap.objs.size (He.fAd K d__law_minutes.at_) cdv))) : PSsD (cxd P w K mg base d__law_minutes N__law_minutes cdv A outer s H E) (WW E) (List.range 2) d__law_minutes.body (W__law_minutes) := by
  have nd : N__law_minutes.Nodup := by decide +kernel
  exact (pss_done (psd_ret (pd_fr (pd_b (cr_sum rfl) sd_sum.snd rfl f_sum PyProof.Rows.boot_sum (pa_cons (po_e (pd_lc0 (ch := [2]) (own := [("job", 2)]) rfl nd (pid_seq (pd_var 1)) (blkOk_by (by kernel_rfl)) (fun _ _ _ _ _ => (pgd_name nd rfl (by first | exact Or.inl rfl | exact Or.inr rfl) (by decide))) (fun _ _ _ _ _ => (pd_fr (pd_sub' (po_f (pd_f k__law_job (hr.mono (by decide)) rfl g__law_job tk_0 (pa_cons (po_s 0) (pa_cons (po_s 2) pa_nil)))) (po_e pd_int)))))) pa_nil)))))
theorem p__law_is_quickest (k__law_is_number : Ok P w K mg base d__law_is_number ["value", "many"] 1 S__law_is_number) (k__law_left_out : Ok P w K mg base d__law_left_out ["world", "value"] 3 S__law_left_out) (k__law_minutes : Ok P w K mg base d__law_minutes ["world", "jobs"] 2 S__law_minutes) (f_isinstance : mg "isinstance" = none) (f_len : mg "len" = none) (f_repr : mg "repr" = none) (f_tuple : mg "tuple" = none) (g__law_is_number : mg "_law_is_number" = some (.ref (He.ga K "_law_is_number"))) (g__law_left_out : mg "_law_left_out" = some (.ref (He.ga K "_law_left_out"))) (g__law_minutes : mg "_law_minutes" = some (.ref (He.ga K "_law_minutes"))) (cdv : Value) (A : Around) (outer : List PySem.Env) (s : Shared) (H : Hp) (E : XK) (hr : RoomG 3 (A.deeper (envOfC d__law_is_quickest.qual d__law_is_quickest.scope s.heap.objs.size (He.fAd K d__law_is_quickest.at_) cdv))) : PSsD (cxd P w K mg base d__law_is_quickest N__law_is_quickest cdv A outer s H E) (WW E) (List.range 3) d__law_is_quickest.body (W__law_is_quickest) := by
  have nd : N__law_is_quickest.Nodup := by decide +kernel
  have hu64 := hr.r.units
  have hu66 : (A.deeper (envOfC d__law_is_quickest.qual d__law_is_quickest.scope s.heap.objs.size (He.fAd K d__law_is_quickest.at_) cdv)).units + 66 < cLine := by have := hr.r.un; omega
  have hgd := hr.g
  exact (pss_dcons (psd_if (pt_bor (pt_w (pw_or (pt_nt (pt_val (pd_isi1 rfl f_isinstance (po_s 2) (pe_tyn rfl f_tuple PyProof.Rows.boot_tuple)))) (pw_or (pt_ne hu64 (po_e (pd_b cr_len sd_len.snd rfl f_len PySem.boot_len (pa_cons (po_s 2) pa_nil))) (po_e pd_int)) (pw_or1 (pt_nt (pt_val (pd_f k__law_is_number (hr.mono (by decide)) rfl g__law_is_number tk_d (pa_cons (po_f (pd_sub' (po_s 2) (po_e pd_int))) (pa_cons (po_f (pd_add (po_s 1) (po_e pd_int))) pa_nil)))))))))) (pss_done (psd_ret pd_bl)) pss_dnil) (pss_dcons (psd_set nd (pd_fr (pd_f k__law_left_out (hr.mono (by decide)) rfl g__law_left_out tk_d (pa_cons (po_s 0) (pa_cons (po_f (pd_sub' (po_s 2) (po_e pd_int))) pa_nil))))) (pss_dcons (psd_if (pt_bor (pt_w (pw_or (pt_eq hu64 (po_s 3) (po_e (pd_lst pa_nil))) (pw_or1 (pt_ne hu64 (po_e (pd_b (cr_repr hu66 hgd) sd_repr.snd rfl f_repr PyProof.Rows.boot_repr (pa_cons (po_e (pd_sub' (po_s 3) (po_e pd_int))) pa_nil))) (po_e (pd_b (cr_repr hu66 hgd) sd_repr.snd rfl f_repr PyProof.Rows.boot_repr (pa_cons (po_e (pd_sub' (po_s 2) (po_e pd_int))) pa_nil)))))))) (pss_done (psd_ret pd_bl)) pss_dnil) (pss_done (psd_ret (pd_bor (pd_and (pd_eq hu64 (po_e (pd_sub' (po_s 2) (po_e pd_int))) (po_s 1)) (pd_one (pd_eq hu64 (po_f (pd_f k__law_minutes (hr.mono (by decide)) rfl g__law_minutes tk_d (pa_cons (po_s 0) (pa_cons (po_f (pd_sub' (po_s 2) (po_e pd_int))) pa_nil)))) (po_s 1))))))))))
theorem p__law_tuples_right (k__law_drawn : Ok P w K mg base d__law_drawn ["box", "world"] 3 S__law_drawn) (k__law_left_out : Ok P w K mg base d__law_left_out ["world", "value"] 3 S__law_left_out) (k__law_minutes : Ok P w K mg base d__law_minutes ["world", "jobs"] 2 S__law_minutes) (k__law_is_quickest : Ok P w K mg base d__law_is_quickest ["world", "least", "value"] 4 S__law_is_quickest) (k_is_quickest_short_order : Ok P w K mg base d_is_quickest_short_order ["search", "value"] 7 S_is_quickest_short_order) (f_range : mg "range" = none) (f_repr : mg "repr" = none) (f_tuple : mg "tuple" = none) (g__law_drawn : mg "_law_drawn" = some (.ref (He.ga K "_law_drawn"))) (g__law_is_quickest : mg "_law_is_quickest" = some (.ref (He.ga K "_law_is_quickest"))) (g__law_left_out : mg "_law_left_out" = some (.ref (He.ga K "_law_left_out"))) (g__law_minutes : mg "_law_minutes" = some (.ref (He.ga K "_law_minutes"))) (g_is_quickest_short_order : mg "is_quickest_short_order" = some (.ref (He.ga K "is_quickest_short_order"))) (cdv : Value) (A : Around) (outer : List PySem.Env) (s : Shared) (H : Hp) (E : XK) (hr : RoomG 7 (A.deeper (envOfC d__law_tuples_right.qual d__law_tuples_right.scope s.heap.objs.size (He.fAd K d__law_tuples_right.at_) cdv))) : PSsD (cxd P w K mg base d__law_tuples_right N__law_tuples_right cdv A outer s H E) (WW E) (List.range 5) d__law_tuples_right.body (W__law_tuples_right) := by
  have nd : N__law_tuples_right.Nodup := by decide +kernel
  have hu64 := hr.r.units
  have hu66 : (A.deeper (envOfC d__law_tuples_right.qual d__law_tuples_right.scope s.heap.objs.size (He.fAd K d__law_tuples_right.at_) cdv)).units + 66 < cLine := by have := hr.r.un; omega
  have hgd := hr.g
  exact (pss_dcons (psd_asg (ch := [8, 9, 10]) (pgd_tup rfl (pgsd_cons (pgd_name nd rfl (by first | exact Or.inl rfl | exact Or.inr rfl) (by decide)) (pgsd_cons (pgd_name nd rfl (by first | exact Or.inl rfl | exact Or.inr rfl) (by decide)) (pgsd_cons (pgd_name nd rfl (by first | exact Or.inl rfl | exact Or.inr rfl) (by decide)) pgsd_nil)))) (pd_var 4)) (pss_dcons (psd_set nd (pd_lst (pa_cons (po_f (pd_var 4)) (pa_cons (po_f (pd_tup (pa_cons (po_f (pd_var 8)) (pa_cons (po_f (pd_ty call_tuple_of sd_tuple rfl f_tuple PyProof.Rows.boot_tuple (pa_cons (po_s 9) pa_nil))) (pa_cons (po_f (pd_var 10)) pa_nil))))) (pa_cons (po_f (pd_tup (pa_cons (po_f (pd_add (po_s 8) (po_e pd_int))) (pa_cons (po_f (pd_var 9)) (pa_cons (po_f (pd_var 10)) pa_nil))))) (pa_cons (po_f (pd_tup (pa_cons (po_f (pd_sub (po_s 8) (po_e pd_int))) (pa_cons (po_f (pd_var 9)) (pa_cons (po_f (pd_var 10)) pa_nil))))) pa_nil)))))) (pss_dcons (psd_set nd (pd_add (po_s 5) (po_e (pd_lst (pa_cons (po_f (pd_lst (pa_cons (po_f (pd_var 8)) (pa_cons (po_f (pd_var 9)) (pa_cons (po_f (pd_var 10)) pa_nil))))) (pa_cons (po_f (pd_tup (pa_cons (po_f (pd_var 8)) (pa_cons (po_f (pd_var 9)) pa_nil)))) (pa_cons (po_f (pd_tup (pa_cons (po_f (pd_var 8)) (pa_cons (po_f (pd_var 9)) (pa_cons (po_f (pd_var 10)) (pa_cons (po_f pd_int) pa_nil)))))) (pa_cons (po_f (pd_tup (pa_cons (po_f (pd_var 8)) (pa_cons (po_f (pd_var 9)) (pa_cons (po_f pd_non) pa_nil))))) pa_nil)))))))) (pss_dcons (psd_set nd (pd_add (po_s 5) (po_e (pd_lst (pa_cons (po_f (pd_tup (pa_cons (po_f (pd_var 8)) (pa_cons (po_f (pd_var 9)) (pa_cons (po_f pd_int) pa_nil))))) (pa_cons (po_f (pd_tup (pa_cons (po_f (pd_var 8)) (pa_cons (po_f (pd_slice (po_s 9) (ppd_some pd_int) ppd_no)) (pa_cons (po_f (pd_var 10)) pa_nil))))) (pa_cons (po_f (pd_tup (pa_cons (po_f (pd_var 8)) (pa_cons (po_f (pd_revL (po_s 9))) (pa_cons (po_f (pd_var 10)) pa_nil))))) (pa_cons (po_f pd_non) (pa_cons (po_f (pd_tup pa_nil)) (pa_cons (po_f pd_str) pa_nil)))))))))) (pss_dcons (psd_set nd (pd_add (po_s 5) (po_e (pd_lst (pa_cons (po_f (pd_tup (pa_cons (po_f (pd_var 8)) (pa_cons (po_f pd_non) (pa_cons (po_f (pd_var 10)) pa_nil))))) (pa_cons (po_f (pd_tup (pa_cons (po_f pd_non) (pa_cons (po_f (pd_var 9)) (pa_cons (po_f (pd_var 10)) pa_nil))))) (pa_cons (po_f (pd_tup (pa_cons (po_f pd_bl) (pa_cons (po_f (pd_var 9)) (pa_cons (po_f (pd_var 10)) pa_nil))))) pa_nil))))))) (pss_dcons (psd_expr (pd_app 5 (pd_fr (pd_tup (pa_cons (po_f (pd_var 8)) (pa_cons (po_f (pd_add (po_s 9) (po_e (pd_slice (po_s 9) ppd_no (ppd_some pd_int))))) (pa_cons (po_f (pd_var 10)) pa_nil))))))) (pss_dcons (psd_for (ch := [6]) (passes_of rfl) rfl (pid_range1 rfl f_range (pa_cons (po_f pd_int) pa_nil)) (pgd_name nd rfl (by first | exact Or.inl rfl | exact Or.inr rfl) (by decide)) (pss_dcons (psd_set nd (pd_fr (pd_f k__law_drawn (hr.mono (by decide)) rfl g__law_drawn tk_d (pa_cons (po_s 0) (pa_cons (po_s 2) pa_nil))))) (pss_dcons (psd_set nd (pd_fr (pd_sub' (po_f (pd_f k__law_left_out (hr.mono (by decide)) rfl g__law_left_out tk_d (pa_cons (po_s 2) (pa_cons (po_s 11) pa_nil)))) (po_e pd_int)))) (pss_done (psd_set nd (pd_add (po_s 5) (po_e (pd_lst (pa_cons (po_f (pd_tup (pa_cons (po_f (pd_f k__law_minutes (hr.mono (by decide)) rfl g__law_minutes tk_d (pa_cons (po_s 2) (pa_cons (po_s 11) pa_nil)))) (pa_cons (po_f (pd_var 11)) (pa_cons (po_f (pd_var 12)) pa_nil))))) (pa_cons (po_f (pd_tup (pa_cons (po_f (pd_var 8)) (pa_cons (po_f (pd_var 11)) (pa_cons (po_f (pd_var 12)) pa_nil))))) (pa_cons (po_f (pd_tup (pa_cons (po_f (pd_var 8)) (pa_cons (po_f (pd_var 11)) (pa_cons (po_f (pd_var 10)) pa_nil))))) pa_nil))))))))))) (pss_dcons (psd_for (ch := [7]) (passes_of rfl) rfl (pid_seq (pd_var 5)) (pgd_name nd rfl (by first | exact Or.inl rfl | exact Or.inr rfl) (by decide)) (pss_dcons (psd_par 14 15 rfl nd (pa_cons (po_f (pd_f k__law_is_quickest (hr.mono (by decide)) rfl g__law_is_quickest tk_d (pa_cons (po_s 2) (pa_cons (po_s 3) (pa_cons (po_s 7) pa_nil))))) (pa_cons (po_f (pd_b (cr_repr hu66 hgd) sd_repr.snd rfl f_repr PyProof.Rows.boot_repr (pa_cons (po_s 7) pa_nil))) pa_nil))) (pss_dcons (psd_set nd (pd_fr (pd_if (pt_bor (pt_tr (po_s 14))) (pd_fK0 (ks := ["value", "search"]) (pm := [1, 0]) k_is_quickest_short_order (hr.mono (by decide)) rfl g_is_quickest_short_order (fun _ _ _ _ _ _ us ws h1 h2 => match us, ws with | [], [_, _] => rfl) tk_d (pkd_cons (po_s 7) (pkd_cons (po_s 1) pkd_nil))) (pd_f k_is_quickest_short_order (hr.mono (by decide)) rfl g_is_quickest_short_order tk_d (pa_cons (po_s 1) (pa_cons (po_s 7) pa_nil)))))) (pss_done (psd_if (pt_bor (pt_w (pw_or (ptd_if (pt_tr (po_s 14)) (pt_isNot (po_s 13) (po_e pd_bl)) (pt_isNot (po_s 13) (po_e pd_bl))) (pw_or1 (pt_ne hu64 (po_e (pd_b (cr_repr hu66 hgd) sd_repr.snd rfl f_repr PyProof.Rows.boot_repr (pa_cons (po_s 7) pa_nil))) (po_s 15)))))) (pss_done (psd_ret pd_bl)) pss_dnil))))) (pss_done (psd_ret pd_bl))))))))))
theorem p__law_search_right (k__law_search : Ok P w K mg base d__law_search ["box", "great"] 2 S__law_search) (k__law_take : Ok P w K mg base d__law_take ["box", "many"] 1 S__law_take) (k_Covers_init : Ok P w K mg base d_Covers_init ["self", "rows"] 5 S_Covers_init) (k_Search_init : Ok P w K mg base d_Search_init ["self", "covers", "inspections"] 4 S_Search_init) (k__law_lefts : Ok P w K mg base d__law_lefts ["world"] 1 S__law_lefts) (k__law_needed : Ok P w K mg base d__law_needed ["world", "left"] 2 S__law_needed) (k__law_minutes : Ok P w K mg base d__law_minutes ["world", "jobs"] 2 S__law_minutes) (k_quickest_short_order : Ok P w K mg base d_quickest_short_order ["search"] 5 S_quickest_short_order) (k__law_is_quickest : Ok P w K mg base d__law_is_quickest ["world", "least", "value"] 4 S__law_is_quickest) (k__law_job : Ok P w K mg base d__law_job ["world", "job"] 1 S__law_job) (k__law_tuples_right : Ok P w K mg base d__law_tuples_right ["box", "search", "world", "least", "kept"] 8 S__law_tuples_right) (f_isinstance : mg "isinstance" = none) (f_list : mg "list" = none) (f_min : mg "min" = none) (f_repr : mg "repr" = none) (f_tuple : mg "tuple" = none) (g_Covers : mg "Covers" = some (.ref (He.ga K "Covers"))) (g_Search : mg "Search" = some (.ref (He.ga K "Search"))) (g__law_is_quickest : mg "_law_is_quickest" = some (.ref (He.ga K "_law_is_quickest"))) (g__law_job : mg "_law_job" = some (.ref (He.ga K "_law_job"))) (g__law_lefts : mg "_law_lefts" = some (.ref (He.ga K "_law_lefts"))) (g__law_minutes : mg "_law_minutes" = some (.ref (He.ga K "_law_minutes"))) (g__law_needed : mg "_law_needed" = some (.ref (He.ga K "_law_needed"))) (g__law_search : mg "_law_search" = some (.ref (He.ga K "_law_search"))) (g__law_take : mg "_law_take" = some (.ref (He.ga K "_law_take"))) (g__law_tuples_right : mg "_law_tuples_right" = some (.ref (He.ga K "_law_tuples_right"))) (g_quickest_short_order : mg "quickest_short_order" = some (.ref (He.ga K "quickest_short_order"))) (mk_Covers : Mk K (He.ga K "Covers") (He.fAd K d_Covers_init.at_)) (mk_Search : Mk K (He.ga K "Search") (He.fAd K d_Search_init.at_)) (cdv : Value) (A : Around) (outer : List PySem.Env) (s : Shared) (H : Hp) (E : XK) (hr : RoomG 8 (A.deeper (envOfC d__law_search_right.qual d__law_search_right.scope s.heap.objs.size (He.fAd K d__law_search_right.at_) cdv))) : PSsD (cxd P w K mg base d__law_search_right N__law_search_right cdv A outer s H E) (WW E) (List.range 2) d__law_search_right.body (W__law_search_right) := by
  have nd : N__law_search_right.Nodup := by decide +kernel
  have hu64 := hr.r.units
  have hu66 : (A.deeper (envOfC d__law_search_right.qual d__law_search_right.scope s.heap.objs.size (He.fAd K d__law_search_right.at_) cdv)).units + 66 < cLine := by have := hr.r.un; omega
  have hgd := hr.g
  exact (pss_dcons (psd_asg (ch := [6, 7]) (pgd_tup rfl (pgsd_cons (pgd_name nd rfl (by first | exact Or.inl rfl | exact Or.inr rfl) (by decide)) (pgsd_cons (pgd_name nd rfl (by first | exact Or.inl rfl | exact Or.inr rfl) (by decide)) pgsd_nil))) (pd_tup (pa_cons (po_f (pd_f k__law_search (hr.mono (by decide)) rfl g__law_search tk_d (pa_cons (po_s 0) (pa_cons (po_s 1) pa_nil)))) (pa_cons (po_f (pd_eq hu64 (po_f (pd_f k__law_take (hr.mono (by decide)) rfl g__law_take tk_d (pa_cons (po_s 0) (pa_cons (po_e pd_int) pa_nil)))) (po_e pd_int))) pa_nil)))) (pss_dcons (psd_set nd (pd_fr (pd_mk0 (ks := ["inspections", "covers"]) (pm := [1, 0]) k_Search_init mk_Search (hr.mono (by decide)) rfl g_Search (fun _ _ _ _ _ _ us ws h1 h2 => match us, ws with | [_], [_, _] => rfl) tk_d (pkd_cons (po_f (pd_ty call_tuple_of sd_tuple rfl f_tuple PyProof.Rows.boot_tuple (pa_cons (po_e (pd_sub' (po_s 6) (po_e pd_int))) pa_nil))) (pkd_cons (po_f (pd_mk (n := 1) (ks := []) (pm := [0]) k_Covers_init mk_Covers (hr.mono (by decide)) rfl g_Covers (fun _ _ _ _ _ _ us ws h1 h2 => match us, ws with | [_, _], [] => rfl) tk_d (pa_cons (po_f (pd_sub' (po_s 6) (po_e pd_int))) pa_nil) pkd_nil)) pkd_nil))))) (pss_dcons (psd_set nd (pd_fr (pd_b (cr_minAll rfl) sd_min.snd rfl f_min PyProof.Rows.boot_min (pa_cons (po_e (pd_lc0 (ch := [10]) (own := [("left", 10)]) rfl nd (pid_seq (pd_f k__law_lefts (hr.mono (by decide)) rfl g__law_lefts tk_d (pa_cons (po_s 6) pa_nil))) (blkOk_by (by kernel_rfl)) (fun _ _ _ _ _ => (pgd_name nd rfl (by first | exact Or.inl rfl | exact Or.inr rfl) (by decide))) (fun _ _ _ _ _ => (pd_fr (pd_f k__law_minutes (hr.mono (by decide)) rfl g__law_minutes tk_0 (pa_cons (po_s 6) (pa_cons (po_f (pd_f k__law_needed (hr.mono (by decide)) rfl g__law_needed tk_0 (pa_cons (po_s 6) (pa_cons (po_s 10) pa_nil)))) pa_nil))))))) pa_nil)))) (pss_dcons (psd_set nd (pd_if (pt_bor (pt_tr (po_s 7))) (pd_fK0 (ks := ["search"]) (pm := [0]) k_quickest_short_order (hr.mono (by decide)) rfl g_quickest_short_order (fun _ _ _ _ _ _ us ws h1 h2 => match us, ws with | [], [_] => rfl) tk_d (pkd_cons (po_s 2) pkd_nil)) (pd_f k_quickest_short_order (hr.mono (by decide)) rfl g_quickest_short_order tk_d (pa_cons (po_s 2) pa_nil)))) (pss_dcons (psd_if (pt_bor (pt_w (pw_or (pt_nt (pt_val (pd_f k__law_is_quickest (hr.mono (by decide)) rfl g__law_is_quickest tk_d (pa_cons (po_s 6) (pa_cons (po_s 3) (pa_cons (po_s 4) pa_nil)))))) (pw_or1 (pt_nt (pt_val (pd_isi1 rfl f_isinstance (po_e (pd_sub' (po_s 4) (po_e pd_int))) (pe_tyn rfl f_list PyProof.Rows.boot_list)))))))) (pss_done (psd_ret pd_bl)) pss_dnil) (pss_dcons (psd_asg (ch := [8, 9]) (pgd_tup rfl (pgsd_cons (pgd_name nd rfl (by first | exact Or.inl rfl | exact Or.inr rfl) (by decide)) (pgsd_cons (pgd_name nd rfl (by first | exact Or.inl rfl | exact Or.inr rfl) (by decide)) pgsd_nil))) (pd_tup (pa_cons (po_f (pd_tup (pa_cons (po_f (pd_bor (pd_sub' (po_s 4) (po_e pd_int)))) (pa_cons (po_f (pd_bor (pd_ty cr_listA sd_list.snd rfl f_list PyProof.Rows.boot_list (pa_cons (po_e (pd_sub' (po_s 4) (po_e pd_int))) pa_nil)))) (pa_cons (po_f (pd_bor (pd_sub' (po_s 4) (po_e pd_int)))) pa_nil))))) (pa_cons (po_f pd_int) pa_nil)))) (pss_dcons (psd_expr (pd_appAt 4 1)) (pss_dcons (psd_if (pt_bor (pt_ne hu64 (po_e (pd_b (cr_repr hu66 hgd) sd_repr.snd rfl f_repr PyProof.Rows.boot_repr (pa_cons (po_f (pd_f k_quickest_short_order (hr.mono (by decide)) rfl g_quickest_short_order tk_d (pa_cons (po_f (pd_mk (n := 2) (ks := []) (pm := [0, 1]) k_Search_init mk_Search (hr.mono (by decide)) rfl g_Search (fun _ _ _ _ _ _ us ws h1 h2 => match us, ws with | [_, _, _], [] => rfl) tk_d (pa_cons (po_f (pd_mk (n := 1) (ks := []) (pm := [0]) k_Covers_init mk_Covers (hr.mono (by decide)) rfl g_Covers (fun _ _ _ _ _ _ us ws h1 h2 => match us, ws with | [_, _], [] => rfl) tk_d (pa_cons (po_f (pd_sub' (po_s 6) (po_e pd_int))) pa_nil) pkd_nil)) (pa_cons (po_f (pd_ty cr_listA sd_list.snd rfl f_list PyProof.Rows.boot_list (pa_cons (po_e (pd_sub' (po_s 6) (po_e pd_int))) pa_nil))) pa_nil)) pkd_nil)) pa_nil))) pa_nil))) (po_e (pd_b (cr_repr hu66 hgd) sd_repr.snd rfl f_repr PyProof.Rows.boot_repr (pa_cons (po_s 8) pa_nil))))) (pss_done (psd_ret pd_bl)) pss_dnil) (pss_dcons (psd_for (ch := [5]) (passes_of rfl) rfl (pid_seq (pd_sub' (po_s 8) (po_e pd_int))) (pgd_name nd rfl (by first | exact Or.inl rfl | exact Or.inr rfl) (by decide)) (pss_done (psd_set nd (pd_fr (pd_add (po_s 9) (po_e (pd_sub' (po_f (pd_f k__law_job (hr.mono (by decide)) rfl g__law_job tk_d (pa_cons (po_s 6) (pa_cons (po_s 5) pa_nil)))) (po_e pd_int)))))))) (pss_dcons (psd_if (pt_bor (pt_w (pw_or (pt_gt (po_s 9) (po_e (pd_sub' (po_s 8) (po_e pd_int)))) (pw_or1 (pt_ne hu64 (po_e (pd_lc1 (ch := [5]) (own := [("job", 5)]) rfl nd (pid_seq (pd_f k__law_lefts (hr.mono (by decide)) rfl g__law_lefts tk_d (pa_cons (po_s 6) pa_nil))) (blkOk_by (by kernel_rfl)) (fun _ _ _ _ _ => (pgd_name nd rfl (by first | exact Or.inl rfl | exact Or.inr rfl) (by decide))) (fun _ _ _ _ _ => (pt_bor (pt_w (pw_and (pt_ne hu64 (po_s 5) (po_e (pd_sub' (po_s 8) (po_e pd_int)))) (pw_and1 (pt_notIn (po_s 5) (po_e (pd_sub' (po_s 8) (po_e pd_int))))))))) (fun _ _ _ _ _ => (pd_fr (pd_var 5))))) (po_e (pd_lst pa_nil))))))) (pss_done (psd_ret pd_bl)) pss_dnil) (pss_done (psd_ret (pd_fr (pd_f k__law_tuples_right (hr.mono (by decide)) rfl g__law_tuples_right tk_d (pa_cons (po_s 0) (pa_cons (po_s 2) (pa_cons (po_s 6) (pa_cons (po_s 3) (pa_cons (po_s 8) pa_nil)))))))))))))))))))
theorem p_law (k__law_cell : Ok P w K mg base d__law_cell ["script", "k"] 1 S__law_cell) (k__law_box : Ok P w K mg base d__law_box ["great"] 1 S__law_box) (k__law_search_right : Ok P w K mg base d__law_search_right ["box", "great"] 9 S__law_search_right) (f_len : mg "len" = none) (f_max : mg "max" = none) (f_min : mg "min" = none) (f_range : mg "range" = none) (g__law_box : mg "_law_box" = some (.ref (He.ga K "_law_box"))) (g__law_cell : mg "_law_cell" = some (.ref (He.ga K "_law_cell"))) (g__law_search_right : mg "_law_search_right" = some (.ref (He.ga K "_law_search_right"))) (cdv : Value) (A : Around) (outer : List PySem.Env) (s : Shared) (H : Hp) (E : XK) (hr : RoomG 9 (A.deeper (envOfC d_law.qual d_law.scope s.heap.objs.size (He.fAd K d_law.at_) cdv))) : PSsD (cxd P w K mg base d_law N_law cdv A outer s H E) (WW E) (List.range 1) d_law.body (W_law) := by
  have nd : N_law.Nodup := by decide +kernel
  have hu64 := hr.r.units
  exact (pss_dcons (psd_for (ch := [1]) (passes_of rfl) rfl (pid_range1 rfl f_range (pa_cons (po_f (pd_b (cr_maxAll rfl) sd_max.snd rfl f_max PyProof.Rows.boot_max (pa_cons (po_e pd_int) (pa_cons (po_e (pd_b (cr_minAll rfl) sd_min.snd rfl f_min PyProof.Rows.boot_min (pa_cons (po_e pd_int) (pa_cons (po_e (pd_b cr_len sd_len.snd rfl f_len PySem.boot_len (pa_cons (po_s 0) pa_nil))) pa_nil)))) pa_nil)))) pa_nil)) (pgd_name nd rfl (by first | exact Or.inl rfl | exact Or.inr rfl) (by decide)) (pss_dcons (psd_set nd (pd_f k__law_box (hr.mono (by decide)) rfl g__law_box tk_d (pa_cons (po_f (pd_f k__law_cell (hr.mono (by decide)) rfl g__law_cell tk_d (pa_cons (po_s 0) (pa_cons (po_s 1) pa_nil)))) pa_nil))) (pss_dcons (psd_for (ch := [3]) (passes_of rfl) rfl (pid_range1 rfl f_range (pa_cons (po_f pd_int) pa_nil)) (pgd_name nd rfl (by first | exact Or.inl rfl | exact Or.inr rfl) (by decide)) (pss_done (psd_if (pt_nt (pt_val (pd_f k__law_search_right (hr.mono (by decide)) rfl g__law_search_right tk_d (pa_cons (po_s 2) (pa_cons (po_e pd_bl) pa_nil))))) (pss_done (psd_ret pd_bl)) pss_dnil))) (pss_done (psd_if (pt_w (pw_and (pt_eq hu64 (po_s 1) (po_e pd_int)) (pw_and1 (pt_nt (pt_val (pd_f k__law_search_right (hr.mono (by decide)) rfl g__law_search_right tk_d (pa_cons (po_s 2) (pa_cons (po_e pd_bl) pa_nil)))))))) (pss_done (psd_ret pd_bl)) pss_dnil))))) (pss_done (psd_ret pd_bl)))

end

/-! ### the facts of the head -/
structure Fx (K : PySem.W.Frag) (mg : Str → Option Value) : Prop where
  f_abs : mg "abs" = none
  f_all : mg "all" = none
  f_bool : mg "bool" = none
  f_enumerate : mg "enumerate" = none
  f_int : mg "int" = none
  f_isinstance : mg "isinstance" = none
  f_len : mg "len" = none
  f_list : mg "list" = none
  f_max : mg "max" = none
  f_min : mg "min" = none
  f_range : mg "range" = none
  f_repr : mg "repr" = none
  f_set : mg "set" = none
  f_sorted : mg "sorted" = none
  f_sum : mg "sum" = none
  f_tuple : mg "tuple" = none
  g_Covers : mg "Covers" = some (.ref (He.ga K "Covers"))
  g_Search : mg "Search" = some (.ref (He.ga K "Search"))
  g__law_above : mg "_law_above" = some (.ref (He.ga K "_law_above"))
  g__law_box : mg "_law_box" = some (.ref (He.ga K "_law_box"))
  g__law_cell : mg "_law_cell" = some (.ref (He.ga K "_law_cell"))
  g__law_drawn : mg "_law_drawn" = some (.ref (He.ga K "_law_drawn"))
  g__law_is_number : mg "_law_is_number" = some (.ref (He.ga K "_law_is_number"))
  g__law_is_quickest : mg "_law_is_quickest" = some (.ref (He.ga K "_law_is_quickest"))
  g__law_job : mg "_law_job" = some (.ref (He.ga K "_law_job"))
  g__law_left_out : mg "_law_left_out" = some (.ref (He.ga K "_law_left_out"))
  g__law_lefts : mg "_law_lefts" = some (.ref (He.ga K "_law_lefts"))
  g__law_minutes : mg "_law_minutes" = some (.ref (He.ga K "_law_minutes"))
  g__law_needed : mg "_law_needed" = some (.ref (He.ga K "_law_needed"))
  g__law_search : mg "_law_search" = some (.ref (He.ga K "_law_search"))
  g__law_search_right : mg "_law_search_right" = some (.ref (He.ga K "_law_search_right"))
  g__law_take : mg "_law_take" = some (.ref (He.ga K "_law_take"))
  g__law_tuples_right : mg "_law_tuples_right" = some (.ref (He.ga K "_law_tuples_right"))
  g_above_by : mg "above_by" = some (.ref (He.ga K "above_by"))
  g_are_rows : mg "are_rows" = some (.ref (He.ga K "are_rows"))
  g_choices : mg "choices" = some (.ref (He.ga K "choices"))
  g_inspections_in : mg "inspections_in" = some (.ref (He.ga K "inspections_in"))
  g_is_beginning : mg "is_beginning" = some (.ref (He.ga K "is_beginning"))
  g_is_index : mg "is_index" = some (.ref (He.ga K "is_index"))
  g_is_inspection : mg "is_inspection" = some (.ref (He.ga K "is_inspection"))
  g_is_integer : mg "is_integer" = some (.ref (He.ga K "is_integer"))
  g_is_list : mg "is_list" = some (.ref (He.ga K "is_list"))
  g_is_positive : mg "is_positive" = some (.ref (He.ga K "is_positive"))
  g_is_quickest_short_order : mg "is_quickest_short_order" = some (.ref (He.ga K "is_quickest_short_order"))
  g_is_row : mg "is_row" = some (.ref (He.ga K "is_row"))
  g_is_short_order : mg "is_short_order" = some (.ref (He.ga K "is_short_order"))
  g_is_tuple : mg "is_tuple" = some (.ref (He.ga K "is_tuple"))
  g_jobs_without : mg "jobs_without" = some (.ref (He.ga K "jobs_without"))
  g_left_out : mg "left_out" = some (.ref (He.ga K "left_out"))
  g_minutes_in : mg "minutes_in" = some (.ref (He.ga K "minutes_in"))
  g_paths_by : mg "paths_by" = some (.ref (He.ga K "paths_by"))
  g_quickest_short_order : mg "quickest_short_order" = some (.ref (He.ga K "quickest_short_order"))
  g_tells_left : mg "tells_left" = some (.ref (He.ga K "tells_left"))
  m_Covers_len : Meth K (He.ga K "Covers") "__len__" (He.fAd K d_Covers_len.at_)
  m_Search_contains : Meth K (He.ga K "Search") "__contains__" (He.fAd K d_Search_contains.at_)
  m_Search_len : Meth K (He.ga K "Search") "__len__" (He.fAd K d_Search_len.at_)
  mk_Covers : Mk K (He.ga K "Covers") (He.fAd K d_Covers_init.at_)
  mk_Search : Mk K (He.ga K "Search") (He.fAd K d_Search_init.at_)
theorem fx_of {K : PySem.W.Frag} {mg : Str → Option Value} {h : Heap} (c : He.SaysD fa fn K) (X : K.In h) (G : h.Ns mainGlobals mg) : Fx K mg where
  f_abs := He.free_ok X G (c.fact 62 (f := .free "abs") rfl)
  f_all := He.free_ok X G (c.fact 63 (f := .free "all") rfl)
  f_bool := He.free_ok X G (c.fact 64 (f := .free "bool") rfl)
  f_enumerate := He.free_ok X G (c.fact 65 (f := .free "enumerate") rfl)
  f_int := He.free_ok X G (c.fact 66 (f := .free "int") rfl)
  f_isinstance := He.free_ok X G (c.fact 67 (f := .free "isinstance") rfl)
  f_len := He.free_ok X G (c.fact 68 (f := .free "len") rfl)
  f_list := He.free_ok X G (c.fact 69 (f := .free "list") rfl)
  f_max := He.free_ok X G (c.fact 70 (f := .free "max") rfl)
  f_min := He.free_ok X G (c.fact 71 (f := .free "min") rfl)
  f_range := He.free_ok X G (c.fact 72 (f := .free "range") rfl)
  f_repr := He.free_ok X G (c.fact 73 (f := .free "repr") rfl)
  f_set := He.free_ok X G (c.fact 74 (f := .free "set") rfl)
  f_sorted := He.free_ok X G (c.fact 75 (f := .free "sorted") rfl)
  f_sum := He.free_ok X G (c.fact 76 (f := .free "sum") rfl)
  f_tuple := He.free_ok X G (c.fact 77 (f := .free "tuple") rfl)
  g_Covers := He.glo_ok X G (c.fact 34 (f := .glo "Covers") rfl)
  g_Search := He.glo_ok X G (c.fact 10 (f := .glo "Search") rfl)
  g__law_above := He.glo_ok X G (c.fact 48 (f := .glo "_law_above") rfl)
  g__law_box := He.glo_ok X G (c.fact 44 (f := .glo "_law_box") rfl)
  g__law_cell := He.glo_ok X G (c.fact 43 (f := .glo "_law_cell") rfl)
  g__law_drawn := He.glo_ok X G (c.fact 55 (f := .glo "_law_drawn") rfl)
  g__law_is_number := He.glo_ok X G (c.fact 52 (f := .glo "_law_is_number") rfl)
  g__law_is_quickest := He.glo_ok X G (c.fact 57 (f := .glo "_law_is_quickest") rfl)
  g__law_job := He.glo_ok X G (c.fact 51 (f := .glo "_law_job") rfl)
  g__law_left_out := He.glo_ok X G (c.fact 53 (f := .glo "_law_left_out") rfl)
  g__law_lefts := He.glo_ok X G (c.fact 50 (f := .glo "_law_lefts") rfl)
  g__law_minutes := He.glo_ok X G (c.fact 56 (f := .glo "_law_minutes") rfl)
  g__law_needed := He.glo_ok X G (c.fact 49 (f := .glo "_law_needed") rfl)
  g__law_search := He.glo_ok X G (c.fact 47 (f := .glo "_law_search") rfl)
  g__law_search_right := He.glo_ok X G (c.fact 59 (f := .glo "_law_search_right") rfl)
  g__law_take := He.glo_ok X G (c.fact 45 (f := .glo "_law_take") rfl)
  g__law_tuples_right := He.glo_ok X G (c.fact 58 (f := .glo "_law_tuples_right") rfl)
  g_above_by := He.glo_ok X G (c.fact 9 (f := .glo "above_by") rfl)
  g_are_rows := He.glo_ok X G (c.fact 32 (f := .glo "are_rows") rfl)
  g_choices := He.glo_ok X G (c.fact 27 (f := .glo "choices") rfl)
  g_inspections_in := He.glo_ok X G (c.fact 22 (f := .glo "inspections_in") rfl)
  g_is_beginning := He.glo_ok X G (c.fact 21 (f := .glo "is_beginning") rfl)
  g_is_index := He.glo_ok X G (c.fact 5 (f := .glo "is_index") rfl)
  g_is_inspection := He.glo_ok X G (c.fact 8 (f := .glo "is_inspection") rfl)
  g_is_integer := He.glo_ok X G (c.fact 3 (f := .glo "is_integer") rfl)
  g_is_list := He.glo_ok X G (c.fact 6 (f := .glo "is_list") rfl)
  g_is_positive := He.glo_ok X G (c.fact 4 (f := .glo "is_positive") rfl)
  g_is_quickest_short_order := He.glo_ok X G (c.fact 30 (f := .glo "is_quickest_short_order") rfl)
  g_is_row := He.glo_ok X G (c.fact 31 (f := .glo "is_row") rfl)
  g_is_short_order := He.glo_ok X G (c.fact 26 (f := .glo "is_short_order") rfl)
  g_is_tuple := He.glo_ok X G (c.fact 7 (f := .glo "is_tuple") rfl)
  g_jobs_without := He.glo_ok X G (c.fact 24 (f := .glo "jobs_without") rfl)
  g_left_out := He.glo_ok X G (c.fact 23 (f := .glo "left_out") rfl)
  g_minutes_in := He.glo_ok X G (c.fact 25 (f := .glo "minutes_in") rfl)
  g_paths_by := He.glo_ok X G (c.fact 33 (f := .glo "paths_by") rfl)
  g_quickest_short_order := He.glo_ok X G (c.fact 28 (f := .glo "quickest_short_order") rfl)
  g_tells_left := He.glo_ok X G (c.fact 29 (f := .glo "tells_left") rfl)
  m_Covers_len := He.meth_ok (c.fact 39 (f := .meth "Covers" "__len__") rfl)
  m_Search_contains := He.meth_ok (c.fact 16 (f := .meth "Search" "__contains__") rfl)
  m_Search_len := He.meth_ok (c.fact 15 (f := .meth "Search" "__len__") rfl)
  mk_Covers := He.mkr_ok (c.fact 36 (f := .mkr "Covers") rfl)
  mk_Search := He.mkr_ok (c.fact 12 (f := .mkr "Search") rfl)
theorem at_ok {K : PySem.W.Frag} (c : He.SaysD fa fn K) : AtOk K at_ := by
  intro C f h
  have hh : (C = "Covers" ∧ f = "rows") ∨ (C = "Covers" ∧ f = "paths") ∨ (C = "Search" ∧ f = "covers") ∨ (C = "Search" ∧ f = "inspections") ∨ (C = "Search" ∧ f = "rows") ∨ (C = "Search" ∧ f = "above") := by
    simpa [at_, Bool.and_eq_true, Bool.or_eq_true, and_or_left, or_assoc] using h
  rcases hh with ⟨rfl, rfl⟩ | ⟨rfl, rfl⟩ | ⟨rfl, rfl⟩ | ⟨rfl, rfl⟩ | ⟨rfl, rfl⟩ | ⟨rfl, rfl⟩
  · exact ⟨He.cls_ok (c.fact 35 (f := .cls "Covers") rfl), He.noat_ok (c.fact 42 (f := .noat "Covers" "rows") rfl)⟩
  · exact ⟨He.cls_ok (c.fact 35 (f := .cls "Covers") rfl), He.noat_ok (c.fact 41 (f := .noat "Covers" "paths") rfl)⟩
  · exact ⟨He.cls_ok (c.fact 11 (f := .cls "Search") rfl), He.noat_ok (c.fact 18 (f := .noat "Search" "covers") rfl)⟩
  · exact ⟨He.cls_ok (c.fact 11 (f := .cls "Search") rfl), He.noat_ok (c.fact 19 (f := .noat "Search" "inspections") rfl)⟩
  · exact ⟨He.cls_ok (c.fact 11 (f := .cls "Search") rfl), He.noat_ok (c.fact 20 (f := .noat "Search" "rows") rfl)⟩
  · exact ⟨He.cls_ok (c.fact 11 (f := .cls "Search") rfl), He.noat_ok (c.fact 17 (f := .noat "Search" "above") rfl)⟩
section
variable {P : Program} {w : World} {K : PySem.W.Frag} {mg : Str → Option Value} {base : Heap}
theorem j_is_integer (c : He.SaysD fa fn K) (f : Fx K mg) : Ok P w K mg base d_is_integer ["value"] 1 S_is_integer :=
  mk_ok c 0 rfl rfl rfl (fun _ _ _ _ _ _ us hl => match us, hl with | [_], _ => rfl) ⟨rfl, rfl, rfl, by decide +kernel, rfl, by decide +kernel, by decide +kernel⟩ (fun cdv A outer s H E hr => p_is_integer f.f_bool f.f_int f.f_isinstance cdv A outer s H E hr) s_is_integer
theorem j_is_positive (c : He.SaysD fa fn K) (f : Fx K mg) : Ok P w K mg base d_is_positive ["value"] 2 S_is_positive :=
  mk_ok c 1 rfl rfl rfl (fun _ _ _ _ _ _ us hl => match us, hl with | [_], _ => rfl) ⟨rfl, rfl, rfl, by decide +kernel, rfl, by decide +kernel, by decide +kernel⟩ (fun cdv A outer s H E hr => p_is_positive (j_is_integer c f) f.g_is_integer cdv A outer s H E hr) s_is_positive
theorem j_is_index (c : He.SaysD fa fn K) (f : Fx K mg) : Ok P w K mg base d_is_index ["value", "many"] 2 S_is_index :=
  mk_ok c 2 rfl rfl rfl (fun _ _ _ _ _ _ us hl => match us, hl with | [_, _], _ => rfl) ⟨rfl, rfl, rfl, by decide +kernel, rfl, by decide +kernel, by decide +kernel⟩ (fun cdv A outer s H E hr => p_is_index (j_is_integer c f) f.g_is_integer cdv A outer s H E hr) s_is_index
theorem j_is_list (c : He.SaysD fa fn K) (f : Fx K mg) : Ok P w K mg base d_is_list ["value"] 1 S_is_list :=
  mk_ok c 3 rfl rfl rfl (fun _ _ _ _ _ _ us hl => match us, hl with | [_], _ => rfl) ⟨rfl, rfl, rfl, by decide +kernel, rfl, by decide +kernel, by decide +kernel⟩ (fun cdv A outer s H E hr => p_is_list f.f_isinstance f.f_list f.f_tuple cdv A outer s H E hr) s_is_list
theorem j_is_tuple (c : He.SaysD fa fn K) (f : Fx K mg) : Ok P w K mg base d_is_tuple ["value", "many"] 1 S_is_tuple :=
  mk_ok c 4 rfl rfl rfl (fun _ _ _ _ _ _ us hl => match us, hl with | [_, _], _ => rfl) ⟨rfl, rfl, rfl, by decide +kernel, rfl, by decide +kernel, by decide +kernel⟩ (fun cdv A outer s H E hr => p_is_tuple f.f_isinstance f.f_len f.f_tuple cdv A outer s H E hr) s_is_tuple
theorem j_is_inspection (c : He.SaysD fa fn K) (f : Fx K mg) : Ok P w K mg base d_is_inspection ["value", "covers"] 3 S_is_inspection :=
  mk_ok c 5 rfl rfl rfl (fun _ _ _ _ _ _ us hl => match us, hl with | [_, _], _ => rfl) ⟨rfl, rfl, rfl, by decide +kernel, rfl, by decide +kernel, by decide +kernel⟩ (fun cdv A outer s H E hr => p_is_inspection (j_is_tuple c f) (j_is_index c f) (j_is_positive c f) f.g_is_index f.g_is_positive f.g_is_tuple cdv A outer s H E hr) s_is_inspection
theorem j_above_by (c : He.SaysD fa fn K) (f : Fx K mg) : Ok P w K mg base d_above_by ["rows"] 1 S_above_by :=
  mk_ok c 6 rfl rfl rfl (fun _ _ _ _ _ _ us hl => match us, hl with | [_], _ => rfl) ⟨rfl, rfl, rfl, by decide +kernel, rfl, by decide +kernel, by decide +kernel⟩ (fun cdv A outer s H E hr => p_above_by f.f_tuple cdv A outer s H E hr) s_above_by
theorem j_is_row (c : He.SaysD fa fn K) (f : Fx K mg) : Ok P w K mg base d_is_row ["value", "number"] 3 S_is_row :=
  mk_ok c 21 rfl rfl rfl (fun _ _ _ _ _ _ us hl => match us, hl with | [_, _], _ => rfl) ⟨rfl, rfl, rfl, by decide +kernel, rfl, by decide +kernel, by decide +kernel⟩ (fun cdv A outer s H E hr => p_is_row (j_is_tuple c f) (j_is_index c f) (j_is_positive c f) f.g_is_index f.g_is_positive f.g_is_tuple cdv A outer s H E hr) s_is_row
theorem j_are_rows (c : He.SaysD fa fn K) (f : Fx K mg) : Ok P w K mg base d_are_rows ["value"] 4 S_are_rows :=
  mk_ok c 22 rfl rfl rfl (fun _ _ _ _ _ _ us hl => match us, hl with | [_], _ => rfl) ⟨rfl, rfl, rfl, by decide +kernel, rfl, by decide +kernel, by decide +kernel⟩ (fun cdv A outer s H E hr => p_are_rows (j_is_list c f) (j_is_row c f) f.f_all f.f_enumerate f.g_is_list f.g_is_row cdv A outer s H E hr) s_are_rows
theorem j_paths_by (c : He.SaysD fa fn K) (f : Fx K mg) : Ok P w K mg base d_paths_by ["rows"] 1 S_paths_by :=
  mk_ok c 23 rfl rfl rfl (fun _ _ _ _ _ _ us hl => match us, hl with | [_], _ => rfl) ⟨rfl, rfl, rfl, by decide +kernel, rfl, by decide +kernel, by decide +kernel⟩ (fun cdv A outer s H E hr => p_paths_by f.f_enumerate f.f_tuple cdv A outer s H E hr) s_paths_by
theorem j_Covers_init (c : He.SaysD fa fn K) (f : Fx K mg) : Ok P w K mg base d_Covers_init ["self", "rows"] 5 S_Covers_init :=
  mk_ok c 24 rfl rfl rfl (fun _ _ _ _ _ _ us hl => match us, hl with | [_, _], _ => rfl) ⟨rfl, rfl, rfl, by decide +kernel, rfl, by decide +kernel, by decide +kernel⟩ (fun cdv A outer s H E hr => p_Covers_init (j_are_rows c f) (j_paths_by c f) f.f_tuple f.g_are_rows f.g_paths_by (at_ok c) cdv A outer s H E hr) s_Covers_init
theorem j_Covers_len (c : He.SaysD fa fn K) (f : Fx K mg) : Ok P w K mg base d_Covers_len ["self"] 1 S_Covers_len :=
  mk_ok c 26 rfl rfl rfl (fun _ _ _ _ _ _ us hl => match us, hl with | [_], _ => rfl) ⟨rfl, rfl, rfl, by decide +kernel, rfl, by decide +kernel, by decide +kernel⟩ (fun cdv A outer s H E hr => p_Covers_len f.f_len (at_ok c) cdv A outer s H E hr) s_Covers_len
theorem j_Search_init (c : He.SaysD fa fn K) (f : Fx K mg) : Ok P w K mg base d_Search_init ["self", "covers", "inspections"] 4 S_Search_init :=
  mk_ok c 7 rfl rfl rfl (fun _ _ _ _ _ _ us hl => match us, hl with | [_, _, _], _ => rfl) ⟨rfl, rfl, rfl, by decide +kernel, rfl, by decide +kernel, by decide +kernel⟩ (fun cdv A outer s H E hr => p_Search_init (j_is_list c f) (j_Covers_len c f) (j_is_inspection c f) (j_above_by c f) f.f_all f.f_len f.f_tuple f.g_above_by f.g_is_inspection f.g_is_list f.m_Covers_len (at_ok c) cdv A outer s H E hr) s_Search_init
theorem j_Search_len (c : He.SaysD fa fn K) (f : Fx K mg) : Ok P w K mg base d_Search_len ["self"] 1 S_Search_len :=
  mk_ok c 9 rfl rfl rfl (fun _ _ _ _ _ _ us hl => match us, hl with | [_], _ => rfl) ⟨rfl, rfl, rfl, by decide +kernel, rfl, by decide +kernel, by decide +kernel⟩ (fun cdv A outer s H E hr => p_Search_len f.f_len (at_ok c) cdv A outer s H E hr) s_Search_len
theorem j_Search_contains (c : He.SaysD fa fn K) (f : Fx K mg) : Ok P w K mg base d_Search_contains ["self", "value"] 3 S_Search_contains :=
  mk_ok c 10 rfl rfl rfl (fun _ _ _ _ _ _ us hl => match us, hl with | [_, _], _ => rfl) ⟨rfl, rfl, rfl, by decide +kernel, rfl, by decide +kernel, by decide +kernel⟩ (fun cdv A outer s H E hr => p_Search_contains (j_is_index c f) f.f_len f.g_is_index (at_ok c) cdv A outer s H E hr) s_Search_contains
theorem j_is_beginning (c : He.SaysD fa fn K) (f : Fx K mg) : Ok P w K mg base d_is_beginning ["search", "value"] 4 S_is_beginning :=
  mk_ok c 11 rfl rfl rfl (fun _ _ _ _ _ _ us hl => match us, hl with | [_, _], _ => rfl) ⟨rfl, rfl, rfl, by decide +kernel, rfl, by decide +kernel, by decide +kernel⟩ (fun cdv A outer s H E hr => p_is_beginning (j_is_list c f) (j_Search_len c f) (j_Search_contains c f) f.f_len f.g_is_list f.m_Search_contains f.m_Search_len (at_ok c) cdv A outer s H E hr) s_is_beginning
theorem j_inspections_in (c : He.SaysD fa fn K) (f : Fx K mg) : Ok P w K mg base d_inspections_in ["search"] 3 S_inspections_in :=
  mk_ok c 12 rfl rfl rfl (fun _ _ _ _ _ _ us hl => match us, hl with | [_], _ => rfl) ⟨rfl, rfl, rfl, by decide +kernel, rfl, by decide +kernel, by decide +kernel⟩ (fun cdv A outer s H E hr => p_inspections_in (j_Covers_len c f) (j_Search_len c f) f.f_len f.f_list f.f_range f.m_Covers_len f.m_Search_len (at_ok c) cdv A outer s H E hr) s_inspections_in
theorem j_left_out (c : He.SaysD fa fn K) (f : Fx K mg) : Ok P w K mg base d_left_out ["search", "jobs"] 4 S_left_out :=
  mk_ok c 13 rfl rfl rfl (fun _ _ _ _ _ _ us hl => match us, hl with | [_, _], _ => rfl) ⟨rfl, rfl, rfl, by decide +kernel, rfl, by decide +kernel, by decide +kernel⟩ (fun cdv A outer s H E hr => p_left_out (j_inspections_in c f) f.g_inspections_in cdv A outer s H E hr) s_left_out
theorem j_jobs_without (c : He.SaysD fa fn K) (f : Fx K mg) : Ok P w K mg base d_jobs_without ["search", "left"] 4 S_jobs_without :=
  mk_ok c 14 rfl rfl rfl (fun _ _ _ _ _ _ us hl => match us, hl with | [_, _], _ => rfl) ⟨rfl, rfl, rfl, by decide +kernel, rfl, by decide +kernel, by decide +kernel⟩ (fun cdv A outer s H E hr => p_jobs_without (j_inspections_in c f) f.f_sorted f.g_inspections_in (at_ok c) cdv A outer s H E hr) (s_jobs_without P w)
theorem j_minutes_in (c : He.SaysD fa fn K) (f : Fx K mg) : Ok P w K mg base d_minutes_in ["search", "jobs"] 1 S_minutes_in :=
  mk_ok c 15 rfl rfl rfl (fun _ _ _ _ _ _ us hl => match us, hl with | [_, _], _ => rfl) ⟨rfl, rfl, rfl, by decide +kernel, rfl, by decide +kernel, by decide +kernel⟩ (fun cdv A outer s H E hr => p_minutes_in f.f_sum (at_ok c) cdv A outer s H E hr) s_minutes_in
theorem j_is_short_order (c : He.SaysD fa fn K) (f : Fx K mg) : Ok P w K mg base d_is_short_order ["search", "value"] 5 S_is_short_order :=
  mk_ok c 16 rfl rfl rfl (fun _ _ _ _ _ _ us hl => match us, hl with | [_, _], _ => rfl) ⟨rfl, rfl, rfl, by decide +kernel, rfl, by decide +kernel, by decide +kernel⟩ (fun cdv A outer s H E hr => p_is_short_order (j_is_beginning c f) (j_left_out c f) (j_jobs_without c f) f.f_len f.f_min f.f_sorted f.g_is_beginning f.g_jobs_without f.g_left_out (at_ok c) cdv A outer s H E hr) s_is_short_order
theorem j_choices (c : He.SaysD fa fn K) (f : Fx K mg) : Ok P w K mg base d_choices ["search"] 4 S_choices :=
  mk_ok c 17 rfl rfl rfl (fun _ _ _ _ _ _ us hl => match us, hl with | [_], _ => rfl) ⟨rfl, rfl, rfl, by decide +kernel, rfl, by decide +kernel, by decide +kernel⟩ (fun cdv A outer s H E hr => p_choices (j_inspections_in c f) f.f_len f.g_inspections_in (at_ok c) cdv A outer s H E hr) s_choices
theorem j_quickest_short_order (c : He.SaysD fa fn K) (f : Fx K mg) : Ok P w K mg base d_quickest_short_order ["search"] 5 S_quickest_short_order :=
  mk_ok c 18 rfl rfl rfl (fun _ _ _ _ _ _ us hl => match us, hl with | [_], _ => rfl) ⟨rfl, rfl, rfl, by decide +kernel, rfl, by decide +kernel, by decide +kernel⟩ (fun cdv A outer s H E hr => p_quickest_short_order (j_choices c f) (j_jobs_without c f) (j_minutes_in c f) f.g_choices f.g_jobs_without f.g_minutes_in cdv A outer s H E hr) s_quickest_short_order
theorem j_tells_left (c : He.SaysD fa fn K) (f : Fx K mg) : Ok P w K mg base d_tells_left ["search", "value"] 6 S_tells_left :=
  mk_ok c 19 rfl rfl rfl (fun _ _ _ _ _ _ us hl => match us, hl with | [_, _], _ => rfl) ⟨rfl, rfl, rfl, by decide +kernel, rfl, by decide +kernel, by decide +kernel⟩ (fun cdv A outer s H E hr => p_tells_left (j_is_tuple c f) (j_is_integer c f) (j_is_short_order c f) (j_left_out c f) f.g_is_integer f.g_is_short_order f.g_is_tuple f.g_left_out cdv A outer s H E hr) s_tells_left
theorem j_is_quickest_short_order (c : He.SaysD fa fn K) (f : Fx K mg) : Ok P w K mg base d_is_quickest_short_order ["search", "value"] 7 S_is_quickest_short_order :=
  mk_ok c 20 rfl rfl rfl (fun _ _ _ _ _ _ us hl => match us, hl with | [_, _], _ => rfl) ⟨rfl, rfl, rfl, by decide +kernel, rfl, by decide +kernel, by decide +kernel⟩ (fun cdv A outer s H E hr => p_is_quickest_short_order (j_tells_left c f) (j_minutes_in c f) (j_quickest_short_order c f) f.g_minutes_in f.g_quickest_short_order f.g_tells_left cdv A outer s H E hr) s_is_quickest_short_order
theorem j__law_cell (c : He.SaysD fa fn K) (f : Fx K mg) : Ok P w K mg base d__law_cell ["script", "k"] 1 S__law_cell :=
  mk_ok c 28 rfl rfl rfl (fun _ _ _ _ _ _ us hl => match us, hl with | [_, _], _ => rfl) ⟨rfl, rfl, rfl, by decide +kernel, rfl, by decide +kernel, by decide +kernel⟩ (fun cdv A outer s H E hr => p__law_cell f.f_len f.f_sum cdv A outer s H E hr) s__law_cell
theorem j__law_box (c : He.SaysD fa fn K) (f : Fx K mg) : Ok P w K mg base d__law_box ["great"] 1 S__law_box :=
  mk_ok c 29 rfl rfl rfl (fun _ _ _ _ _ _ us hl => match us, hl with | [_], _ => rfl) ⟨rfl, rfl, rfl, by decide +kernel, rfl, by decide +kernel, by decide +kernel⟩ (fun cdv A outer s H E hr => p__law_box f.f_abs f.f_int cdv A outer s H E hr) s__law_box
theorem j__law_take (c : He.SaysD fa fn K) (f : Fx K mg) : Ok P w K mg base d__law_take ["box", "many"] 1 S__law_take :=
  mk_ok c 30 rfl rfl rfl (fun _ _ _ _ _ _ us hl => match us, hl with | [_, _], _ => rfl) ⟨rfl, rfl, rfl, by decide +kernel, rfl, by decide +kernel, by decide +kernel⟩ (fun cdv A outer s H E hr => p__law_take f.f_int cdv A outer s H E hr) s__law_take
theorem j__law_search (c : He.SaysD fa fn K) (f : Fx K mg) : Ok P w K mg base d__law_search ["box", "great"] 2 S__law_search :=
  mk_ok c 32 rfl rfl rfl (fun _ _ _ _ _ _ us hl => match us, hl with | [_, _], _ => rfl) ⟨rfl, rfl, rfl, by decide +kernel, rfl, by decide +kernel, by decide +kernel⟩ (fun cdv A outer s H E hr => p__law_search (j__law_take c f) f.f_range f.g__law_take cdv A outer s H E hr) s__law_search
theorem j__law_above (c : He.SaysD fa fn K) (f : Fx K mg) : Ok P w K mg base d__law_above ["covers", "cover"] 1 S__law_above :=
  mk_ok c 33 rfl rfl rfl (fun _ _ _ _ _ _ us hl => match us, hl with | [_, _], _ => rfl) ⟨rfl, rfl, rfl, by decide +kernel, rfl, by decide +kernel, by decide +kernel⟩ (fun cdv A outer s H E hr => p__law_above f.f_len f.f_range cdv A outer s H E hr) s__law_above
theorem j__law_needed (c : He.SaysD fa fn K) (f : Fx K mg) : Ok P w K mg base d__law_needed ["world", "left"] 2 S__law_needed :=
  mk_ok c 34 rfl rfl rfl (fun _ _ _ _ _ _ us hl => match us, hl with | [_, _], _ => rfl) ⟨rfl, rfl, rfl, by decide +kernel, rfl, by decide +kernel, by decide +kernel⟩ (fun cdv A outer s H E hr => p__law_needed (j__law_above c f) f.f_len f.f_range f.f_sorted f.g__law_above cdv A outer s H E hr) s__law_needed
theorem j__law_lefts (c : He.SaysD fa fn K) (f : Fx K mg) : Ok P w K mg base d__law_lefts ["world"] 1 S__law_lefts :=
  mk_ok c 35 rfl rfl rfl (fun _ _ _ _ _ _ us hl => match us, hl with | [_], _ => rfl) ⟨rfl, rfl, rfl, by decide +kernel, rfl, by decide +kernel, by decide +kernel⟩ (fun cdv A outer s H E hr => p__law_lefts f.f_len f.f_range cdv A outer s H E hr) s__law_lefts
theorem j__law_job (c : He.SaysD fa fn K) (f : Fx K mg) : Ok P w K mg base d__law_job ["world", "job"] 1 S__law_job :=
  mk_ok c 36 rfl rfl rfl (fun _ _ _ _ _ _ us hl => match us, hl with | [_, _], _ => rfl) ⟨rfl, rfl, rfl, by decide +kernel, rfl, by decide +kernel, by decide +kernel⟩ (fun cdv A outer s H E hr => p__law_job f.f_len cdv A outer s H E hr) s__law_job
theorem j__law_is_number (c : He.SaysD fa fn K) (f : Fx K mg) : Ok P w K mg base d__law_is_number ["value", "many"] 1 S__law_is_number :=
  mk_ok c 37 rfl rfl rfl (fun _ _ _ _ _ _ us hl => match us, hl with | [_, _], _ => rfl) ⟨rfl, rfl, rfl, by decide +kernel, rfl, by decide +kernel, by decide +kernel⟩ (fun cdv A outer s H E hr => p__law_is_number f.f_bool f.f_int f.f_isinstance cdv A outer s H E hr) s__law_is_number
theorem j__law_left_out (c : He.SaysD fa fn K) (f : Fx K mg) : Ok P w K mg base d__law_left_out ["world", "value"] 3 S__law_left_out :=
  mk_ok c 38 rfl rfl rfl (fun _ _ _ _ _ _ us hl => match us, hl with | [_, _], _ => rfl) ⟨rfl, rfl, rfl, by decide +kernel, rfl, by decide +kernel, by decide +kernel⟩ (fun cdv A outer s H E hr => p__law_left_out (j__law_is_number c f) (j__law_job c f) (j__law_lefts c f) (j__law_needed c f) f.f_isinstance f.f_len f.f_list f.f_range f.f_set f.f_sorted f.f_tuple f.g__law_is_number f.g__law_job f.g__law_lefts f.g__law_needed cdv A outer s H E hr) s__law_left_out
theorem j__law_drawn (c : He.SaysD fa fn K) (f : Fx K mg) : Ok P w K mg base d__law_drawn ["box", "world"] 3 S__law_drawn :=
  mk_ok c 40 rfl rfl rfl (fun _ _ _ _ _ _ us hl => match us, hl with | [_, _], _ => rfl) ⟨rfl, rfl, rfl, by decide +kernel, rfl, by decide +kernel, by decide +kernel⟩ (fun cdv A outer s H E hr => p__law_drawn (j__law_lefts c f) (j__law_take c f) (j__law_needed c f) (j__law_job c f) f.f_len f.f_range f.g__law_job f.g__law_lefts f.g__law_needed f.g__law_take cdv A outer s H E hr) (s__law_drawn P w)
theorem j__law_minutes (c : He.SaysD fa fn K) (f : Fx K mg) : Ok P w K mg base d__law_minutes ["world", "jobs"] 2 S__law_minutes :=
  mk_ok c 41 rfl rfl rfl (fun _ _ _ _ _ _ us hl => match us, hl with | [_, _], _ => rfl) ⟨rfl, rfl, rfl, by decide +kernel, rfl, by decide +kernel, by decide +kernel⟩ (fun cdv A outer s H E hr => p__law_minutes (j__law_job c f) f.f_sum f.g__law_job cdv A outer s H E hr) s__law_minutes
theorem j__law_is_quickest (c : He.SaysD fa fn K) (f : Fx K mg) : Ok P w K mg base d__law_is_quickest ["world", "least", "value"] 4 S__law_is_quickest :=
  mk_ok c 42 rfl rfl rfl (fun _ _ _ _ _ _ us hl => match us, hl with | [_, _, _], _ => rfl) ⟨rfl, rfl, rfl, by decide +kernel, rfl, by decide +kernel, by decide +kernel⟩ (fun cdv A outer s H E hr => p__law_is_quickest (j__law_is_number c f) (j__law_left_out c f) (j__law_minutes c f) f.f_isinstance f.f_len f.f_repr f.f_tuple f.g__law_is_number f.g__law_left_out f.g__law_minutes cdv A outer s H E hr) s__law_is_quickest
theorem j__law_tuples_right (c : He.SaysD fa fn K) (f : Fx K mg) : Ok P w K mg base d__law_tuples_right ["box", "search", "world", "least", "kept"] 8 S__law_tuples_right :=
  mk_ok c 43 rfl rfl rfl (fun _ _ _ _ _ _ us hl => match us, hl with | [_, _, _, _, _], _ => rfl) ⟨rfl, rfl, rfl, by decide +kernel, rfl, by decide +kernel, by decide +kernel⟩ (fun cdv A outer s H E hr => p__law_tuples_right (j__law_drawn c f) (j__law_left_out c f) (j__law_minutes c f) (j__law_is_quickest c f) (j_is_quickest_short_order c f) f.f_range f.f_repr f.f_tuple f.g__law_drawn f.g__law_is_quickest f.g__law_left_out f.g__law_minutes f.g_is_quickest_short_order cdv A outer s H E hr) s__law_tuples_right
theorem j__law_search_right (c : He.SaysD fa fn K) (f : Fx K mg) : Ok P w K mg base d__law_search_right ["box", "great"] 9 S__law_search_right :=
  mk_ok c 44 rfl rfl rfl (fun _ _ _ _ _ _ us hl => match us, hl with | [_, _], _ => rfl) ⟨rfl, rfl, rfl, by decide +kernel, rfl, by decide +kernel, by decide +kernel⟩ (fun cdv A outer s H E hr => p__law_search_right (j__law_search c f) (j__law_take c f) (j_Covers_init c f) (j_Search_init c f) (j__law_lefts c f) (j__law_needed c f) (j__law_minutes c f) (j_quickest_short_order c f) (j__law_is_quickest c f) (j__law_job c f) (j__law_tuples_right c f) f.f_isinstance f.f_list f.f_min f.f_repr f.f_tuple f.g_Covers f.g_Search f.g__law_is_quickest f.g__law_job f.g__law_lefts f.g__law_minutes f.g__law_needed f.g__law_search f.g__law_take f.g__law_tuples_right f.g_quickest_short_order f.mk_Covers f.mk_Search cdv A outer s H E hr) s__law_search_right
theorem j_law (c : He.SaysD fa fn K) (f : Fx K mg) : Ok P w K mg base d_law ["script"] 10 S_law :=
  mk_ok c 45 rfl rfl rfl (fun _ _ _ _ _ _ us hl => match us, hl with | [_], _ => rfl) ⟨rfl, rfl, rfl, by decide +kernel, rfl, by decide +kernel, by decide +kernel⟩ (fun cdv A outer s H E hr => p_law (j__law_cell c f) (j__law_box c f) (j__law_search_right c f) f.f_len f.f_max f.f_min f.f_range f.g__law_box f.g__law_cell f.g__law_search_right cdv A outer s H E hr) s_law
end

abbrev R : PySem.W.OpenRow := PySem.W.OpenLaw.row PySem.Challenge.rw_crownwork_k40_whole_quickest_short_order
abbrev hk : PySem.W.Hook := He.hookD 4 fa fn
def ob (s : PySem.W.SharedT) : He.AlD := He.obsDG 4 fa fn (HandSHeadRun.getT s)
theorem ob_eq (s : PySem.W.SharedT) : ob s = hk.obs s.abs := He.obsDG_eq (HandSHeadRun.getT_eq s)
set_option maxHeartbeats 0 in
theorem run (w : World) : HandSHeadRun.RunEq R (PySem.W.view R.prog [lawIx]) hk ob steps loose w := by
  intro os
  kernel_rfl

theorem ok_fn {P : Program} {w : World} {K : PySem.W.Frag} {mg : Str → Option Value} {base : Heap} {d : He.DefD} {ps : List Str} {k : Nat} {fs : FS} {dv : List V} {kw : List (Str × V)} {fd : FuncData} (F : FunD K d.name d.qual d.params d.body d.scope dv kw (He.fAd K d.at_) fd) (h : Ok P w K mg base d ps k fs) : FnG P w K mg base k (He.fAd K d.at_) fd ps (spOf K ps.length fs) := by
  obtain ⟨fd', F', G, _⟩ := h.ex
  have e : fd = fd' := by
    obtain ⟨oc, od, dV, kV, doc, pm, an, cdv, ct, osl, e1, lk, _⟩ := F.ex
    obtain ⟨oc', od', dV', kV', doc', pm', an', cdv', ct', osl', e1', lk', _⟩ := F'.ex
    rw [lk] at lk'
    cases lk'
    rfl
  rw [e]
  exact G
theorem law_at {K : PySem.W.Frag} {mg : Str → Option Value} {h : Heap} (c : He.SaysD fa fn K) (X : K.In h) (G : h.Ns mainGlobals mg) : mg ("law" : Str) = some (.ref (He.ga K "law")) := He.glo_ok X G (c.fact 60 (f := .glo "law") rfl)
theorem law_fd {K : PySem.W.Frag} (c : He.SaysD fa fn K) : ∃ fd, FunD K d_law.name d_law.qual d_law.params d_law.body d_law.scope [] [] (He.fAd K d_law.at_) fd ∧ ∀ (s : Shared) (u : Value), BindsTo s fd ⟨[u], []⟩ [("script", u)] := by
  obtain ⟨fd, F⟩ := c.def_ 45 (d := d_law) rfl
  have B := FunD.bindsA (ps := ["script"]) F fun _ _ _ _ _ _ us hl => match us, hl with | [_], _ => rfl
  exact ⟨fd, F, fun s u => B s [u] rfl⟩
end DL
set_option maxHeartbeats 0
open PySem PySem.W PySem.Calls PyProof.Rows
theorem PySem.Challenge.cw_crownwork_k40_whole_quickest_short_order_holds : PySem.Challenge.rw_crownwork_k40_whole_quickest_short_order.Holds := by
  w_on; o_law
  refine HandSHeadRun.head_any (r := OpenLaw.row PySem.Challenge.rw_crownwork_k40_whole_quickest_short_order) (q := view (OpenLaw.row PySem.Challenge.rw_crownwork_k40_whole_quickest_short_order).prog [DL.lawIx]) (H := DL.hk) (ob := DL.ob) (M := DL.steps) (loose := DL.loose) (d := HandSHeadRun.topDef (OpenLaw.row PySem.Challenge.rw_crownwork_k40_whole_quickest_short_order).prog DL.lawIx) (kwd := []) DL.ob_eq
    (by kernel_rfl) (fun s => by kernel_rfl) DL.run (by kernel_rfl) (by kernel_rfl) (by kernel_rfl) (by rfl) (by first | assumption | decide +kernel) (by decide +kernel) ⟨rfl, rfl, rfl, rfl, rfl, by decide +kernel⟩ ?hw ?hc
  case hw => w_witness2
  case hc =>
    refine DL.walk_g (l := PySem.Challenge.rw_crownwork_k40_whole_quickest_short_order) (n := 63) (k := 10) (x := "script") rfl (by have := DL.big_sizeLine; omega) (by kernel_rfl) ⟨⟨rfl, by decide, by decide⟩, rfl⟩ ?F
    intro w mg fa h Y G hmg0
    obtain ⟨K, KX, c⟩ := Y
    have hmg : mg ("law" : PySem.Str) = some (.ref fa) := by
      have e : (HandSHeadRun.topDef (OpenLaw.row PySem.Challenge.rw_crownwork_k40_whole_quickest_short_order).prog DL.lawIx).name = ("law" : PySem.Str) := by kernel_rfl
      rw [← e]
      exact hmg0
    have f := DL.fx_of c KX G
    have e := hmg.symm.trans (DL.law_at c KX G)
    cases e
    obtain ⟨fd, F, B⟩ := DL.law_fd c
    refine ⟨K, fd, DL.spOf K 1 DL.S_law, KX, B, fun H a ns hl hS => DL.sp_script hS ⟨ns, rfl, hl, rfl⟩, fun base _ _ => ?_⟩
    exact DL.ok_fn F (DL.j_law (P := (PySem.Challenge.rw_crownwork_k40_whole_quickest_short_order).prog) (w := w) (base := base) c f)

