import PyProof.Rows.All
import Wide.All
import OpenK.AllK
import Wide.FinOn
import HandS.ForMost
import HandS.ForExc
import HandS.IsInst
import HandS.Deep
import HandS.TupAny
import HandS.ExcInit
import HandS.ExcField
import HandS.Walk
import HandS.Evl
import KE.GoesEnum
import PySem.Challenge.RW_rootfirst_k05_whole_grafts
set_option Elab.async false
set_option linter.all false
set_option maxRecDepth 100000
set_option maxHeartbeats 4000000
namespace Gf
/-! Trees: a symbol and children. -/
inductive Tr where
  | nd (s : Nat) (ks : List Tr)
def Tr.sym : Tr → Nat
  | .nd s _ => s
def Tr.kids : Tr → List Tr
  | .nd _ ks => ks
theorem Tr.eta : ∀ t : Tr, Tr.nd t.sym t.kids = t
  | .nd _ _ => rfl
mutual
def Tr.size : Tr → Nat
  | .nd _ ks => 1 + sizes ks
def sizes : List Tr → Nat
  | [] => 0
  | t :: r => t.size + sizes r
end
theorem size_eq : ∀ t : Tr, t.size = 1 + sizes t.kids
  | .nd _ _ => by rw [Tr.size]; rfl
theorem sizes_nil : sizes [] = 0 := by rw [sizes]
theorem sizes_cons (t : Tr) (r : List Tr) : sizes (t :: r) = t.size + sizes r := by rw [sizes]
theorem size_pos (t : Tr) : 1 ≤ t.size := by rw [size_eq]; omega
theorem sizes_app : ∀ a b : List Tr, sizes (a ++ b) = sizes a + sizes b
  | [], b => by rw [List.nil_append, sizes_nil, Nat.zero_add]
  | t :: r, b => by rw [List.cons_append, sizes_cons, sizes_cons, sizes_app r b]; omega
theorem sizes_get : ∀ {ks : List Tr} {k : Nat} {c : Tr}, ks[k]? = some c → c.size ≤ sizes ks
  | [], k, c, h => by simp at h
  | t :: r, 0, c, h => by
    have e : t = c := Option.some.inj h
    rw [sizes_cons, e]; omega
  | t :: r, k + 1, c, h => by
    have q := sizes_get (ks := r) (k := k) (c := c) h
    rw [sizes_cons]; omega
theorem kid_lt {t c : Tr} {k : Nat} (h : t.kids[k]? = some c) : c.size < t.size := by
  have q := sizes_get h
  rw [size_eq t]; omega
theorem sizes_set : ∀ {ks : List Tr} {k : Nat} {c : Tr} (d : Tr), ks[k]? = some c → sizes (ks.set k d) + c.size = sizes ks + d.size
  | [], k, c, d, h => by simp at h
  | t :: r, 0, c, d, h => by
    have e : t = c := Option.some.inj h
    show sizes (d :: r) + c.size = sizes (t :: r) + d.size
    rw [sizes_cons, sizes_cons, e]; omega
  | t :: r, k + 1, c, d, h => by
    have q := sizes_set (ks := r) (k := k) (c := c) d h
    show sizes (t :: r.set k d) + c.size = sizes (t :: r) + d.size
    rw [sizes_cons, sizes_cons]; omega
theorem sizes_sum : ∀ ks : List Tr, ((ks.map fun c => ((c.size : Nat) : Int)).sum : Int) = ((sizes ks : Nat) : Int)
  | [] => by rw [sizes_nil]; rfl
  | t :: r => by
    rw [List.map_cons, List.sum_cons, sizes_sum r, sizes_cons]; omega
theorem sizes_len : ∀ ks : List Tr, ks.length ≤ sizes ks
  | [] => Nat.zero_le _
  | t :: r => by
    have h1 := sizes_len r
    have h2 := size_pos t
    rw [sizes_cons, List.length_cons]; omega
/-- strong induction by size -/
theorem Tr.bySize {P : Tr → Prop} (h : ∀ t : Tr, (∀ c : Tr, c.size < t.size → P c) → P t) (t : Tr) : P t := by
  have : ∀ n, ∀ t : Tr, t.size ≤ n → P t := by
    intro n
    induction n with
    | zero => intro t ht; have := size_pos t; omega
    | succ n ih => intro t ht; exact h t fun c hc => ih c (by omega)
  exact this t.size t (Nat.le_refl _)

/-! Parts, and another part at a place. -/
def part : Tr → List Nat → Option Tr
  | t, [] => some t
  | t, k :: p => match t.kids[k]? with
    | some c => part c p
    | none => none
def put : Tr → List Nat → Tr → Tr
  | _, [], x => x
  | t, k :: p, x => match t.kids[k]? with
    | some c => .nd t.sym (t.kids.set k (put c p x))
    | none => t
theorem part_nil (t : Tr) : part t [] = some t := rfl
theorem part_some {t c : Tr} {k : Nat} {p : List Nat} (h : t.kids[k]? = some c) : part t (k :: p) = part c p := by
  show (match t.kids[k]? with | some c => part c p | none => none) = part c p
  rw [h]
theorem part_none {t : Tr} {k : Nat} {p : List Nat} (h : t.kids[k]? = none) : part t (k :: p) = none := by
  show (match t.kids[k]? with | some c => part c p | none => none) = none
  rw [h]
theorem part_cons {t a : Tr} {k : Nat} {p : List Nat} (h : part t (k :: p) = some a) : ∃ c, t.kids[k]? = some c ∧ part c p = some a := by
  cases e : t.kids[k]? with
  | none => rw [part_none e] at h; cases h
  | some c => rw [part_some e] at h; exact ⟨c, rfl, h⟩
theorem put_nil (t x : Tr) : put t [] x = x := rfl
theorem put_some {t c : Tr} {k : Nat} {p : List Nat} {x : Tr} (h : t.kids[k]? = some c) : put t (k :: p) x = .nd t.sym (t.kids.set k (put c p x)) := by
  show (match t.kids[k]? with | some c => Tr.nd t.sym (t.kids.set k (put c p x)) | none => t) = _
  rw [h]
theorem size_put : ∀ {p : List Nat} {t a : Tr} (x : Tr), part t p = some a → (put t p x).size + a.size = t.size + x.size
  | [], t, a, x, h => by
    have e : t = a := Option.some.inj h
    rw [put_nil, e]; omega
  | k :: p, t, a, x, h => by
    obtain ⟨c, hc, hp⟩ := part_cons h
    have ih := size_put (p := p) x hp
    have q := sizes_set (put c p x) hc
    rw [put_some hc, size_eq (.nd _ _), size_eq t]
    show 1 + sizes (t.kids.set k (put c p x)) + a.size = 1 + sizes t.kids + x.size
    omega
theorem put_self : ∀ {p : List Nat} {t a : Tr}, part t p = some a → put t p a = t
  | [], t, a, h => by
    have e : t = a := Option.some.inj h
    rw [put_nil, e]
  | k :: p, t, a, h => by
    obtain ⟨c, hc, hp⟩ := part_cons h
    obtain ⟨hk, e⟩ := List.getElem?_eq_some_iff.mp hc
    rw [put_some hc, put_self hp]
    have q : t.kids.set k c = t.kids := by rw [← e]; exact List.set_getElem_self hk
    rw [q, Tr.eta]
theorem part_len : ∀ {p : List Nat} {t a : Tr}, part t p = some a → p.length + a.size ≤ t.size
  | [], t, a, h => by
    have e : t = a := Option.some.inj h
    rw [e]; simp
  | k :: p, t, a, h => by
    obtain ⟨c, hc, hp⟩ := part_cons h
    have ih := part_len hp
    have q := kid_lt hc
    rw [List.length_cons]; omega
theorem part_app : ∀ {p q : List Nat} {t a : Tr}, part t p = some a → part t (p ++ q) = part a q
  | [], q, t, a, h => by
    have e : t = a := Option.some.inj h
    rw [List.nil_append, e]
  | k :: p, q, t, a, h => by
    obtain ⟨c, hc, hp⟩ := part_cons h
    rw [List.cons_append, part_some hc, part_app hp]
theorem part_take : ∀ {p : List Nat} {t a : Tr} (i : Nat), part t p = some a → ∃ b, part t (p.take i) = some b ∧ part b (p.drop i) = some a
  | p, t, a, 0, h => ⟨t, by rw [List.take_zero]; rfl, by rw [List.drop_zero]; exact h⟩
  | [], t, a, i + 1, h => ⟨t, by rw [List.take_nil]; rfl, by rw [List.drop_nil]; exact h⟩
  | k :: p, t, a, i + 1, h => by
    obtain ⟨c, hc, hp⟩ := part_cons h
    obtain ⟨b, h1, h2⟩ := part_take i hp
    exact ⟨b, by rw [List.take_succ_cons, part_some hc, h1], by rw [List.drop_succ_cons, h2]⟩
theorem kid_set {t c : Tr} {k : Nat} (d : Tr) (h : t.kids[k]? = some c) : (t.kids.set k d)[k]? = some d := by
  obtain ⟨hk, _⟩ := List.getElem?_eq_some_iff.mp h
  rw [List.getElem?_set_self hk]
theorem part_put : ∀ {p : List Nat} {t a : Tr} (x : Tr), part t p = some a → part (put t p x) p = some x
  | [], t, a, x, h => rfl
  | k :: p, t, a, x, h => by
    obtain ⟨c, hc, hp⟩ := part_cons h
    rw [put_some hc, part_some (show (Tr.nd t.sym (t.kids.set k (put c p x))).kids[k]? = some (put c p x) from kid_set _ hc)]
    exact part_put x hp
theorem part_put_take : ∀ {p : List Nat} {t a b : Tr} (x : Tr) (i : Nat), part t p = some a → part t (p.take i) = some b → part (put t p x) (p.take i) = some (put b (p.drop i) x)
  | p, t, a, b, x, 0, h, h1 => by
    rw [List.take_zero] at h1 ⊢
    have e : t = b := Option.some.inj h1
    rw [List.drop_zero, e]; rfl
  | [], t, a, b, x, i + 1, h, h1 => by
    rw [List.take_nil] at h1 ⊢
    have e : t = b := Option.some.inj h1
    rw [List.drop_nil, e]; rfl
  | k :: p, t, a, b, x, i + 1, h, h1 => by
    obtain ⟨c, hc, hp⟩ := part_cons h
    rw [List.take_succ_cons] at h1 ⊢
    rw [part_some hc] at h1
    rw [List.drop_succ_cons, put_some hc, part_some (show (Tr.nd t.sym (t.kids.set k (put c p x))).kids[k]? = some (put c p x) from kid_set _ hc)]
    exact part_put_take x i hp h1

/-! Trees for arities. -/
inductive WF (ar : List Nat) : Tr → Prop where
  | mk {s : Nat} {ks : List Tr} (h : ar[s]? = some ks.length) (hk : ∀ (i : Nat) (c : Tr), ks[i]? = some c → WF ar c) : WF ar (.nd s ks)
theorem WF.at {ar : List Nat} {t : Tr} (w : WF ar t) : ar[t.sym]? = some t.kids.length := by
  cases w with | mk h hk => exact h
theorem WF.kid {ar : List Nat} {t c : Tr} {i : Nat} (w : WF ar t) (h : t.kids[i]? = some c) : WF ar c := by
  cases w with | mk _ hk => exact hk i c h
theorem WF.part {ar : List Nat} : ∀ {p : List Nat} {t a : Tr}, WF ar t → Gf.part t p = some a → WF ar a
  | [], t, a, w, h => by
    have e : t = a := Option.some.inj h
    rw [← e]; exact w
  | k :: p, t, a, w, h => by
    obtain ⟨c, hc, hp⟩ := part_cons h
    exact WF.part (w.kid hc) hp
theorem WF.put {ar : List Nat} : ∀ {p : List Nat} {t a x : Tr}, WF ar t → WF ar x → Gf.part t p = some a → WF ar (Gf.put t p x)
  | [], t, a, x, w, wx, h => wx
  | k :: p, t, a, x, w, wx, h => by
    obtain ⟨c, hc, hp⟩ := part_cons h
    have ih := WF.put (w.kid hc) wx hp
    rw [put_some hc]
    refine .mk ?_ fun i d hd => ?_
    · rw [List.length_set]; exact w.at
    · by_cases e : i = k
      · subst e
        rw [kid_set _ hc] at hd
        cases hd; exact ih
      · rw [List.getElem?_set_ne (Ne.symm e)] at hd
        exact w.kid hd
theorem steps_of {ar : List Nat} (h2 : ∀ (i k : Nat), ar[i]? = some k → k ≤ 2) : ∀ {p : List Nat} {t a : Tr}, WF ar t → part t p = some a → ∀ k ∈ p, k ≤ 1
  | [], t, a, w, h, k, hk => by simp at hk
  | j :: p, t, a, w, h, k, hk => by
    obtain ⟨c, hc, hp⟩ := part_cons h
    rcases List.mem_cons.mp hk with e | hm
    · obtain ⟨hl, _⟩ := List.getElem?_eq_some_iff.mp hc
      have q := h2 _ _ w.at
      omega
    · exact steps_of h2 (w.kid hc) hp k hm

/-! All places with their parts. -/
mutual
def spots : Tr → List (List Nat × Tr)
  | .nd s ks => ([], .nd s ks) :: spotsL 0 ks
def spotsL : Nat → List Tr → List (List Nat × Tr)
  | _, [] => []
  | i, c :: r => (spots c).map (fun q => (i :: q.1, q.2)) ++ spotsL (i + 1) r
end
theorem spots_eq : ∀ t : Tr, spots t = ([], t) :: spotsL 0 t.kids
  | .nd _ _ => by rw [spots]; rfl
theorem spotsL_nil (i : Nat) : spotsL i [] = [] := by rw [spotsL]
theorem spotsL_cons (i : Nat) (c : Tr) (r : List Tr) : spotsL i (c :: r) = (spots c).map (fun q => (i :: q.1, q.2)) ++ spotsL (i + 1) r := by rw [spotsL]
theorem spotsL_app : ∀ (a b : List Tr) (i : Nat), spotsL i (a ++ b) = spotsL i a ++ spotsL (i + a.length) b
  | [], b, i => by rw [List.nil_append, spotsL_nil, List.nil_append]; rfl
  | c :: a, b, i => by
    rw [List.cons_append, spotsL_cons, spotsL_cons, spotsL_app a b (i + 1), List.append_assoc, List.length_cons, show i + 1 + a.length = i + (a.length + 1) by omega]
theorem spotsL_more {ks : List Tr} {k : Nat} {c : Tr} (h : ks[k]? = some c) : spotsL 0 (ks.take (k + 1)) = spotsL 0 (ks.take k) ++ (spots c).map (fun q => (k :: q.1, q.2)) := by
  obtain ⟨hk, e⟩ := List.getElem?_eq_some_iff.mp h
  rw [List.take_add_one, h]
  show spotsL 0 (ks.take k ++ [c]) = _
  rw [spotsL_app, spotsL_cons, spotsL_nil, List.append_nil, List.length_take, show 0 + min k ks.length = k by omega]
mutual
theorem spots_len : ∀ t : Tr, (spots t).length = t.size
  | .nd s ks => by
    rw [spots_eq, size_eq, List.length_cons, spotsL_len]
    show sizes ks + 1 = 1 + sizes ks
    omega
theorem spotsL_len : ∀ (i : Nat) (ks : List Tr), (spotsL i ks).length = sizes ks
  | i, [] => by rw [spotsL_nil, sizes_nil]; rfl
  | i, c :: r => by
    rw [spotsL_cons, sizes_cons, List.length_append, List.length_map, spots_len c, spotsL_len (i + 1) r]
end
/-- what a list of spots gives at a place -/
def pick (l : List (List Nat × Tr)) (p : List Nat) : List Tr := (l.filter fun q => decide (q.1 = p)).map (·.2)
theorem pick_app (a b : List (List Nat × Tr)) (p : List Nat) : pick (a ++ b) p = pick a p ++ pick b p := by
  unfold pick; rw [List.filter_append, List.map_append]
theorem pick_nil (p : List Nat) : pick [] p = [] := rfl
theorem pick_yes (c : Tr) (l : List (List Nat × Tr)) (p : List Nat) : pick ((p, c) :: l) p = c :: pick l p := by
  unfold pick; rw [List.filter_cons_of_pos (by simp)]; rfl
theorem pick_no {q : List Nat} {c : Tr} {l : List (List Nat × Tr)} {p : List Nat} (h : q ≠ p) : pick ((q, c) :: l) p = pick l p := by
  unfold pick; rw [List.filter_cons_of_neg (by simpa using h)]
theorem pick_deep_nil (i : Nat) : ∀ l : List (List Nat × Tr), pick (l.map fun q => (i :: q.1, q.2)) [] = []
  | [] => rfl
  | q :: l => by rw [List.map_cons, pick_no (by simp), pick_deep_nil i l]
theorem pick_deep_ne {i k : Nat} (h : i ≠ k) (p : List Nat) : ∀ l : List (List Nat × Tr), pick (l.map fun q => (i :: q.1, q.2)) (k :: p) = []
  | [] => rfl
  | q :: l => by rw [List.map_cons, pick_no (by intro z; injection z with z1 _; exact h z1), pick_deep_ne h p l]
theorem pick_deep (k : Nat) (p : List Nat) : ∀ l : List (List Nat × Tr), pick (l.map fun q => (k :: q.1, q.2)) (k :: p) = pick l p
  | [] => rfl
  | q :: l => by
    obtain ⟨a, c⟩ := q
    by_cases e : a = p
    · subst e
      rw [List.map_cons, pick_yes, pick_yes, pick_deep k a l]
    · rw [List.map_cons, pick_no (by intro z; injection z with _ z2; exact e z2), pick_no e, pick_deep k p l]
mutual
theorem pick_spots : ∀ (t : Tr) (p : List Nat), pick (spots t) p = (part t p).toList
  | .nd s ks, [] => by
    rw [spots_eq, pick_yes]
    show Tr.nd s ks :: pick (spotsL 0 ks) [] = [Tr.nd s ks]
    rw [pick_spotsL_nil]
  | .nd s ks, k :: p => by
    rw [spots_eq, pick_no (by simp)]
    show pick (spotsL 0 ks) (k :: p) = _
    rw [pick_spotsL 0 ks k p, if_pos (Nat.zero_le _)]
    rfl
theorem pick_spotsL_nil : ∀ (i : Nat) (ks : List Tr), pick (spotsL i ks) [] = []
  | i, [] => by rw [spotsL_nil, pick_nil]
  | i, c :: r => by rw [spotsL_cons, pick_app, pick_deep_nil, pick_spotsL_nil (i + 1) r]; rfl
theorem pick_spotsL : ∀ (i : Nat) (ks : List Tr) (k : Nat) (p : List Nat), pick (spotsL i ks) (k :: p) = if i ≤ k then (match ks[k - i]? with | some c => part c p | none => none).toList else []
  | i, [], k, p => by
    rw [spotsL_nil, pick_nil]
    split <;> simp
  | i, c :: r, k, p => by
    rw [spotsL_cons, pick_app, pick_spotsL (i + 1) r k p]
    by_cases h : i ≤ k
    · rw [if_pos h]
      by_cases e : i = k
      · subst e
        rw [if_neg (by omega), pick_deep, pick_spots c p, List.append_nil, Nat.sub_self]
        rfl
      · rw [if_pos (by omega), pick_deep_ne e]
        have q : (c :: r)[k - i]? = r[k - (i + 1)]? := by
          rw [show k - i = (k - (i + 1)) + 1 by omega, List.getElem?_cons_succ]
        rw [q]; rfl
    · rw [if_neg h, if_neg (by omega), pick_deep_ne (by omega)]; rfl
end
theorem pick_mem {l : List (List Nat × Tr)} {q : List Nat × Tr} (h : q ∈ l) : q.2 ∈ pick l q.1 := by
  unfold pick
  exact List.mem_map.mpr ⟨q, List.mem_filter.mpr ⟨h, by simp⟩, rfl⟩
/-- a spot is a place with its part -/
theorem spots_part {t : Tr} {q : List Nat × Tr} (h : q ∈ spots t) : part t q.1 = some q.2 := by
  have m := pick_mem h
  rw [pick_spots] at m
  cases e : part t q.1 with
  | none => rw [e] at m; simp at m
  | some c =>
    rw [e] at m
    have : q.2 = c := by simpa using m
    rw [this]

/-! Equal to a depth. -/
def same : Nat → Tr → Tr → Bool
  | 0, _, _ => true
  | k + 1, t, u => decide (t.sym = u.sym) && ((t.kids.zip u.kids).all fun q => same k q.1 q.2)
theorem same_succ (k : Nat) (t u : Tr) : same (k + 1) t u = (decide (t.sym = u.sym) && ((t.kids.zip u.kids).all fun q => same k q.1 q.2)) := rfl
theorem zip_self_all {α : Type} {f : α × α → Bool} (h : ∀ x : α, f (x, x) = true) : ∀ l : List α, (l.zip l).all f = true
  | [] => rfl
  | x :: l => by rw [List.zip_cons_cons, List.all_cons, h x, zip_self_all h l]; rfl
theorem same_refl : ∀ (k : Nat) (t : Tr), same k t t = true
  | 0, _ => rfl
  | k + 1, t => by
    rw [same_succ, decide_eq_true rfl, zip_self_all (fun x => same_refl k x) t.kids]; rfl
theorem all_imp {α : Type} {f g : α → Bool} (h : ∀ x, f x = true → g x = true) : ∀ {l : List α}, l.all f = true → l.all g = true
  | [], _ => rfl
  | x :: l, q => by
    rw [List.all_cons, Bool.and_eq_true] at q ⊢
    exact ⟨h x q.1, all_imp h q.2⟩
theorem same_down : ∀ (k : Nat) {t u : Tr}, same (k + 1) t u = true → same k t u = true
  | 0, _, _, _ => rfl
  | k + 1, t, u, h => by
    rw [same_succ, Bool.and_eq_true] at h ⊢
    exact ⟨h.1, all_imp (fun q z => same_down k z) h.2⟩
theorem same_le {j k : Nat} (h : j ≤ k) {t u : Tr} (q : same k t u = true) : same j t u = true := by
  induction k with
  | zero => have : j = 0 := by omega
            rw [this]; rfl
  | succ k ih =>
    by_cases e : j = k + 1
    · rw [e]; exact q
    · exact ih (by omega) (same_down k q)
theorem zip_get {α β : Type} : ∀ {a : List α} {b : List β} {i : Nat} {x : α} {y : β}, a[i]? = some x → b[i]? = some y → (a.zip b)[i]? = some (x, y)
  | [], _, i, x, y, h, _ => by simp at h
  | _ :: _, [], i, x, y, _, h => by simp at h
  | a :: as, b :: bs, 0, x, y, h1, h2 => by
    have e1 : a = x := Option.some.inj h1
    have e2 : b = y := Option.some.inj h2
    rw [e1, e2]; rfl
  | a :: as, b :: bs, i + 1, x, y, h1, h2 => by
    rw [List.zip_cons_cons, List.getElem?_cons_succ]
    exact zip_get (a := as) (b := bs) h1 h2
theorem same_kid {k i : Nat} {t u c d : Tr} (h : same (k + 1) t u = true) (h1 : t.kids[i]? = some c) (h2 : u.kids[i]? = some d) : same k c d = true := by
  rw [same_succ, Bool.and_eq_true] at h
  have q := List.all_eq_true.mp h.2 (c, d) (List.mem_of_getElem? (zip_get h1 h2))
  exact q
theorem zip_set_all {f : Tr × Tr → Bool} (hr : ∀ x : Tr, f (x, x) = true) : ∀ {l : List Tr} {k : Nat} {c d : Tr}, l[k]? = some c → f (c, d) = true → (l.zip (l.set k d)).all f = true
  | [], k, c, d, h, _ => by simp at h
  | x :: l, 0, c, d, h, q => by
    have e : x = c := Option.some.inj h
    show ((x :: l).zip (d :: l)).all f = true
    rw [List.zip_cons_cons, List.all_cons, e, q, zip_self_all hr]; rfl
  | x :: l, k + 1, c, d, h, q => by
    show ((x :: l).zip (x :: l.set k d)).all f = true
    rw [List.zip_cons_cons, List.all_cons, hr x, zip_set_all hr (l := l) (k := k) (c := c) h q]; rfl
/-- another part below: equal as far as the parts are -/
theorem same_put : ∀ {p : List Nat} (k : Nat) {t a : Tr} {x : Tr}, part t p = some a → same (k - p.length) a x = true → same k t (put t p x) = true
  | [], k, t, a, x, h, q => by
    have e : t = a := Option.some.inj h
    rw [put_nil, e]; exact q
  | j :: p, 0, t, a, x, h, q => rfl
  | j :: p, k + 1, t, a, x, h, q => by
    obtain ⟨c, hc, hp⟩ := part_cons h
    have ih := same_put (p := p) k (x := x) hp (by rw [List.length_cons, Nat.add_sub_add_right] at q; exact q)
    rw [put_some hc, same_succ]
    show (decide (t.sym = t.sym) && ((t.kids.zip (t.kids.set j (put c p x))).all fun q => same k q.1 q.2)) = true
    rw [decide_eq_true rfl, zip_set_all (f := fun q => same k q.1 q.2) (fun x => same_refl k x) hc ih]; rfl
def sameAt (t u : Tr) (p : List Nat) (k i : Nat) : Bool :=
  match part t (p.take i), part u (p.take i) with
  | some a, some b => same k a b
  | _, _ => false
def sameAlong (t u : Tr) (p : List Nat) (k : Nat) : Bool := (List.range p.length).all fun i => sameAt t u p k i
theorem sameAt_eq {t u a b : Tr} {p : List Nat} {i : Nat} (k : Nat) (h1 : part t (p.take i) = some a) (h2 : part u (p.take i) = some b) : sameAt t u p k i = same k a b := by
  unfold sameAt; rw [h1, h2]
theorem along_at {t u : Tr} {p : List Nat} {k i : Nat} (h : sameAlong t u p k = true) (hi : i < p.length) : sameAt t u p k i = true :=
  List.all_eq_true.mp h i (List.mem_range.mpr hi)
theorem drop_last_step {p : List Nat} (hp : p ≠ []) : ∃ j, p.drop (p.length - 1) = [j] := by
  have h : p.length - 1 < p.length := by
    have := List.length_pos_iff.mpr hp
    omega
  refine ⟨p[p.length - 1], ?_⟩
  rw [List.drop_eq_getElem_cons h, List.drop_eq_nil_of_le (by omega)]
/-- the parts are equal to the depth less 1 -/
theorem along_parts {t u a b : Tr} {p : List Nat} {k : Nat} (hp : p ≠ []) (h : sameAlong t u p (k + 1) = true) (h1 : part t p = some a) (h2 : part u p = some b) : same k a b = true := by
  have hl := List.length_pos_iff.mpr hp
  obtain ⟨a', e1, e2⟩ := part_take (p.length - 1) h1
  obtain ⟨b', f1, f2⟩ := part_take (p.length - 1) h2
  have q := along_at h (show p.length - 1 < p.length by omega)
  rw [sameAt_eq _ e1 f1] at q
  obtain ⟨j, ej⟩ := drop_last_step hp
  rw [ej] at e2 f2
  obtain ⟨c, hc, c2⟩ := part_cons e2
  obtain ⟨d, hd, d2⟩ := part_cons f2
  have ec : c = a := Option.some.inj c2
  have ed : d = b := Option.some.inj d2
  subst ec
  subst ed
  exact same_kid q hc hd
/-- the graft is equal to the depth to the first tree along the path -/
theorem along_graft {t u a b : Tr} {p : List Nat} {k : Nat} (hp : p ≠ []) (h : sameAlong t u p (k + 1) = true) (h1 : part t p = some a) (h2 : part u p = some b) : sameAlong t (put t p b) p (k + 1) = true := by
  have hs := along_parts hp h h1 h2
  refine List.all_eq_true.mpr fun i hi => ?_
  have hi' : i < p.length := List.mem_range.mp hi
  obtain ⟨a', e1, e2⟩ := part_take i h1
  rw [sameAt_eq _ e1 (part_put_take b i h1 e1)]
  refine same_put (k + 1) e2 (same_le ?_ hs)
  rw [List.length_drop]; omega
/-- both grafts have together the nodes of both trees -/
theorem both_sizes {t u a b : Tr} {p : List Nat} (h1 : part t p = some a) (h2 : part u p = some b) : (put t p b).size + (put u p a).size = t.size + u.size := by
  have q1 := size_put b h1
  have q2 := size_put a h2
  omega
end Gf
/-! Two rules beside the layer's: a list grows by a tuple; enumerate of a tuple. -/
namespace Gf
open PySem PySem.Spec PyProof.Rows L2
open AutoSeq1 (wpAny_loadPart')
theorem grow_by_tuple (l : Addr) (us : Array Value) (n : Nat) (b : Addr) (ws : Array Value) (m : Nat) (dc : Option Addr) (sl : Array (Option Value)) (h1 : ¬ (!us.isEmpty && Builtin.List.listTooLong (us.size + ws.size)) = true) (h2 : us.size ≤ sizeLine) (h3 : us.size + ws.size ≤ sizeLine + 1) :
    Meets (Builtin.«list.extend» ⟨[.ref l, .ref b], []⟩) (fun _ R s => s.heap.get? l = some { cls := .type "list", dict := none, data := .seq us n, slots := #[] } ∧
      s.heap.get? b = some { cls := .type "tuple", dict := dc, data := .seq ws m, slots := sl } ∧
      R (.ok (.ret Value.none)) { s with heap := s.heap.update l (Obj.mapSeq fun x => x ++ ws), toks := s.toks }) :=
  .of_wp fun prog w A R s hh => by
    obtain ⟨hp, g, d, tk, os⟩ := s
    obtain ⟨hl, hb, q⟩ := hh
    have i1 := PySem.AutoSeq1.idx_int
    have i2 := PySem.AutoSeq1.sub_tuple_tuple
    have i3 := PySem.AutoSeq1.sub_list_list
    have i4 := PySem.AutoSeq1.sub_tuple_list
    have i5 := PySem.AutoSeq1.sub_list_tuple
    have big : (us ++ ws).size ≤ sizeLine + 1 := by
      rw [Array.size_append]
      exact h3
    wp_walk using (wpAny_updateSeq hl rfl (hz := h2) (_hz' := big)), wpAny_loadPart' hl, wpAny_loadPart' hb
    exact ⟨_, rfl, q⟩
/-- xs.extend(t), t a tuple -/
def rGrow (K : PySem.W.Frag) : V → List V → Hp → VK → Prop := fun x vs H Q => ∃ l b xs zs, x = .ref l ∧ vs = [.ref b] ∧ H l = some (.lst xs) ∧ SqT K H b zs ∧ xs.length + zs.length ≤ sizeLine ∧ Q .non (upd H l (.lst (xs ++ zs)))
theorem mt_grow {X : Cx} : MtR X "list.extend" (rGrow X.K) := by
  intro pins s σ H x vs v us Q I rx rv h
  obtain ⟨l, b, xs, zs, rfl, rfl, hH, hB, hz, q⟩ := h
  cases rx
  obtain ⟨u, rfl, ru⟩ := rv.one
  cases ru
  obtain ⟨z, its, n, r, hl, e⟩ := I.lstM hH
  obtain ⟨ws, r2, ⟨⟨c2, dc, dt, sl⟩, e2, k2, m, k3⟩, z2⟩ := I.tuple hB
  simp only at k2 k3
  subst k2 k3
  have hl2 := r2.length
  have hs : its.toArray.size + ws.toArray.size ≤ sizeLine := by
    rw [List.size_toArray, List.size_toArray]
    omega
  have h1 : ¬ (!its.toArray.isEmpty && Builtin.List.listTooLong (its.toArray.size + ws.toArray.size)) = true := by
    rw [notLongL hs, Bool.and_false]
    exact Bool.false_ne_true
  refine call_meets F.slot_list_extend ⟨_, e, rfl⟩ F.entry_list_extend (F.args_list_extend_2 _ _)
    (grow_by_tuple l its.toArray n b ws.toArray m dc sl h1 (by omega) (by omega)) ⟨e, e2, ?_⟩
  refine ⟨.non, _, I.lset (its' := its ++ ws) hH e (by simp) (r.append r2) ?_, rfl, q⟩
  rw [List.length_append]
  omega

theorem enum_new_tuple (t : Addr) (us : Array Value) (n : Nat) (dc : Option Addr) (sl : Array (Option Value)) :
    Meets (Builtin.«enumerate.__new__» ⟨[.type "enumerate", .ref t], []⟩) (fun _ R s => s.heap.get? t = some { cls := .type "tuple", dict := dc, data := .seq us n, slots := sl } ∧
      R (.ok (.ret (.ref (s.heap.push { cls := .type "tuple_iterator", data := .fields #[.ref t, .int 0 0] }).objs.size)))
        { s with heap := (s.heap.push { cls := .type "tuple_iterator", data := .fields #[.ref t, .int 0 0] }).push { cls := .type "enumerate", data := .fields #[.none, .bool false, .ref s.heap.objs.size, rawInt 0, .none, .none] } }) :=
  .of_wp fun prog w A R s hh => by
    obtain ⟨hp, g, d, tk, os⟩ := s
    obtain ⟨ht, q⟩ := hh
    have i1 := sub_enumerate
    have iT : Heap.IsTuple (Shared.heap ⟨hp, g, d, tk, os⟩) t us := ⟨_, ht, rfl, n, rfl⟩
    wp_walk using wpAny_loadPart' ht
    refine wpAny_stack_any fun st => wpAny_pure ?_
    split
    · rename_i c _ _ _ _ _
      cases (c == Value.type "enumerate") <;> (wp_walk using wpAny_loadPart' ht, wpAny_pyIter_tuple iT; exact ⟨_, rfl, q⟩)
    · wp_walk using wpAny_loadPart' ht, wpAny_pyIter_tuple iT
      exact ⟨_, rfl, q⟩
theorem call_enum_tuple {prog : Program} {w : World} {A : Around} {E : Value → Shared → Prop} {s : Shared} {t : Addr} {us : Array Value} {Q : Value → Shared → Prop} (hT : s.heap.IsTuple t us)
    (h : ∀ h', IsEnum h' (s.heap.objs.size + 1) s.heap.objs.size 0 .none → h'.IsTupleIter s.heap.objs.size t 0 → (∀ b o, s.heap.get? b = some o → h'.get? b = some o) → Q (.ref (s.heap.objs.size + 1)) { s with heap := h' }) :
    wpAny (model prog w) A (call (.type "enumerate") [.ref t]) Q E s := by
  obtain ⟨⟨c, dc, dt, sl⟩, ht, hc, n, hd⟩ := hT
  simp only at hc hd
  subst hc hd
  refine callType_new F.called_enumerate (by decide) (F.typeCall_enumerate_1 _) (F.newCall_enumerate_1 _) (fun obj => F.args_object_init_2 obj _) F.entry_enumerate_new (enum_new_tuple t us n dc sl) ⟨ht, ?_⟩
  generalize hI : ({ cls := .type "tuple_iterator", data := .fields #[.ref t, .int 0 0] } : Obj) = oI
  generalize hE : ({ cls := .type "enumerate", data := .fields #[.none, .bool false, .ref s.heap.objs.size, rawInt 0, .none, .none] } : Obj) = oE
  have z : (s.heap.push oI).objs.size = s.heap.objs.size + 1 := Heap.size_push ..
  have fI : oI.isFreed = false := by rw [← hI] <;> rfl
  have fE : oE.isFreed = false := by rw [← hE] <;> rfl
  have gE : ((s.heap.push oI).push oE).get? (s.heap.objs.size + 1) = some oE := by
    have q := Heap.get?_push_size (s.heap.push oI) (o := oE) fE
    rw [z] at q
    exact q
  have gI : ((s.heap.push oI).push oE).get? s.heap.objs.size = some oI := Heap.get?_push_of_some _ (Heap.get?_push_size _ fI)
  show _ ∧ _
  rw [z]
  subst hI hE
  exact ⟨⟨_, gE, rfl⟩, h _ gE ⟨_, gI, rfl, rfl⟩ fun b o x => Heap.get?_push_of_some _ (Heap.get?_push_of_some _ x)⟩
/-- the tuple at a, each item in a new pair with its number -/
def Itet (K : PySem.W.Frag) (a : Addr) : It :=
  ⟨fun i H => ∃ (xs : List V) (x : V), SqT K H a xs ∧ xs[i]? = some x,
    fun i H v H' => ∃ p x, v = .ref p ∧ H p = none ∧ H' = upd H p (.tup [.int (i : Nat), x]) ∧ ∀ xs, SqT K H a xs → xs[i]? = some x,
    fun i H => ∃ xs : List V, SqT K H a xs ∧ xs.length = i⟩
theorem turn_enum_tuple {P : Program} {w : World} {K : PySem.W.Frag} {elts : List Expr} {kk : Nat} {tpos : Pos} (a e it : Addr) (hne : e ≠ it) :
    Turn P w K (.Tuple elts kk tpos) (Itet K a) [e, it] e (fun i h => (∃ old, IsEnum h e it ((i : Nat) : Int) old) ∧ h.IsTupleIter it a i) where
  mem := List.mem_cons_self
  obj := fun i h st b hb => by
    obtain ⟨⟨old, he⟩, o, ho, hc, hd⟩ := st
    rcases List.mem_cons.mp hb with z | z
    · rw [z]
      exact ⟨_, he, fun v q => nomatch q⟩
    · rw [List.mem_singleton.mp z]
      exact ⟨o, ho, fun v q => by rw [hd] at q; cases q⟩
  keep := fun i h h' st k => by
    obtain ⟨⟨old, he⟩, hi⟩ := st
    exact ⟨⟨old, k e (by simp) _ he⟩, hi.at fun o q => k it (by simp) o q⟩
  item := by
    intro X hP hw hK hc i pins s σ H E I hf st hg
    subst hP hw hK
    obtain ⟨⟨old, he⟩, hit⟩ := st
    obtain ⟨xs, x, hq, hx⟩ := hg
    obtain ⟨its, rv, p, hz⟩ := I.tuple hq
    obtain ⟨u, hu, ru⟩ := rv.get hx
    have pT : s.heap.IsTuple a its.toArray := p
    have hel : e < s.heap.objs.size := Heap.lt_size he
    have hil : it < s.heap.objs.size := by
      obtain ⟨_, q, _⟩ := hit
      exact Heap.lt_size q
    have nea : e ≠ a := fun z => by
      obtain ⟨o, ho, hcl, _⟩ := pT
      have he2 := he
      unfold IsEnum at he2
      rw [z, ho] at he2
      have q := Option.some.inj he2
      rw [q] at hcl
      have q2 : Value.type "enumerate" = Value.type "tuple" := hcl
      exact absurd q2 (by decide)
    have nia : a ≠ it := fun z => by
      obtain ⟨o, ho, hcl, _⟩ := pT
      obtain ⟨o2, ho2, hcl2, _⟩ := hit
      rw [z, ho2] at ho
      have q := Option.some.inj ho
      rw [← q, hcl2] at hcl
      exact absurd hcl (by decide)
    have hlt : i < its.toArray.size := by
      rw [List.size_toArray]
      exact (List.getElem?_eq_some_iff.mp hu).1
    refine wpAny_pyNext_enum_itemC (Draws.tuple (prog := X.prog) (w := X.w) (A := X.A.in1) (I.ok.hd hc) it a nia its.toArray) he ⟨hit, pT⟩ hlt hne (by simp [hne, nea]) fun y h' tk hy ho hit' hT hsz hk => ?_
    have ey : y = u := by
      have q : its.toArray[i]? = some u := by simpa using hu
      rw [q] at hy
      exact (Option.some.inj hy).symm
    subst ey
    refine ⟨_, rfl, wpAny_letOwnedTupleGo_enum (s := { s with heap := h', toks := tk + 1 }) ho fun h2 he2 sb => ?_⟩
    have hT2 : h2.get? s.heap.objs.size = some { cls := .type "tuple", data := .seq #[.int i tk, y] } := (sb.2 _ (Nat.ne_of_gt hel)).trans hT
    have new : ObjOk X.prog X.w (upd H s.heap.objs.size (.tup [.int (i : Nat), x])) h2 s.heap.objs.size (.tup [.int (i : Nat), x]) :=
      ⟨by show 2 ≤ sizeLine; decide, [.int i tk, y], .cons ⟨_, rfl⟩ (.cons ru .nil), ⟨_, hT2, rfl, _, rfl⟩⟩
    have I1 : Inv X pins σ (upd H s.heap.objs.size (.tup [.int (i : Nat), x])) { s with heap := h2, toks := tk + 1 } :=
      I.turnedNew (ch := [e, it]) (fun b ob hb q => by
        have n1 : b ≠ e := fun z => hb (by simp [z])
        have n2 : b ≠ it := fun z => hb (by simp [z])
        exact (sb.2 b n1).trans (hk b ob n1 n2 q)) hf (Nat.le_refl _) new
    refine ⟨.ref s.heap.objs.size, _, I1, rfl, ⟨_, x, rfl, I.hok.fresh (Nat.le_refl _), rfl, fun ys hys => by rw [I.tuple_inj hys hq]; exact hx⟩, ⟨⟨y, ?_⟩, hit'.1.at fun o q => (sb.2 it (Ne.symm hne)).trans q⟩, fun b hb => ?_⟩
    · have e1 : ((i + 1 : Nat) : Int) = (i : Int) + 1 := by omega
      rw [e1]
      exact he2
    · have hb' : b < s.heap.objs.size := by
        rcases List.mem_cons.mp hb with z | z
        · rw [z]; exact hel
        · rw [List.mem_singleton.mp z]; exact hil
      rw [upd_ne (Nat.ne_of_lt hb')]
      exact (hf b hb).1
  done := by
    intro X hP hw hK hc i pins s σ H E I hf st hg
    subst hP hw hK
    obtain ⟨⟨old, he⟩, hit⟩ := st
    obtain ⟨xs, hq, hx⟩ := hg
    obtain ⟨its, rv, p, hz⟩ := I.tuple hq
    have pT : s.heap.IsTuple a its.toArray := p
    obtain ⟨f0, f1, f2, f3, f4, f5⟩ := hf it (by simp)
    have nia : a ≠ it := fun z => by
      obtain ⟨o, ho, hcl, _⟩ := pT
      obtain ⟨o2, ho2, hcl2, _⟩ := hit
      rw [z, ho2] at ho
      have q := Option.some.inj ho
      rw [← q, hcl2] at hcl
      exact absurd hcl (by decide)
    have hz2 : its.toArray.size = i := by
      rw [List.size_toArray, ← rv.length, hx]
    refine wpAny_pyNext_enum_endD (Draws.tuple (prog := X.prog) (w := X.w) (A := X.A.in1) (I.ok.hd hc) it a nia its.toArray) he (by rw [hz2]; exact ⟨hit, pT⟩) fun h' eb => ⟨rfl, I.turned (t' := s.toks) (fun b o hb q => eb b o hb q) f0 f1 f3 f4 f5⟩
  self := fun A i s Q E st h => by
    obtain ⟨⟨_, he⟩, _⟩ := st
    exact wpAny_pyIter_enum he h
def iEnumT (K : PySem.W.Frag) (ta : TA) : TI := fun σ H R => ta σ H fun vs H1 => ∃ a xs, vs = [.ref a] ∧ SqT K H1 a xs ∧ R (Itet K a) H1
theorem pi_enum_tuple {X : Cx} {e : Expr} {ta : TA} {p pos tpos : Pos} {elts : List Expr} {kk : Nat} (hm : X.mg "enumerate" = none) (ha : PA X [e] ta) (hg : Gl X "enumerate" := by rfl) (hs : starEach [e] X.env = [(false, eval e X.env)] := by rfl) :
    PI X (.Tuple elts kk tpos) (.Call (.Name "enumerate" p) [e] [] pos) (iEnumT X.K ta) := by
  refine ⟨fun pins s σ H R I h => ?_⟩
  refine Call_ (ld_blt I hg hm boot_enumerate (PyProof.Rows.callWith_type1 (thn (ha.run pos pins s σ H _ I h) fun us s1 ⟨vs, H1, I1, r1, q1⟩ => ?_) hs rfl))
  obtain ⟨a, xs, ex, hq, q⟩ := q1
  subst ex
  cases r1 with
  | cons r rr =>
    cases rr
    cases r
    obtain ⟨its, rv, p', hz⟩ := I1.tuple hq
    refine call_enum_tuple (show s1.heap.IsTuple a its.toArray from p') fun h' he hit hk => wpAny_pyIter_enum he ?_
    have I2 : Inv X pins σ H1 { s1 with heap := h' } := I1.kept (t' := s1.toks) hk
    refine ⟨s1.heap.objs.size + 1, [s1.heap.objs.size + 1, s1.heap.objs.size], _, _, H1, rfl, I2, turn_enum_tuple a (s1.heap.objs.size + 1) s1.heap.objs.size (Nat.succ_ne_self _), ⟨⟨.none, he⟩, hit⟩, fun b hb => ?_, q⟩
    have hle : s1.heap.objs.size ≤ b := by
      rcases List.mem_cons.mp hb with z | z
      · rw [z]; exact Nat.le_succ _
      · rw [List.mem_singleton.mp z]; exact Nat.le_refl _
    exact I1.fpOk hle (I1.hok.fresh hle)
/-- the block over such an enumerate -/
theorem lc_enum_tuple {K : PySem.W.Frag} {a : Addr} {xs : List V} {g : TG} {tt : TT} {te : TE} {vs : List Nat} {σ : L2.St} {H1 : Hp} {D : Addr} {Qd : Hp → Prop} (Pv : Nat → Hp → Prop) (h0 : Pv 0 (upd H1 D (.lst []))) (hl : ∀ i H, i ≤ xs.length → Pv i H → SqT K H a xs)
    (hs : ∀ i x H p, xs[i]? = some x → Pv i H → H p = none → g (.ref p) (wipe σ vs) (upd H p (.tup [.int (i : Nat), x])) fun σ2 H2 => wipe σ2 vs = wipe σ vs ∧ tt σ2 H2 fun b H3 =>
      if b = true then te σ2 H3 fun y H4 => ∃ acc, H4 D = some (.lst acc) ∧ acc.length < sizeLine ∧ Pv (i + 1) (upd H4 D (.lst (acc ++ [y]))) else Pv (i + 1) H3) (hd : ∀ H, Pv xs.length H → Qd H) :
    ∃ W : Nat → Nat → Hp → Prop, (∃ m, W 0 m (upd H1 D (.lst []))) ∧ ∀ i m H, W i m H →
      ((Itet K a).stop i H ∧ Qd H) ∨ ((Itet K a).go i H ∧ ∃ Nx : Hp → Prop, (∀ H', Nx H' → ∃ m', m' < m ∧ W (i + 1) m' H') ∧ ∀ x H', (Itet K a).yld i H x H' → g x (wipe σ vs) H' fun σ2 H2 => wipe σ2 vs = wipe σ vs ∧ tt σ2 H2 fun b H3 =>
        if b = true then te σ2 H3 fun y H4 => ∃ acc, H4 D = some (.lst acc) ∧ acc.length < sizeLine ∧ Nx (upd H4 D (.lst (acc ++ [y]))) else Nx H3) := by
  refine ⟨fun i m H => m = xs.length - i ∧ i ≤ xs.length ∧ Pv i H, ⟨xs.length, by simp, Nat.zero_le _, h0⟩, ?_⟩
  rintro i m H ⟨rfl, hi, p⟩
  have q := hl i H hi p
  by_cases c : i < xs.length
  · refine .inr ⟨⟨xs, xs[i], q, by simp [c]⟩, Pv (i + 1), fun H' p' => ⟨xs.length - (i + 1), by omega, rfl, c, p'⟩, fun x H' y => ?_⟩
    obtain ⟨r, z, rfl, nr, rfl, hz⟩ := y
    exact hs i z H r (hz xs q) p nr
  · have e : i = xs.length := by omega
    subst e
    exact .inl ⟨⟨xs, q, rfl⟩, hd H p⟩
end Gf
/-! A rule beside the layer's: try with several clauses, each «except C as n». -/
namespace Gf
open PySem PySem.Spec PyProof.Rows L2
/-- one clause: its class, the slot of its name, its suite -/
structure Clause where
  cls : Value
  at_ : Nat
  suite : Addr → Value → Option Addr → TS
/-- behind a suite the name is gone -/
def goneAt (i : Nat) (D : Ends) : Ends := { nx := fun σ H => D.nx (σ.set i none) H, rt := D.rt, bk := fun σ H => D.bk (σ.set i none) H, ct := fun σ H => D.ct (σ.set i none) H }
def wClauses (K : PySem.W.Frag) (Wout : WX) (D : Ends) : List Clause → WX
  | [] => Wout
  | c :: r => fun cls d σ H => ∃ b, PySem.W.exmOne K cls c.cls = some b ∧ (b = true → ∀ a, H a = none → c.suite a cls d (goneAt c.at_ D) (σ.set c.at_ (some (.ref a))) H) ∧ (b = false → wClauses K Wout D r cls d σ H)
inductive ClausesOk (X : Cx) : List ExceptHandler → List Clause → Prop
  | nil : ClausesOk X [] []
  | cons {x n : Str} {c : Clause} {b : Stmt} {bs : List Stmt} {np pos' : Pos} {hds : List ExceptHandler} {l : List Clause} (hi : X.N[c.at_]? = some n) (hl : X.env.kindOf n = some .local) (hc : Names X x c.cls)
      (hsu : ∀ (a : Addr) (oe : Obj) (cls : Value) (d : Option Addr) (pn : List (Addr × Obj)), Zc cls d oe → (∃ vs, oe.data = .fields vs) → PSs (X.suite a ((a, oe) :: pn)) (b :: bs) (c.suite a cls d)) (r : ClausesOk X hds l) :
      ClausesOk X (.ExceptHandler (some (.Name x np)) (some n) (b :: bs) pos' :: hds) (c :: l)
section
variable {X : Cx} {pins : List (Addr × Obj)} {D : Ends} {Wout : WX}
/-- an exception on its way is met by the clauses, one after another -/
theorem meet_clauses (hs : X.stack = X.env :: X.outer) (hf : X.env.frame = some X.env.locals) (hN : X.N.Nodup) (tk : Takes X Wout) {a : Addr} {B : Heap} {sI s' : Shared} {σ : L2.St} {H : Hp} {cls : Value} {d : Option Addr} {h3 : Heap}
    (J : Inv X pins σ H sI) (nb : ∀ b o, sI.heap.get? b = some o → b ∉ frs X.stack → B.get? b = some o) (up : sI.heap.UpToSlots h3) (os : s'.os = sI.os) (ag : AllBare s'.gens) (na : H a = none)
    (fl : HandSPX.FlyingZ B (X.env :: X.outer) a (Zc cls d) h3) :
    ∀ {hds : List ExceptHandler} {l : List Clause}, ClausesOk X hds l → wClauses X.K Wout D l cls d σ H →
      wpAny (model X.prog X.w) X.A (handleBy (.ref a) X.env hds) (SP X pins D) X.xe { s' with heap := h3 } := by
  have ok := J.ok
  have J3 : Inv X pins σ H { s' with heap := h3 } := J.landed nb fl.1 up os ag
  obtain ⟨oe3, vs3, he3, hz3, hd3⟩ := fl.there
  have nfr : a ∉ frs (X.env :: X.outer) := fun hm => by
    obtain ⟨_, o', e', hnf⟩ := fl.2.2.1.mem hm
    have eo : oe3 = o' := Option.some.inj (he3.symm.trans e')
    exact hnf vs3 (eo ▸ hd3)
  have nL : a ≠ X.env.locals := fun z => nfr (List.mem_filterMap.mpr ⟨X.env, List.mem_cons_self, by rw [hf, z]⟩)
  have nF : a ∉ X.fs := fun hm => by
    obtain ⟨e, he, q⟩ := List.mem_filterMap.mp hm
    exact nfr (List.mem_filterMap.mpr ⟨e, List.mem_cons_of_mem _ he, q⟩)
  intro hds l hk
  induction hk with
  | nil =>
    intro w
    obtain ⟨_, _, _, oe, vs, T, oT, ts, he, hz, hd, h1, hr⟩ := id fl
    refine wpAny_handleBy_nil ?_
    unfold PySem.passOn
    refine wpAny_bind (wpAny_field he hd h1 ?_)
    rw [if_neg (show ¬ ((Value.ref T == Value.none) = true) from by simp)]
    have out : wpAny (model X.prog X.w) X.A (setFlight (.ref a) X.env.frame) (fun _ s4 => wpAny (model X.prog X.w) X.A (throw (.ref a) : Sem Flow) (SP X pins D) X.xe s4) X.xe { s' with heap := h3 } := by
      rw [hf]
      refine HandSPX.setFlight_upZ fl fun h4 hh4 up4 => wpAny_throw (tk _ _ ?_)
      exact ⟨a, B, sI, pins, σ, H, cls, d, rfl, J, nb, up.trans up4, .inr (.inr (by rw [hs]; exact hh4)), na, os, ag, w⟩
    first
      | exact wpAny_bind (wpAny_pure (wpAny_bind out))
      | exact wpAny_bind out
  | @cons x n c b bs np pos' hds' l' hi hl hc hsu r ih =>
    intro w
    obtain ⟨k, hk1, hyes, hno⟩ := w
    have look : PySem.W.Looks (model X.prog X.w) h3 (typeOf (.ref a)) cls := fun A Q E s kk q => wpAny_typeOf_ref (kk _ _ he3) (by rw [hz3.1]; exact q)
    have hit := PySem.W.exm_one (M := model X.prog X.w) J3.kIn look hk1
    have S3 := J3.suite he3 hd3 na nL nF
    refine wpAny_handleBy_cons (codeAny_handlers_test ?_) (by intro q; cases q)
    have named : ∀ {Q : Value → Shared → Prop} {E : Value → Shared → Prop}, Q c.cls { s' with heap := h3 } → wpAny (model X.prog X.w) (X.A.mark (some (.ref a))) (eval (.Name x np) X.env) Q E { s' with heap := h3 } := fun {Q E} q => by
      rcases hc with ⟨hg, hdb, hm | ⟨hm, hv, hnn⟩⟩
      · exact ld_glob (X := X.suite a ((a, oe3) :: (X.pn ++ pins))) S3 hg hm q hdb
      · exact ld_blt (X := X.suite a ((a, oe3) :: (X.pn ++ pins))) S3 hg hm hv q hnn hdb
    refine named (hit.here ?_)
    cases k with
    | false =>
      show wpAny _ X.A (handleBy (.ref a) X.env hds') _ _ _
      exact ih (hno rfl)
    | true =>
      refine codeAny_handlers_suite_as ?_
      refine HandSPX.lands_againZ fl fun h4 fl4 up4 => ?_
      have J4 : Inv X pins σ H { s' with heap := h4 } := J.landed nb fl4.1 (up.trans up4) os ag
      obtain ⟨oe4, vs4, he4, hz4, hd4⟩ := fl4.there
      have S4 := J4.suite he4 hd4 na nL nF
      refine store_ok (X := X.suite a ((a, oe4) :: (X.pn ++ pins))) (v := .ref a) S4 hN hi (.inl hl) rfl (fun s5 S5 => ?_) (.inr hl)
      refine wpAny_mono ((hsu a oe4 cls d (X.pn ++ pins) hz4 ⟨_, hd4⟩).run [] s5 _ H _ S5 (hyes rfl a na)) (fun f s6 hsp => ?_) (fun _ _ z => False.elim z)
      have done : ∀ {σ6 : L2.St} {H6 : Hp} {Q : Shared → Prop}, Inv (X.suite a ((a, oe4) :: (X.pn ++ pins))) [] σ6 H6 s6 → (∀ s7, Inv X pins (σ6.set c.at_ none) H6 s7 → Q s7) →
          wpAny (model X.prog X.w) X.A (do bindName X.env n .none; unbindBehindTheSuite X.env n pos') (fun _ s7 => Q s7) X.xe s6 := fun {σ6 H6 Q} S6 hq => gone_ok (S6.unsuite ok) hN hi hl hq
      cases f with
      | ret u =>
        obtain ⟨v6, σ6, H6, S6, r6, q6⟩ := hsp
        exact done S6 fun s7 J7 => ⟨v6, _, H6, J7, r6, q6⟩
      | next =>
        obtain ⟨σ6, H6, S6, q6⟩ := hsp
        exact done S6 fun s7 J7 => ⟨_, H6, J7, q6⟩
      | brk =>
        obtain ⟨σ6, H6, S6, q6⟩ := hsp
        exact done S6 fun s7 J7 => ⟨_, H6, J7, q6⟩
      | cont =>
        obtain ⟨σ6, H6, S6, q6⟩ := hsp
        exact done S6 fun s7 J7 => ⟨_, H6, J7, q6⟩
theorem ps_try_clauses {body : List Stmt} {h0 : ExceptHandler} {hds : List ExceptHandler} {l : List Clause} {pos : Pos} {tb : WX → TS} (hs : X.stack = X.env :: X.outer) (hf : X.env.frame = some X.env.locals) (hN : X.N.Nodup) (tk : Takes X Wout)
    (hb : ∀ (W : WX) (pn : List (Addr × Obj)) (xe : Value → Shared → Prop), Takes (X.tr pn xe) W → PassesOwn (model X.prog X.w) X.A X.env xe → PSs (X.tr pn xe) body (tb W))
    (hh : ClausesOk X (h0 :: hds) l) : PS X (.Try body (h0 :: hds) [] [] pos) (fun D σ H => tb (wClauses X.K Wout D l) D σ H) := by
  refine ⟨fun pins s σ H D I h => ?_⟩
  have ok := I.ok
  have hfr : X.A.frames = some (X.env :: X.outer) := by rw [ok.frames, hs]
  have caught : Takes (X.tr (X.pn ++ pins) (fun e s1 => wpAny (model X.prog X.w) X.A (noteFrame e X.env) (fun _ s2 => wpAny (model X.prog X.w) X.A (setFlight e none) (fun _ s3 =>
      wpAny (model X.prog X.w) X.A (handleBy e X.env (h0 :: hds)) (SP X pins D) X.xe s3) X.xe s2) X.xe s1)) (wClauses X.K Wout D l) := by
    intro u s' xx
    obtain ⟨a, B, sI, pins', σ', H', cls, d, rfl, J', nb, up, sky, na, os, ag, w⟩ := xx
    have sky' : Sky B (X.env :: X.outer) a (Zc cls d) X.env.locals s'.heap := by rw [← hs]; exact sky
    show wpAny (model X.prog X.w) X.A (noteFrame (.ref a) X.env) _ _ _
    exact Sky.land Zc.steady hfr hf sky' fun h3 fl3 up3 => meet_clauses hs hf hN tk (J'.ofTry ok) nb (up.trans up3) os ag na fl3 hh w
  refine wpAny_Try_except (wpAny_mono ((hb _ _ _ caught PassesOwn.looking).run [] s σ H D (I.toTry _) h) (fun f s1 hsp => ?_) (fun e s1 he => he))
  cases f with
  | ret u =>
    obtain ⟨v, σ', H', J', r, q⟩ := hsp
    exact ⟨v, σ', H', J'.ofTry ok, r, q⟩
  | next =>
    obtain ⟨σ', H', J', q⟩ := hsp
    exact wpAny_execs_nil ⟨σ', H', J'.ofTry ok, q⟩
  | brk =>
    obtain ⟨σ', H', J', q⟩ := hsp
    exact ⟨σ', H', J'.ofTry ok, q⟩
  | cont =>
    obtain ⟨σ', H', J', q⟩ := hsp
    exact ⟨σ', H', J'.ofTry ok, q⟩
end
end Gf
namespace Gf
open PySem PySem.Spec PyProof.Rows L2
/-! ### the text by places -/
def topS (i : Nat) : Stmt := PySem.Challenge.pw_rootfirst_k05_whole_grafts.main.body.getD i (.Pass ⟨0, 0, 0, 0⟩)
/-! ### a def with its promise, as callers take it -/
structure Dfn (P : Program) (w : World) (K : PySem.W.Frag) (mg : Str → Option Value) (base : Heap) (CX : CXT) (k : Nat) (x : Str) (ps : List Str) (sp : Sp) : Prop where
  ex : ∃ (f : Addr) (fd : FuncData), FnOk P w K mg base CX k f fd ps sp ∧ mg x = some (.ref f) ∧ PySem.W.keepIn K (.ref f) = true ∧ Binds K fd ps []
/-- a def as it stands behind the top -/
structure Df (K : PySem.W.Frag) (mg : Str → Option Value) (x : Str) (st : Stmt) (ps : List Str) : Prop where
  ex : ∃ (f : Addr) (fd : FuncData), Fun K x x st f fd ∧ mg x = some (.ref f) ∧ Binds K fd ps []
section
variable {P : Program} {w : World} {K : PySem.W.Frag} {mg : Str → Option Value} {base : Heap} {CX : CXT} {j k : Nat} {x : Str} {st : Stmt} {ps : List Str} {sp sp' : Sp}
theorem Df.dfn (D : Df K mg x st ps) (h : ∀ (f : Addr) (fd : FuncData), Fun K x x st f fd → FnOk P w K mg base CX k f fd ps sp) : Dfn P w K mg base CX k x ps sp := by
  obtain ⟨f, fd, F, g, b⟩ := D.ex
  exact ⟨f, fd, h f fd F, g, F.kp, b⟩
theorem Dfn.mono (D : Dfn P w K mg base CX j x ps sp) (h : j ≤ k) : Dfn P w K mg base CX k x ps sp := by
  obtain ⟨f, fd, F, g, kp, b⟩ := D.ex
  exact ⟨f, fd, F.mono h, g, kp, b⟩
theorem Dfn.imp (D : Dfn P w K mg base CX k x ps sp) (h : ∀ vs H Q E, sp' vs H Q E → sp vs H Q E) : Dfn P w K mg base CX k x ps sp' := by
  obtain ⟨f, fd, F, g, kp, b⟩ := D.ex
  exact ⟨f, fd, F.imp h, g, kp, b⟩
/-- nothing is asked of a def that is not called -/
theorem Df.never (D : Df K mg x st ps) (h : ∀ vs H Q E, ¬ sp vs H Q E) : Dfn P w K mg base CX 0 x ps sp := by
  obtain ⟨f, fd, F, g, b⟩ := D.ex
  exact ⟨f, fd, ⟨fun vs H Q E q => absurd q (h vs H Q E), fun A outer s H args us vs Q E _ _ _ _ q => absurd q (h vs H Q E)⟩, g, F.kp, b⟩
end
section
variable {X : Cx} {CX : CXT} {k : Nat} {x : Str} {p pos : Pos} {e : Expr} {es : List Expr} {t : TA} {ps : List Str} {sp : Sp} {E : XK}
theorem pe_cl (D : Dfn X.prog X.w X.K X.mg X.base CX0 k x ps sp) (hr : Room k X.A) (ha : PA X (e :: es) t) (hg : Gl X x := by rfl) (hdb : (x == ("__debug__" : Str)) = false := by decide)
    (he : starEach (e :: es) X.env = (false, eval e X.env) :: starEach es X.env := by rfl) (hpl : (backTo pos (starEach es X.env)).any (·.1) = false := by rfl) : PE X (.Call (.Name x p) (e :: es) [] pos) (tCall sp [] E0 t) := by
  obtain ⟨f, fd, F, g, kp, b⟩ := D.ex
  exact pe_call F hr hg g kp b .nil pass0 ha hdb he hpl
theorem pe_clX (D : Dfn X.prog X.w X.K X.mg X.base CX k x ps sp) (hx : Passes CX X E) (hr : Room k X.A) (ha : PA X (e :: es) t) (hg : Gl X x := by rfl) (hdb : (x == ("__debug__" : Str)) = false := by decide)
    (he : starEach (e :: es) X.env = (false, eval e X.env) :: starEach es X.env := by rfl) (hpl : (backTo pos (starEach es X.env)).any (·.1) = false := by rfl) : PE X (.Call (.Name x p) (e :: es) [] pos) (tCall sp [] E t) := by
  obtain ⟨f, fd, F, g, kp, b⟩ := D.ex
  exact pe_call F hr hg g kp b .nil hx ha hdb he hpl
end
/-! ### the heap -/
abbrev nv (k : Nat) : V := .int (k : Nat)
/-- all but the list at st stands as it stood -/
def Keep (st : Addr) (H H' : Hp) : Prop := ∀ b o, b ≠ st → H b = some o → H' b = some o
/-- the tuples stand -/
def Tups (H H' : Hp) : Prop := ∀ b xs, H b = some (.tup xs) → H' b = some (.tup xs)
theorem Keep.refl (st : Addr) (H : Hp) : Keep st H H := fun _ _ _ h => h
theorem Keep.trans {st : Addr} {H H1 H2 : Hp} (a : Keep st H H1) (b : Keep st H1 H2) : Keep st H H2 := fun c o n h => b c o n (a c o n h)
theorem Keep.of {st : Addr} {H H1 : Hp} (a : Same H H1) : Keep st H H1 := fun c o _ h => a c o h
theorem Tups.of {H H1 : Hp} (a : Same H H1) : Tups H H1 := fun b xs h => a b _ h
theorem Tups.refl (H : Hp) : Tups H H := fun _ _ h => h
theorem Tups.trans {H H1 H2 : Hp} (a : Tups H H1) (b : Tups H1 H2) : Tups H H2 := fun c o h => b c o (a c o h)
theorem Keep.tups {st : Addr} {H H1 : Hp} {ys : List V} (a : Keep st H H1) (h : H st = some (.lst ys)) : Tups H H1 := fun b xs e => a b _ (fun z => by rw [z, h] at e; cases e) e
theorem same_new {H : Hp} {p : Addr} (h : H p = none) (o : HO) : Same H (upd H p o) := fun b u q => by
  rw [upd_ne (ne_of_none q h)]
  exact q
theorem same_grown {H H1 : Hp} {p : Addr} (h : H p = none) (s : Same H H1) (o : HO) : Same H (upd H1 p o) := fun b u q => by
  rw [upd_ne (ne_of_none q h)]
  exact s b u q
theorem tups_upd {H : Hp} {p : Addr} {ys : List V} (h : H p = some (.lst ys)) (o : HO) : Tups H (upd H p o) := fun b xs e => by
  rw [upd_ne (fun z => by rw [z, h] at e; cases e)]
  exact e
theorem small {n : Nat} (h : n ≤ 1000) : n ≤ sizeLine := Nat.le_of_lt (small1000 h)
/-- a tree stands at v -/
inductive TrAt (H : Hp) : Tr → V → Prop where
  | mk {s : Nat} {ks : List Tr} {p : Addr} {xs : List V} (h : H p = some (.tup (nv s :: xs))) (hl : xs.length = ks.length) (hk : ∀ (i : Nat) (c : Tr) (x : V), ks[i]? = some c → xs[i]? = some x → TrAt H c x) : TrAt H (.nd s ks) (.ref p)
theorem TrAt.mono {H H' : Hp} {t : Tr} {v : V} (h : TrAt H t v) (m : Tups H H') : TrAt H' t v := by
  induction h with
  | mk h hl hk ih => exact .mk (m _ _ h) hl ih
theorem TrAt.same {H H' : Hp} {t : Tr} {v : V} (h : TrAt H t v) (m : Same H H') : TrAt H' t v := h.mono (Tups.of m)
theorem TrAt.open {H : Hp} {t : Tr} {v : V} (h : TrAt H t v) : ∃ p xs, v = .ref p ∧ H p = some (.tup (nv t.sym :: xs)) ∧ xs.length = t.kids.length ∧ ∀ (i : Nat) (c : Tr) (x : V), t.kids[i]? = some c → xs[i]? = some x → TrAt H c x := by
  cases h with
  | mk h hl hk => exact ⟨_, _, rfl, h, hl, hk⟩
theorem TrAt.close {H : Hp} {t : Tr} {p : Addr} {xs : List V} (h : H p = some (.tup (nv t.sym :: xs))) (hl : xs.length = t.kids.length) (hk : ∀ (i : Nat) (c : Tr) (x : V), t.kids[i]? = some c → xs[i]? = some x → TrAt H c x) : TrAt H t (.ref p) := by
  cases t with
  | nd s ks => exact .mk h hl hk
/-- a tuple of numbers stands at v: arities, a place -/
def PlAt (H : Hp) (p : List Nat) (v : V) : Prop := ∃ a, v = .ref a ∧ H a = some (.tup (p.map nv))
theorem PlAt.mono {H H' : Hp} {p : List Nat} {v : V} (h : PlAt H p v) (m : Tups H H') : PlAt H' p v := by
  obtain ⟨a, e, q⟩ := h
  exact ⟨a, e, m _ _ q⟩
/-- arities as the program takes them -/
structure ArOk (ar : List Nat) : Prop where
  pos : 1 ≤ ar.length
  few : ar.length ≤ 4
  le2 : ∀ (i k : Nat), ar[i]? = some k → k ≤ 2
theorem cut_from1 (xs : List V) : cutV xs (some 1) none = xs.drop 1 := by
  unfold cutV
  rw [show HT.sIx xs.length 0 (some 1) = min 1 xs.length from HT.sIx_nat xs.length 0 1, HT.sIx_none]
  cases xs with
  | nil => rfl
  | cons x r =>
    rw [show min 1 (x :: r).length = 1 by
      rw [List.length_cons]
      omega]
    show (List.take ((x :: r).length - 1) r) = r
    rw [List.length_cons, Nat.add_sub_cancel]
    exact List.take_length
theorem cut_from (xs : List V) (k : Nat) (h : k ≤ xs.length) : cutV xs (some (k : Int)) none = xs.drop k := by
  unfold cutV
  rw [HT.sIx_nat, HT.sIx_none, Nat.min_eq_left h]
  rw [← List.length_drop]
  exact List.take_length
theorem cut_to (xs : List V) (k : Nat) : cutV xs none (some (k : Int)) = xs.take k := by
  unfold cutV
  rw [HT.sIx_nat, HT.sIx_none, Nat.sub_zero, List.drop_zero]
  by_cases h : k ≤ xs.length
  · rw [Nat.min_eq_left h]
  · rw [Nat.min_eq_right (by omega), List.take_length, List.take_of_length_le (by omega)]
/-- t[1:] of a tuple with an item is another tuple -/
theorem not_whole1 (x : V) (xs : List V) : ¬ (HT.sIx (x :: xs).length 0 (some 1) = 0 ∧ HT.sIx (x :: xs).length (x :: xs).length none = (x :: xs).length) := fun h => by
  have q := h.1
  rw [show HT.sIx (x :: xs).length 0 (some 1) = min 1 (x :: xs).length from HT.sIx_nat _ 0 1, List.length_cons] at q
  omega
end Gf
namespace Gf
open PySem PySem.Spec PyProof.Rows L2
/-- what the module's names hold -/
structure Bt (mg : Str → Option Value) : Prop where
  isi : mg "isinstance" = none
  int : mg "int" = none
  bool : mg "bool" = none
  tuple : mg "tuple" = none
  str : mg "str" = none
  list : mg "list" = none
  len : mg "len" = none
  all : mg "all" = none
  sum : mg "sum" = none
  range : mg "range" = none
  enum : mg "enumerate" = none
  abs : mg "abs" = none
  c4 : ∃ t, mg "MOST_SYMBOLS" = some (.int 4 t)
  c2 : ∃ t, mg "MOST_ARITY" = some (.int 2 t)
  c15 : ∃ t, mg "MOST_NODES" = some (.int 15 t)
theorem boot_isi : bootBuiltins "isinstance" = some (.builtin "isinstance") := by decide +kernel
theorem boot_all1 : bootBuiltins "all" = some (.builtin "all") := by decide +kernel
theorem boot_sum1 : bootBuiltins "sum" = some (.builtin "sum") := by decide +kernel
theorem boot_abs1 : bootBuiltins "abs" = some (.builtin "abs") := by decide +kernel
theorem boot_int : bootBuiltins "int" = some (.type "int") := by decide +kernel
theorem boot_bool : bootBuiltins "bool" = some (.type "bool") := by decide +kernel
theorem boot_tuple : bootBuiltins "tuple" = some (.type "tuple") := by decide +kernel
theorem boot_str : bootBuiltins "str" = some (.type "str") := by decide +kernel
theorem boot_list : bootBuiltins "list" = some (.type "list") := by decide +kernel
theorem isi_is {K : PySem.W.Frag} {H : Hp} {x : V} {t T : String} {b : Bool} {Q : VK} (ty : TyX K H x (.type t)) (h : kitB t T = some b) (q : Q (.bl b) H) : rIsi K [x, .ty T] H Q := ⟨x, .ty T, .type t, .type T, b, rfl, .ty T, ty, kit_ty h, q⟩
theorem kit_int_int : kitB "int" "int" = some true := by decide +kernel
theorem kit_int_bool : kitB "int" "bool" = some false := by decide +kernel
theorem kit_tuple_tuple : kitB "tuple" "tuple" = some true := by decide +kernel
theorem ty_int {K : PySem.W.Frag} {H : Hp} (i : Int) : TyX K H (.int i) (.type "int") := .base (.int i)
theorem ty_tup {K : PySem.W.Frag} {H : Hp} {a : Addr} {xs : List V} (h : H a = some (.tup xs)) : TyX K H (.ref a) (.type "tuple") := .base (.tup h)
section
variable {P : Program} {w : World} {K : PySem.W.Frag} {mg : Str → Option Value} {base : Heap}
/-! ### is_number -/
abbrev sNum : Stmt := topS 9
theorem scNum : FnScope ["value", "low", "high"] ["value", "low", "high"] (defScope sNum) := ⟨rfl, rfl, rfl, by decide +kernel, rfl, by decide +kernel, by decide +kernel⟩
def spNum : Sp := fun vs H Q _ => ∃ v lo hi : Int, vs = [.int v, .int lo, .int hi] ∧ Q (.bl (decide (lo ≤ v) && decide (v ≤ hi))) H
theorem ok_num (D : Df K mg "is_number" sNum ["value", "low", "high"]) (T : Bt mg) : Dfn P w K mg base CX0 1 "is_number" ["value", "low", "high"] spNum := D.dfn fun f fd F => by
  have sc := scNum
  refine F.ok sc (fun vs H Q E h => ?_) (fun cdv A outer s H vs Q E hr h => ?_)
  · obtain ⟨v, lo, hi, rfl, _⟩ := h
    rfl
  obtain ⟨v, lo, hi, rfl, q⟩ := h
  refine ⟨_, (pss_one (ps_ret (pe_and (pe_callB call_isi (by rfl) T.isi boot_isi (pa_cons (pv 0) (pa_cons (pe_bltn (v := .ty "int") (by rfl) T.int boot_int rfl) pa_nil))) (pe_and (pe_not (pe_callB call_isi (by rfl) T.isi boot_isi (pa_cons (pv 0) (pa_cons (pe_bltn (v := .ty "bool") (by rfl) T.bool boot_bool rfl) pa_nil)))) (pe_one (pe_chain op_le op_le (pv 1) (pv 0) (pv 2))))))), ?_⟩
  refine ⟨_, rfl, _, _, _, _, true, rfl, .ty _, ty_int v, kit_ty kit_int_int, true, rfl, iteT ?_⟩
  refine ⟨_, rfl, _, _, _, _, false, rfl, .ty _, ty_int v, kit_ty kit_int_bool, false, rfl, true, rfl, iteT ?_⟩
  refine ⟨_, rfl, _, rfl, lo, v, rfl, rfl, _, rfl, ite2 (fun c => ?_) (fun c => ?_)⟩
  · refine ⟨_, rfl, v, hi, rfl, rfl, ?_⟩
    rw [c, Bool.true_and] at q
    exact q
  · have c' : decide (lo ≤ v) = false := Bool.eq_false_iff.mpr c
    rw [c', Bool.false_and] at q
    exact q
end
end Gf
namespace Gf
open PySem PySem.Spec PyProof.Rows L2
theorem ifT {c : Bool} {A B : Prop} (hc : c = true) (h : A) : if c = true then A else B := by rw [if_pos hc]; exact h
theorem ifF {c : Bool} {A B : Prop} (hc : c = false) (h : B) : if c = true then A else B := by rw [hc, if_neg Bool.false_ne_true]; exact h
theorem map_take_more {α β : Type} {l : List α} {i : Nat} {x : α} (f : α → β) (h : l[i]? = some x) : (l.take (i + 1)).map f = (l.take i).map f ++ [f x] := by
  rw [List.take_add_one, h, List.map_append]
  rfl
theorem map_at {α : Type} {l : List α} {f : α → V} {i : Nat} {x : V} (h : (l.map f)[i]? = some x) : ∃ y, l[i]? = some y ∧ x = f y := by
  rw [List.getElem?_map] at h
  cases e : l[i]? with
  | none => rw [e] at h; cases h
  | some y => rw [e] at h; exact ⟨y, rfl, (Option.some.inj h).symm⟩
theorem all_ids {α : Type} : ∀ l : List α, ((l.map fun _ => true).all id) = true
  | [] => rfl
  | _ :: l => all_ids l
/-- trees stand at values, one by one -/
def Trs (H : Hp) (ts : List Tr) (vs : List V) : Prop := vs.length = ts.length ∧ ∀ (i : Nat) (t : Tr) (x : V), ts[i]? = some t → vs[i]? = some x → TrAt H t x
theorem Trs.mono {H H' : Hp} {ts : List Tr} {vs : List V} (h : Trs H ts vs) (m : Tups H H') : Trs H' ts vs := ⟨h.1, fun i t x a b => (h.2 i t x a b).mono m⟩
theorem Trs.one {H : Hp} {t : Tr} {v : V} (h : TrAt H t v) : Trs H [t] [v] := ⟨rfl, fun i u x a b => by
  cases i with
  | zero =>
    have e1 : t = u := Option.some.inj a
    have e2 : v = x := Option.some.inj b
    rw [← e1, ← e2]; exact h
  | succ i => simp at a⟩
theorem Trs.app {H : Hp} {ts us : List Tr} {vs ws : List V} (h : Trs H ts vs) (h' : Trs H us ws) : Trs H (ts ++ us) (vs ++ ws) := by
  refine ⟨by rw [List.length_append, List.length_append, h.1, h'.1], fun i t x a b => ?_⟩
  by_cases c : i < ts.length
  · rw [List.getElem?_append_left c] at a
    rw [List.getElem?_append_left (by rw [h.1]; exact c)] at b
    exact h.2 i t x a b
  · rw [List.getElem?_append_right (by omega)] at a
    rw [List.getElem?_append_right (by rw [h.1]; omega), h.1] at b
    exact h'.2 _ t x a b
theorem Trs.cut {H : Hp} {ts : List Tr} {vs : List V} (h : Trs H ts vs) : Trs H ts.dropLast vs.dropLast := by
  refine ⟨by rw [List.length_dropLast, List.length_dropLast, h.1], fun i t x a b => ?_⟩
  rw [List.getElem?_dropLast] at a b
  split at a
  · split at b
    · exact h.2 i t x a b
    · cases b
  · cases a
theorem TrAt.kids {H : Hp} {t : Tr} {v : V} (h : TrAt H t v) : ∃ p xs, v = .ref p ∧ H p = some (.tup (nv t.sym :: xs)) ∧ Trs H t.kids xs := by
  obtain ⟨p, xs, e, hp, hl, hk⟩ := h.open
  exact ⟨p, xs, e, hp, hl, hk⟩
theorem last_split {ts : List Tr} (h : ts ≠ []) : sizes ts = sizes ts.dropLast + (ts.getLast h).size := by
  have e := List.dropLast_concat_getLast h
  have q : sizes (ts.dropLast ++ [ts.getLast h]) = sizes ts.dropLast + (ts.getLast h).size := by
    rw [sizes_app, sizes_cons, sizes_nil]; omega
  rw [e] at q
  exact q
section
variable {P : Program} {w : World} {K : PySem.W.Frag} {mg : Str → Option Value} {base : Heap}
/-! ### is_arities -/
abbrev sAr : Stmt := topS 10
theorem scAr : FnScope ["value", "arity"] ["value"] (defScope sAr) := ⟨rfl, rfl, rfl, by decide +kernel, rfl, by decide +kernel, by decide +kernel⟩
def spAr : Sp := fun vs H Q _ => ∃ (ar : List Nat) (v : V), vs = [v] ∧ PlAt H ar v ∧ ArOk ar ∧ ∀ H', Same H H' → Q (.bl true) H'
theorem ok_ar (D : Df K mg "is_arities" sAr ["value"]) (T : Bt mg) (Dn : Dfn P w K mg base CX0 1 "is_number" ["value", "low", "high"] spNum) : Dfn P w K mg base CX0 2 "is_arities" ["value"] spAr := D.dfn fun f fd F => by
  have sc := scAr
  obtain ⟨t4, g4⟩ := T.c4
  obtain ⟨t2, g2⟩ := T.c2
  refine F.ok sc (fun vs H Q E h => ?_) (fun cdv A outer s H vs Q E hr h => ?_)
  · obtain ⟨ar, v, rfl, _⟩ := h
    rfl
  obtain ⟨ar, v, rfl, ⟨a, rfl, hv⟩, ok, q⟩ := h
  refine ⟨_, (pss_cons (ps_if (PW.pt (pw_or (pt_not (pt_val (pe_callB call_isi (by rfl) T.isi boot_isi (pa_cons (pv 0) (pa_cons (pe_bltn (v := .ty "tuple") (by rfl) T.tuple boot_tuple rfl) pa_nil))))) (pw_or1 (pt_not (pt_chain op_le op_le pe_int (pe_callB call_len_seq (by rfl) T.len PySem.boot_len (pa_cons (pv 0) pa_nil)) (pe_glob (v := .int 4) (by rfl) g4 ⟨_, rfl⟩)))))) (pss_one (ps_ret pe_bl)) pss_nil) (pss_one (ps_ret (pe_callB (cr_all rfl) (by rfl) T.all boot_all1 (pa_cons (pe_lc (own := [("arity", 1)]) (g := gName 1) (tt := tYes) rfl sc.nd (pi_tup (pv 0)) (blkOk_by (N := ["value", "arity"]) (sc := defScope sAr) (by decide +kernel)) (fun _ _ _ _ _ => pg_name (i := 1) sc.nd rfl (Or.inl rfl)) (fun _ _ _ _ _ => pts_nil) (fun _ _ _ _ _ => (pe_cl Dn hr (pa_cons (pv 1) (pa_cons pe_int (pa_cons (pe_glob (v := .int 2) (by rfl) g2 ⟨_, rfl⟩) pa_nil)))))) pa_nil))))), ?_⟩
  refine ⟨_, rfl, _, _, _, _, true, rfl, .ty _, ty_tup hv, kit_ty kit_tuple_tuple, true, rfl, iteF ?_⟩
  refine ⟨_, rfl, a, _, rfl, .inr (SqT.of hv), _, _, rfl, rfl, _, rfl, ifT (decide_eq_true ?_) ?_⟩
  · rw [List.length_map]
    have := ok.pos
    omega
  refine ⟨_, _, rfl, rfl, _, rfl, ifF ?_ ?_⟩
  · have := ok.few
    rw [decide_eq_true (show (((ar.map nv).length : Nat) : Int) ≤ 4 by rw [List.length_map]; omega)]
    rfl
  refine ⟨_, rfl, a, rfl, ⟨_, SqT.of hv⟩, fun L nL => lc_tup (K := K) (a := a) (xs := ar.map nv) (fun i H' => Same H H' ∧ H' L = some (.lst (((ar.take i).map fun _ => true).map V.bl))) ⟨same_new nL _, upd_same⟩ (fun i H' _ h => SqT.of (h.1 _ _ hv)) ?_ ?_⟩
  · rintro i x H' hx ⟨sm, hL⟩
    obtain ⟨k, hk, rfl⟩ := map_at hx
    have k2 := ok.le2 i k hk
    refine ⟨rfl, _, rfl, _, 0, 2, rfl, _, hL, ?_, same_grown nL sm _, ?_⟩
    · have := ok.few
      rw [List.length_map, List.length_map, List.length_take]
      exact small1000 (by omega)
    · rw [upd_same, map_take_more _ hk, List.map_append]
      have e1 : decide ((0 : Int) ≤ ((k : Nat) : Int)) = true := decide_eq_true (by omega)
      have e2 : decide (((k : Nat) : Int) ≤ (2 : Int)) = true := decide_eq_true (by omega)
      rw [e1, e2]
      rfl
  · rintro H' ⟨sm, hL⟩
    refine ⟨L, _, rfl, SqL.of hL, ?_⟩
    rw [List.length_map, List.take_length, all_ids]
    exact q H' sm
/-! ### is_place -/
abbrev sPl : Stmt := topS 12
theorem scPl : FnScope ["value", "step"] ["value"] (defScope sPl) := ⟨rfl, rfl, rfl, by decide +kernel, rfl, by decide +kernel, by decide +kernel⟩
/-- a place as the program takes it -/
structure PlOk (p : List Nat) : Prop where
  few : p.length < 15
  le1 : ∀ k ∈ p, k ≤ 1
def spPl : Sp := fun vs H Q _ => ∃ (p : List Nat) (v : V), vs = [v] ∧ PlAt H p v ∧ PlOk p ∧ ∀ H', Same H H' → Q (.bl true) H'
theorem ok_pl (D : Df K mg "is_place" sPl ["value"]) (T : Bt mg) (Dn : Dfn P w K mg base CX0 1 "is_number" ["value", "low", "high"] spNum) : Dfn P w K mg base CX0 2 "is_place" ["value"] spPl := D.dfn fun f fd F => by
  have sc := scPl
  obtain ⟨t15, g15⟩ := T.c15
  refine F.ok sc (fun vs H Q E h => ?_) (fun cdv A outer s H vs Q E hr h => ?_)
  · obtain ⟨p, v, rfl, _⟩ := h
    rfl
  obtain ⟨p, v, rfl, ⟨a, rfl, hv⟩, ok, q⟩ := h
  refine ⟨_, (pss_one (ps_ret (pe_and (pe_callB call_isi (by rfl) T.isi boot_isi (pa_cons (pv 0) (pa_cons (pe_bltn (v := .ty "tuple") (by rfl) T.tuple boot_tuple rfl) pa_nil))) (pe_and (pe_cmpR op_lt (pe_callB call_len_seq (by rfl) T.len PySem.boot_len (pa_cons (pv 0) pa_nil)) (pe_glob (v := .int 15) (by rfl) g15 ⟨_, rfl⟩) (nomark _)) (pe_one (pe_callB (cr_all rfl) (by rfl) T.all boot_all1 (pa_cons (pe_lc (own := [("step", 1)]) (g := gName 1) (tt := tYes) rfl sc.nd (pi_tup (pv 0)) (blkOk_by (N := ["value", "step"]) (sc := defScope sPl) (by decide +kernel)) (fun _ _ _ _ _ => pg_name (i := 1) sc.nd rfl (Or.inl rfl)) (fun _ _ _ _ _ => pts_nil) (fun _ _ _ _ _ => (pe_cl Dn hr (pa_cons (pv 1) (pa_cons pe_int (pa_cons pe_int pa_nil)))))) pa_nil))))))), ?_⟩
  refine ⟨_, rfl, _, _, _, _, true, rfl, .ty _, ty_tup hv, kit_ty kit_tuple_tuple, true, rfl, iteT ?_⟩
  refine ⟨_, rfl, a, _, rfl, .inr (SqT.of hv), _, _, rfl, rfl, _, rfl, ifT (decide_eq_true ?_) ?_⟩
  · rw [List.length_map]
    have := ok.few
    omega
  refine ⟨_, rfl, a, rfl, ⟨_, SqT.of hv⟩, fun L nL => lc_tup (K := K) (a := a) (xs := p.map nv) (fun i H' => Same H H' ∧ H' L = some (.lst (((p.take i).map fun _ => true).map V.bl))) ⟨same_new nL _, upd_same⟩ (fun i H' _ h => SqT.of (h.1 _ _ hv)) ?_ ?_⟩
  · rintro i x H' hx ⟨sm, hL⟩
    obtain ⟨k, hk, rfl⟩ := map_at hx
    have k1 := ok.le1 k (List.mem_of_getElem? hk)
    refine ⟨rfl, _, rfl, _, 0, 1, rfl, _, hL, ?_, same_grown nL sm _, ?_⟩
    · have := ok.few
      rw [List.length_map, List.length_map, List.length_take]
      exact small1000 (by omega)
    · rw [upd_same, map_take_more _ hk, List.map_append]
      have e1 : decide ((0 : Int) ≤ ((k : Nat) : Int)) = true := decide_eq_true (by omega)
      have e2 : decide (((k : Nat) : Int) ≤ (1 : Int)) = true := decide_eq_true (by omega)
      rw [e1, e2]
      rfl
  · rintro H' ⟨sm, hL⟩
    refine ⟨L, _, rfl, SqL.of hL, ?_⟩
    rw [List.length_map, List.take_length, all_ids]
    exact q H' sm
end
end Gf
namespace Gf
open PySem PySem.Spec PyProof.Rows L2
section
variable {P : Program} {w : World} {K : PySem.W.Frag} {mg : Str → Option Value} {base : Heap}
/-! ### is_tree -/
abbrev sTr : Stmt := topS 11
theorem scTr : FnScope ["arities", "value", "waiting", "many", "node"] ["arities", "value"] (defScope sTr) := ⟨rfl, rfl, rfl, by decide +kernel, rfl, by decide +kernel, by decide +kernel⟩
def spTr : Sp := fun vs H Q _ => ∃ (ar : List Nat) (t : Tr) (u v : V), vs = [u, v] ∧ PlAt H ar u ∧ ar.length ≤ 4 ∧ TrAt H t v ∧ WF ar t ∧ t.size ≤ 15 ∧ ∀ H', Same H H' → Q (.bl true) H'
theorem ok_tr (D : Df K mg "is_tree" sTr ["arities", "value"]) (T : Bt mg) (Dn : Dfn P w K mg base CX0 1 "is_number" ["value", "low", "high"] spNum) : Dfn P w K mg base CX0 2 "is_tree" ["arities", "value"] spTr := D.dfn fun f fd F => by
  have sc := scTr
  obtain ⟨t15, g15⟩ := T.c15
  refine F.ok sc (fun vs H Q E h => ?_) (fun cdv A outer s H vs Q E hr h => ?_)
  · obtain ⟨ar, t, u, v, rfl, _⟩ := h
    rfl
  obtain ⟨ar, t, u, v, rfl, ⟨a, rfl, ha⟩, har, ht, hw, hz, q⟩ := h
  refine ⟨_, (pss_cons (ps_set (i := 2) sc.nd rfl (Or.inl rfl) (pe_lst (pa_cons (pv 1) pa_nil))) (pss_cons (ps_set (i := 3) sc.nd rfl (Or.inl rfl) pe_int) (pss_cons (ps_while PassesOwn.never (pt_cmpR op_gt (pe_callB call_len_seq (by rfl) T.len PySem.boot_len (pa_cons (pv 2) pa_nil)) pe_int (nomark _)) (pss_cons (ps_set (i := 4) sc.nd rfl (Or.inl rfl) (pe_bm0 PySem.F.plainAttrs_list PySem.F.slot_list_pop PySem.F.type_list_pop mt_pop (pv 2))) (pss_cons (ps_set (i := 3) sc.nd rfl (Or.inl rfl) (pe_op op_add (pv 3) pe_int)) (pss_cons (ps_if (PW.pt (pw_or (pt_cmpR op_gt (pv 3) (pe_glob (v := .int 15) (by rfl) g15 ⟨_, rfl⟩) (nomark _)) (pw_or (pt_not (pt_val (pe_callB call_isi (by rfl) T.isi boot_isi (pa_cons (pv 4) (pa_cons (pe_bltn (v := .ty "tuple") (by rfl) T.tuple boot_tuple rfl) pa_nil))))) (pw_or1 (pt_cmpR op_eq (pe_callB call_len_seq (by rfl) T.len PySem.boot_len (pa_cons (pv 4) pa_nil)) pe_int (nomark _)))))) (pss_one (ps_ret pe_bl)) pss_nil) (pss_cons (ps_if (PW.pt (pw_or (pt_not (pt_val (pe_cl Dn hr (pa_cons (pe_ix ix_tup (pv 4) pe_int (fun _ _ => rfl)) (pa_cons pe_int (pa_cons (pe_op op_sub (pe_callB call_len_seq (by rfl) T.len PySem.boot_len (pa_cons (pv 0) pa_nil)) pe_int) pa_nil)))))) (pw_or1 (pt_cmpR op_ne (pe_callB call_len_seq (by rfl) T.len PySem.boot_len (pa_cons (pv 4) pa_nil)) (pe_op op_add pe_int (pe_ix ix_tup (pv 0) (pe_ix ix_tup (pv 4) pe_int (fun _ _ => rfl)) (fun _ _ => rfl))) (nomark _))))) (pss_one (ps_ret pe_bl)) pss_nil) (pss_one (ps_expr (pe_bm PySem.F.plainAttrs_list PySem.F.slot_list_extend PySem.F.type_list_extend mt_grow (pv 2) (pa_cons (pe_slice sl_tupA (pv 4) (po_some pe_int) po_none) pa_nil))))))))) (pss_one (ps_ret pe_bl))))), ?_⟩
  refine ⟨_, rfl, (by show 1 ≤ sizeLine; exact small (by omega)), fun l nl => ?_⟩
  refine ⟨fun m σ H1 => ∃ (ts : List Tr) (xs : List V) (n : Nat) (nd : Option V), m = sizes ts ∧ σ = [some (.ref a), some v, some (.ref l), some (nv n), nd] ∧ Same H H1 ∧ H1 l = some (.lst xs) ∧ Trs H1 ts xs ∧ (∀ t ∈ ts, WF ar t) ∧ n + sizes ts ≤ 15,
    ⟨_, [t], [v], 0, none, rfl, rfl, same_new nl _, upd_same, Trs.one (ht.same (same_new nl _)), fun x hx => by rw [List.mem_singleton.mp hx]; exact hw, by rw [sizes_cons, sizes_nil]; omega⟩, ?_⟩
  rintro m σ H1 ⟨ts, xs, n, nd, rfl, rfl, sm, hl, hts, hwf, hn⟩
  refine ⟨_, rfl, l, xs, rfl, .inl (SqL.of hl), _, _, rfl, rfl, _, rfl, ite2 (fun c => ?_) (fun c => ?_)⟩
  · have hne : 0 < xs.length := by
      have c' : (0 : Int) < (xs.length : Int) := of_decide_eq_true c
      omega
    have tne : ts ≠ [] := fun z => by
      rw [z] at hts
      have := hts.1
      rw [List.length_nil] at this
      omega
    obtain ⟨y, hy⟩ : ∃ y, xs[xs.length - 1]? = some y := ⟨_, List.getElem?_eq_getElem (by omega)⟩
    have tl : ts[xs.length - 1]? = some (ts.getLast tne) := by
      rw [hts.1, ← List.getLast?_eq_getElem?, List.getLast?_eq_some_getLast tne]
    have hty := hts.2 _ _ _ tl hy
    obtain ⟨pn, ys, ey, hp, hk⟩ := hty.kids
    subst ey
    have hsz := last_split tne
    have hpos := size_pos (ts.getLast tne)
    have hwl : WF ar (ts.getLast tne) := hwf _ (List.getLast_mem tne)
    have har2 := hwl.at
    have hsym : (ts.getLast tne).sym < ar.length := (List.getElem?_eq_some_iff.mp har2).1
    have hkl := hk.1
    refine ⟨fun σ' H' => ∃ (ts' : List Tr) (xs' : List V) (n' : Nat) (nd' : Option V), sizes ts' < sizes ts ∧ σ' = [some (.ref a), some v, some (.ref l), some (nv n'), nd'] ∧ Same H H' ∧ H' l = some (.lst xs') ∧ Trs H' ts' xs' ∧ (∀ t ∈ ts', WF ar t) ∧ n' + sizes ts' ≤ 15,
      fun σ' H' ⟨ts', xs', n', nd', h1, h2, h3, h4, h5, h6, h7⟩ => ⟨_, h1, ts', xs', n', nd', rfl, h2, h3, h4, h5, h6, h7⟩, ?_⟩
    -- node = waiting.pop()
    refine ⟨_, rfl, .inl ⟨rfl, _, SqL.of hl⟩, l, xs, .ref pn, rfl, rfl, hl, hy, ?_⟩
    have u1 : Tups H1 (upd H1 l (.lst xs.dropLast)) := tups_upd hl _
    have hp1 := u1 _ _ hp
    have s1 : Same H (upd H1 l (.lst xs.dropLast)) := same_grown nl sm _
    have ha1 := s1 _ _ ha
    -- many = many + 1
    refine ⟨_, rfl, (n : Int), 1, rfl, rfl, ?_⟩
    -- the first test
    refine ⟨_, rfl, _, _, rfl, rfl, _, rfl, ifF (decide_eq_false ?_) ?_⟩
    · omega
    refine ⟨_, rfl, _, _, _, _, true, rfl, .ty _, ty_tup hp1, kit_ty kit_tuple_tuple, true, rfl, iteF ?_⟩
    refine ⟨_, rfl, pn, _, rfl, .inr (SqT.of hp1), rfl, _, rfl, ifF (decide_eq_false ?_) ?_⟩
    · intro z
      have z' : (((nv (ts.getLast tne).sym :: ys).length : Nat) : Int) = 0 := V.int.inj z
      rw [List.length_cons] at z'
      omega
    -- the second test
    have at0 : atI (nv (ts.getLast tne).sym :: ys) 0 = some (nv (ts.getLast tne).sym) := atI_nat (j := 0) rfl
    refine ⟨_, rfl, pn, _, _, _, rfl, rfl, SqT.of hp1, at0, _, rfl, a, _, rfl, .inr (SqT.of ha1), _, 1, rfl, rfl, _, _, _, rfl, _, rfl, ifF ?_ ?_⟩
    · rw [List.length_map, decide_eq_true (show (0 : Int) ≤ (((ts.getLast tne).sym : Nat) : Int) by omega), decide_eq_true (show (((ts.getLast tne).sym : Nat) : Int) ≤ ((ar.length : Nat) : Int) - 1 by omega)]
      rfl
    have atA : atI (ar.map nv) (((ts.getLast tne).sym : Nat) : Int) = some (nv (ts.getLast tne).kids.length) := atI_nat (by rw [List.getElem?_map, har2]; rfl)
    refine ⟨_, rfl, pn, _, rfl, .inr (SqT.of hp1), _, rfl, _, rfl, pn, _, _, _, rfl, rfl, SqT.of hp1, at0, a, _, _, _, rfl, rfl, SqT.of ha1, atA, 1, _, rfl, rfl, rfl, _, rfl, ifF ?_ ?_⟩
    · rw [decide_eq_true]
      · rfl
      · rw [List.length_cons, hkl]
        refine congrArg V.int ?_
        omega
    -- waiting.extend(node[1:])
    refine ⟨_, rfl, .inl ⟨rfl, _, SqL.of upd_same⟩, _, rfl, 1, rfl, pn, _, rfl, SqT.of hp1, fun z => absurd z (not_whole1 _ _), fun _ c nc => ?_⟩
    have ncl : c ≠ l := fun z => by
      rw [z, upd_same] at nc
      cases nc
    refine ⟨l, c, xs.dropLast, ys, rfl, rfl, ?_, SqT.of ?_, ?_, ?_⟩
    · rw [upd_ne (Ne.symm ncl), upd_same]
    · rw [upd_same, cut_from1]
      rfl
    · have h1 := hts.1
      have h2 := sizes_len ts
      have h3 := sizes_len (ts.getLast tne).kids
      have h4 := size_eq (ts.getLast tne)
      rw [List.length_dropLast]
      exact small (by omega)
    have hl2 : upd (upd H1 l (.lst xs.dropLast)) c (.tup (cutV (nv (ts.getLast tne).sym :: ys) (some 1) none)) l = some (.lst xs.dropLast) := by rw [upd_ne (Ne.symm ncl), upd_same]
    have s2 : Same (upd H1 l (.lst xs.dropLast)) (upd (upd H1 l (.lst xs.dropLast)) c (.tup (cutV (nv (ts.getLast tne).sym :: ys) (some 1) none))) := same_new nc _
    have u3 := u1.trans ((Tups.of s2).trans (tups_upd hl2 (.lst (xs.dropLast ++ ys))))
    refine ⟨ts.dropLast ++ (ts.getLast tne).kids, _, n + 1, some (.ref pn), ?_, rfl, same_grown nl (s1.trans s2) _, upd_same, (hts.cut.app hk).mono u3, fun x hx => ?_, ?_⟩
    · have := size_eq (ts.getLast tne)
      rw [sizes_app]
      omega
    · rcases List.mem_append.mp hx with hx | hx
      · exact hwf x (List.dropLast_subset _ hx)
      · obtain ⟨i, hi⟩ := List.getElem?_of_mem hx
        exact hwl.kid hi
    · have := size_eq (ts.getLast tne)
      rw [sizes_app]
      omega
  · exact q H1 sm
end
end Gf
namespace Gf
open PySem PySem.Spec PyProof.Rows L2
theorem kid_at {H : Hp} {ts : List Tr} {vs : List V} {i : Nat} {x : V} (h : Trs H ts vs) (hx : vs[i]? = some x) : ∃ c, ts[i]? = some c ∧ TrAt H c x := by
  have hi : i < ts.length := by
    rw [← h.1]
    exact (List.getElem?_eq_some_iff.mp hx).1
  exact ⟨_, List.getElem?_eq_getElem hi, h.2 i _ x (List.getElem?_eq_getElem hi) hx⟩
theorem val_at {H : Hp} {ts : List Tr} {vs : List V} {i : Nat} {c : Tr} (h : Trs H ts vs) (hc : ts[i]? = some c) : ∃ x, vs[i]? = some x ∧ TrAt H c x := by
  have hi : i < vs.length := by
    rw [h.1]
    exact (List.getElem?_eq_some_iff.mp hc).1
  exact ⟨_, List.getElem?_eq_getElem hi, h.2 i c _ hc (List.getElem?_eq_getElem hi)⟩
theorem few_kids {t : Tr} {i : Nat} (h : t.size ≤ 1000) : (t.kids.take i).length ≤ 1000 := by
  have h1 := sizes_len t.kids
  have h2 := size_eq t
  rw [List.length_take]
  omega
section
variable {P : Program} {w : World} {K : PySem.W.Frag} {mg : Str → Option Value} {base : Heap}
/-! ### size_of, by levels -/
abbrev sSize : Stmt := topS 13
theorem scSize : FnScope ["tree", "child"] ["tree"] (defScope sSize) := ⟨rfl, rfl, rfl, by decide +kernel, rfl, by decide +kernel, by decide +kernel⟩
def spSize (n : Nat) : Sp := fun vs H Q _ => ∃ (t : Tr) (v : V), vs = [v] ∧ TrAt H t v ∧ t.size ≤ n ∧ t.size ≤ 1000 ∧ ∀ H', Same H H' → Q (nv t.size) H'
theorem ok_size1 {n : Nat} (D : Df K mg "size_of" sSize ["tree"]) (T : Bt mg) (Dn : Dfn P w K mg base CX0 n "size_of" ["tree"] (spSize n)) : Dfn P w K mg base CX0 (n + 1) "size_of" ["tree"] (spSize (n + 1)) := D.dfn fun f fd F => by
  have sc := scSize
  refine F.ok sc (fun vs H Q E h => ?_) (fun cdv A outer s H vs Q E hr h => ?_)
  · obtain ⟨t, v, rfl, _⟩ := h
    rfl
  obtain ⟨t, v, rfl, ht, hn, hb, q⟩ := h
  obtain ⟨p, ys, rfl, hp, hk⟩ := ht.kids
  refine ⟨_, (pss_one (ps_ret (pe_op op_add pe_int (pe_callB (cr_sum rfl) (by rfl) T.sum boot_sum1 (pa_cons (pe_lc (own := [("child", 1)]) (g := gName 1) (tt := tYes) rfl sc.nd (pi_tup (pe_slice sl_tupA (pv 0) (po_some pe_int) po_none)) (blkOk_by (N := ["tree", "child"]) (sc := defScope sSize) (by decide +kernel)) (fun _ _ _ _ _ => pg_name (i := 1) sc.nd rfl (Or.inl rfl)) (fun _ _ _ _ _ => pts_nil) (fun _ _ _ _ _ => (pe_cl Dn hr (pa_cons (pv 1) pa_nil)))) pa_nil))))), ?_⟩
  refine ⟨_, rfl, 1, rfl, p, _, rfl, SqT.of hp, fun z => absurd z (not_whole1 _ _), fun _ c nc => ?_⟩
  have s1 : Same H (upd H c (.tup (cutV (nv t.sym :: ys) (some 1) none))) := same_new nc _
  have hc : upd H c (.tup (cutV (nv t.sym :: ys) (some 1) none)) c = some (.tup ys) := by
    rw [upd_same, cut_from1]
    rfl
  refine ⟨c, rfl, ⟨_, SqT.of hc⟩, fun L nL => lc_tup (K := K) (a := c) (xs := ys) (fun i H' => Same (upd H c (.tup (cutV (nv t.sym :: ys) (some 1) none))) H' ∧ H' L = some (.lst (((t.kids.take i).map fun c => ((c.size : Nat) : Int)).map V.int))) ⟨same_new nL _, upd_same⟩ (fun i H' _ h => SqT.of (h.1 _ _ hc)) ?_ ?_⟩
  · rintro i x H' hx ⟨sm, hL⟩
    obtain ⟨d, hd, hdx⟩ := kid_at hk hx
    have lt := kid_lt hd
    refine ⟨rfl, _, rfl, d, x, rfl, hdx.same (s1.trans sm), by omega, by omega, fun H2 s2 => ⟨_, s2 _ _ hL, ?_, same_grown nL (sm.trans s2) _, ?_⟩⟩
    · rw [List.length_map, List.length_map]
      exact small1000 (few_kids hb)
    · rw [upd_same, map_take_more _ hd, List.map_append]
      rfl
  · rintro H' ⟨sm, hL⟩
    refine ⟨L, _, rfl, SqL.of hL, 1, _, rfl, rfl, ?_⟩
    rw [hk.1, List.take_length, sizes_sum]
    have e : (1 : Int) + ((sizes t.kids : Nat) : Int) = ((t.size : Nat) : Int) := by
      have := size_eq t
      omega
    show Q (.int ((1 : Int) + ((sizes t.kids : Nat) : Int))) H'
    rw [e]
    exact q H' (s1.trans sm)
theorem ok_size (D : Df K mg "size_of" sSize ["tree"]) (T : Bt mg) : ∀ n : Nat, Dfn P w K mg base CX0 n "size_of" ["tree"] (spSize n)
  | 0 => D.never fun vs H Q E h => by
    obtain ⟨t, v, _, _, h0, _⟩ := h
    have := size_pos t
    omega
  | n + 1 => ok_size1 D T (ok_size D T n)
/-! ### part_at -/
abbrev sPart : Stmt := topS 14
theorem scPart : FnScope ["tree", "place", "part", "step"] ["tree", "place"] (defScope sPart) := ⟨rfl, rfl, rfl, by decide +kernel, rfl, by decide +kernel, by decide +kernel⟩
def spPart : Sp := fun vs H Q _ => ∃ (t : Tr) (p : List Nat) (v u : V), vs = [v, u] ∧ TrAt H t v ∧ PlAt H p u ∧ (∀ c x, part t p = some c → TrAt H c x → Q x H) ∧ (part t p = none → Q .non H)
theorem ok_part (D : Df K mg "part_at" sPart ["tree", "place"]) (T : Bt mg) : Dfn P w K mg base CX0 1 "part_at" ["tree", "place"] spPart := D.dfn fun f fd F => by
  have sc := scPart
  refine F.ok sc (fun vs H Q E h => ?_) (fun cdv A outer s H vs Q E hr h => ?_)
  · obtain ⟨t, p, v, u, rfl, _⟩ := h
    rfl
  obtain ⟨t, p, v, u, rfl, ht, ⟨a, rfl, ha⟩, q1, q2⟩ := h
  refine ⟨_, (pss_cons (ps_set (i := 2) sc.nd rfl (Or.inl rfl) (pv 0)) (pss_cons (ps_for PassesOwn.never rfl (pi_tup (pv 1)) (pg_name (i := 3) sc.nd rfl (Or.inl rfl)) (pss_cons (ps_if (pt_cmpR op_lt (pe_callB call_len_seq (by rfl) T.len PySem.boot_len (pa_cons (pv 2) pa_nil)) (pe_op op_add (pv 3) pe_int) (nomark _)) (pss_one (ps_ret pe_non)) pss_nil) (pss_one (ps_set (i := 2) sc.nd rfl (Or.inl rfl) (pe_ix ix_tup (pv 2) (pe_op op_add (pv 3) pe_int) (fun _ _ => rfl)))))) (pss_one (ps_ret (pv 2))))), ?_⟩
  refine ⟨_, rfl, _, rfl, a, rfl, ⟨_, SqT.of ha⟩, for_tup (K := K) (a := a) (xs := p.map nv) (fun i σ H' => H' = H ∧ ∃ (c : Tr) (x : V) (st : Option V), part t (p.take i) = some c ∧ TrAt H c x ∧ σ = [some v, some (.ref a), some x, st])
    ⟨rfl, t, v, none, by rw [List.take_zero]; rfl, ht, rfl⟩ (fun i σ H' _ h => by rw [h.1]; exact SqT.of ha) ?_ ?_⟩
  · rintro i y σ H' hy ⟨rfl, c, x, st, hc, hx, rfl⟩
    obtain ⟨k, hk, rfl⟩ := map_at hy
    obtain ⟨pc, ys, rfl, hp, hks⟩ := hx.kids
    have tk : p.take (i + 1) = p.take i ++ [k] := by rw [List.take_add_one, hk]; rfl
    have next : part t (p.take (i + 1)) = part c [k] := by rw [tk, part_app hc]
    refine ⟨_, rfl, pc, _, rfl, .inr (SqT.of hp), _, rfl, (k : Int), 2, rfl, rfl, _, _, rfl, rfl, _, rfl, ite2 (fun z => ?_) (fun z => ?_)⟩
    · have z' : (((nv c.sym :: ys).length : Nat) : Int) < (k : Int) + 2 := of_decide_eq_true z
      rw [List.length_cons, hks.1] at z'
      have none_here : part t (p.take (i + 1)) = none := by
        rw [next]
        exact part_none (List.getElem?_eq_none_iff.mpr (by omega))
      refine q2 ?_
      cases e : part t p with
      | none => rfl
      | some b =>
        obtain ⟨b', e1, _⟩ := part_take (i + 1) e
        rw [none_here] at e1
        cases e1
    · have z' : ¬ ((((nv c.sym :: ys).length : Nat) : Int) < (k : Int) + 2) := of_decide_eq_false (Bool.eq_false_iff.mpr z)
      rw [List.length_cons, hks.1] at z'
      obtain ⟨d, hd⟩ : ∃ d, c.kids[k]? = some d := ⟨_, List.getElem?_eq_getElem (by omega)⟩
      obtain ⟨y, hyk, hdy⟩ := val_at hks hd
      refine ⟨_, rfl, _, rfl, (k : Int), 1, rfl, rfl, pc, _, _, y, rfl, rfl, SqT.of hp, ?_, ?_⟩
      · exact at_of (j := k + 1) (by omega) (by rw [List.getElem?_cons_succ]; exact hyk)
      · exact ⟨rfl, d, y, some (nv k), by rw [next, part_some hd]; rfl, hdy, rfl⟩
  · rintro σ H' ⟨rfl, c, x, st, hc, hx, rfl⟩
    rw [List.length_map, List.take_length] at hc
    exact ⟨_, rfl, q1 c x hc hx⟩
end
end Gf
namespace Gf
open PySem PySem.Spec PyProof.Rows L2
theorem set_parts {ys : List V} {k : Nat} (r z : V) (hk : k < ys.length) : ((z :: ys).take (k + 1) ++ [r]) ++ (z :: ys).drop (k + 2) = z :: ys.set k r := by
  rw [List.take_succ_cons, List.drop_succ_cons, List.append_assoc, List.cons_append, List.set_eq_take_append_cons_drop, if_pos hk]
  rfl
theorem not_whole_to {xs : List V} {k : Nat} (h : k < xs.length) : ¬ (HT.sIx xs.length 0 none = 0 ∧ HT.sIx xs.length xs.length (some (k : Int)) = xs.length) := fun z => by
  have q := z.2
  rw [HT.sIx_nat] at q
  omega
theorem not_whole_from {xs : List V} {k : Nat} (h0 : 0 < k) (h : 0 < xs.length) : ¬ (HT.sIx xs.length 0 (some (k : Int)) = 0 ∧ HT.sIx xs.length xs.length none = xs.length) := fun z => by
  have q := z.1
  rw [HT.sIx_nat] at q
  omega
theorem int_at {k j : Nat} {i : Int} (e : i = ((k : Nat) : Int) + j) : i = ((k + j : Nat) : Int) := by omega
theorem Trs.put {H : Hp} {ts : List Tr} {vs : List V} {k : Nat} {d : Tr} {r : V} (h : Trs H ts vs) (hr : TrAt H d r) : Trs H (ts.set k d) (vs.set k r) := by
  refine ⟨by rw [List.length_set, List.length_set, h.1], fun i t x a b => ?_⟩
  by_cases c : i = k
  · subst c
    have h1 : i < (ts.set i d).length := (List.getElem?_eq_some_iff.mp a).1
    have h2 : i < (vs.set i r).length := (List.getElem?_eq_some_iff.mp b).1
    rw [List.length_set] at h1 h2
    rw [List.getElem?_set_self h1] at a
    rw [List.getElem?_set_self h2] at b
    cases a
    cases b
    exact hr
  · rw [List.getElem?_set_ne (Ne.symm c)] at a b
    exact h.2 i t x a b
section
variable {P : Program} {w : World} {K : PySem.W.Frag} {mg : Str → Option Value} {base : Heap}
/-! ### put_at, by levels -/
abbrev sPut : Stmt := topS 15
theorem scPut : FnScope ["tree", "place", "part", "at"] ["tree", "place", "part"] (defScope sPut) := ⟨rfl, rfl, rfl, by decide +kernel, rfl, by decide +kernel, by decide +kernel⟩
def spPut (n : Nat) : Sp := fun vs H Q _ => ∃ (t y a : Tr) (p : List Nat) (v u x : V), vs = [v, u, x] ∧ TrAt H t v ∧ PlAt H p u ∧ TrAt H y x ∧ part t p = some a ∧ p.length < n ∧ t.size ≤ 500 ∧ ∀ H' r, Same H H' → TrAt H' (put t p y) r → Q r H'
theorem ok_put1 {n : Nat} (D : Df K mg "put_at" sPut ["tree", "place", "part"]) (T : Bt mg) (Dn : Dfn P w K mg base CX0 n "put_at" ["tree", "place", "part"] (spPut n)) : Dfn P w K mg base CX0 (n + 1) "put_at" ["tree", "place", "part"] (spPut (n + 1)) := D.dfn fun f fd F => by
  have sc := scPut
  refine F.ok sc (fun vs H Q E h => ?_) (fun cdv A outer s H vs Q E hr h => ?_)
  · obtain ⟨t, y, a, p, v, u, x, rfl, _⟩ := h
    rfl
  obtain ⟨t, y, a, p, v, u, x, rfl, ht, ⟨b, rfl, hb⟩, hy, hpa, hn, hz, q⟩ := h
  obtain ⟨pt, ys, rfl, hp, hks⟩ := ht.kids
  refine ⟨_, (pss_cons (ps_if (pt_cmpR op_eq (pe_callB call_len_seq (by rfl) T.len PySem.boot_len (pa_cons (pv 1) pa_nil)) pe_int (nomark _)) (pss_one (ps_ret (pv 2))) pss_nil) (pss_cons (ps_set (i := 3) sc.nd rfl (Or.inl rfl) (pe_op op_add (pe_ix ix_tup (pv 1) pe_int (fun _ _ => rfl)) pe_int)) (pss_one (ps_ret (pe_op op_catA (pe_op op_catA (pe_slice sl_tupA (pv 0) po_none (po_some (pv 3))) (pe_tup (pa_cons (pe_cl Dn hr (pa_cons (pe_ix ix_tup (pv 0) (pv 3) (fun _ _ => rfl)) (pa_cons (pe_slice sl_tupA (pv 1) (po_some pe_int) po_none) (pa_cons (pv 2) pa_nil)))) pa_nil))) (pe_slice sl_tupA (pv 0) (po_some (pe_op op_add (pv 3) pe_int)) po_none)))))), ?_⟩
  refine ⟨_, rfl, b, _, rfl, .inr (SqT.of hb), rfl, _, rfl, ite2 (fun z => ?_) (fun z => ?_)⟩
  · have z' : (((p.map nv).length : Nat) : Int) = 0 := V.int.inj (of_decide_eq_true z)
    rw [List.length_map] at z'
    have e : p = [] := List.length_eq_zero_iff.mp (by omega)
    subst e
    exact ⟨_, rfl, q H x (Same.refl _) hy⟩
  · obtain ⟨k, p', rfl⟩ : ∃ k p', p = k :: p' := by
      cases p with
      | nil => exact absurd (decide_eq_true rfl) z
      | cons k p' => exact ⟨k, p', rfl⟩
    obtain ⟨c, hc, hca⟩ := part_cons hpa
    obtain ⟨xc, hxc, hcx⟩ := val_at hks hc
    have hkl : k < ys.length := (List.getElem?_eq_some_iff.mp hxc).1
    have e1 : ((k : Int) + 1) = ((k + 1 : Nat) : Int) := by omega
    have hlen : (nv t.sym :: ys).length = ys.length + 1 := List.length_cons
    have hsz := sizes_len t.kids
    have hse := size_eq t
    have hk1 := hks.1
    -- at = place[0] + 1
    refine ⟨_, rfl, b, _, _, _, rfl, rfl, SqT.of hb, atI_nat (j := 0) rfl, (k : Int), 1, rfl, rfl, ?_⟩
    -- tree[:at]
    refine ⟨_, rfl, _, rfl, (k : Int) + 1, rfl, pt, _, rfl, SqT.of hp, fun zz => ?_, fun _ c1 n1 => ?_⟩
    · rw [e1] at zz
      exact absurd zz (not_whole_to (by omega))
    have s1 := same_new n1 (.tup (cutV (nv t.sym :: ys) none (some ((k : Int) + 1))))
    have g1 : upd H c1 (.tup (cutV (nv t.sym :: ys) none (some ((k : Int) + 1)))) c1 = some (.tup ((nv t.sym :: ys).take (k + 1))) := by rw [upd_same, e1, cut_to]
    -- tree[at]
    refine ⟨_, rfl, _, rfl, pt, _, _, xc, rfl, rfl, SqT.of (s1 _ _ hp), ?_, ?_⟩
    · exact at_of (j := k + 1) e1 (by rw [List.getElem?_cons_succ]; exact hxc)
    -- place[1:]
    refine ⟨_, rfl, 1, rfl, b, _, rfl, SqT.of (s1 _ _ hb), fun zz => absurd zz (not_whole1 _ _), fun _ c2 n2 => ?_⟩
    have s2 := same_new n2 (.tup (cutV ((k :: p').map nv) (some 1) none))
    -- put_at(..)
    refine ⟨_, rfl, c, y, a, p', _, _, _, rfl, hcx.same (s1.trans s2), ⟨c2, rfl, ?_⟩, hy.same (s1.trans s2), hca, by rw [List.length_cons] at hn; omega, by have := kid_lt hc; omega, fun H3 r s3 hr3 => ?_⟩
    · rw [upd_same]
      exact congrArg some (congrArg HO.tup (cut_from1 _))
    refine ⟨(by show 1 ≤ sizeLine; exact small (by omega)), fun c3 n3 => ?_⟩
    have s4 := same_new n3 (.tup [r])
    have s24 := s2.trans (s3.trans s4)
    -- tree[:at] + (.., )
    refine ⟨c1, c3, _, _, rfl, rfl, SqT.of (s24 _ _ g1), SqT.of upd_same, ?_, fun zz => ?_, fun _ zz => ?_, fun _ _ c4 n4 => ?_⟩
    · rw [List.length_take, hlen, List.length_singleton]
      exact small (by omega)
    · rw [List.take_succ_cons] at zz
      cases zz
    · cases zz
    have s5 := same_new n4 (.tup ((nv t.sym :: ys).take (k + 1) ++ [r]))
    have s15 := s1.trans (s24.trans s5)
    have s35 := s4.trans s5
    -- tree[at + 1:]
    have e2 : ((k : Int) + 1 + 1) = ((k + 2 : Nat) : Int) := by omega
    have ec : cutV (nv t.sym :: ys) (some ((k : Int) + 1 + 1)) none = (nv t.sym :: ys).drop (k + 2) := by rw [e2, cut_from _ _ (by omega)]
    refine ⟨_, rfl, _, rfl, (k : Int) + 1, 1, rfl, rfl, (k : Int) + 1 + 1, rfl, pt, _, rfl, SqT.of (s15 _ _ hp), fun zz => ?_, fun _ c5 n5 => ?_⟩
    · rw [e2] at zz
      exact absurd zz (not_whole_from (by omega) (by omega))
    have s6 := same_new n5 (.tup (cutV (nv t.sym :: ys) (some ((k : Int) + 1 + 1)) none))
    have g4 := s6 _ _ (upd_same (a := c4) (o := .tup ((nv t.sym :: ys).take (k + 1) ++ [r])))
    have s36 := s35.trans s6
    have whole : ((nv t.sym :: ys).take (k + 1) ++ [r]) ++ cutV (nv t.sym :: ys) (some ((k : Int) + 1 + 1)) none = nv t.sym :: ys.set k r := by
      rw [ec, set_parts r _ hkl]
    have shut : ∀ {H' : Hp} {g : Addr}, Same H3 H' → H' g = some (.tup (nv t.sym :: ys.set k r)) → TrAt H' (put t (k :: p') y) (.ref g) := fun {H' g} sm hg => by
      rw [put_some hc]
      refine TrAt.close (t := .nd t.sym (t.kids.set k (put c p' y))) hg ?_ ?_
      · exact ((hks.mono (Tups.of (s1.trans (s2.trans (s3.trans sm))))).put (hr3.same sm)).1
      · exact ((hks.mono (Tups.of (s1.trans (s2.trans (s3.trans sm))))).put (hr3.same sm)).2
    refine ⟨c4, c5, _, _, rfl, rfl, SqT.of g4, SqT.of upd_same, ?_, fun zz => ?_, fun _ zz => ?_, fun _ _ c6 n6 => ?_⟩
    · rw [ec, List.length_append, List.length_take, List.length_drop, hlen, List.length_singleton]
      exact small (by omega)
    · rw [List.take_succ_cons] at zz
      cases zz
    · rw [zz, List.append_nil] at whole
      exact q _ _ (s15.trans s6) (shut s36 (g4.trans (congrArg (fun z => some (HO.tup z)) whole)))
    · have s7 := same_new n6 (.tup (((nv t.sym :: ys).take (k + 1) ++ [r]) ++ cutV (nv t.sym :: ys) (some ((k : Int) + 1 + 1)) none))
      exact q _ _ ((s15.trans s6).trans s7) (shut (s36.trans s7) (by rw [upd_same, whole]))
theorem ok_put (D : Df K mg "put_at" sPut ["tree", "place", "part"]) (T : Bt mg) : ∀ n : Nat, Dfn P w K mg base CX0 n "put_at" ["tree", "place", "part"] (spPut n)
  | 0 => D.never fun vs H Q E h => by
    obtain ⟨t, y, a, p, v, u, x, _, _, _, _, _, h0, _⟩ := h
    omega
  | n + 1 => ok_put1 D T (ok_put D T n)
end
end Gf
namespace Gf
open PySem PySem.Spec PyProof.Rows L2
theorem TrAt.some {H : Hp} {t : Tr} {v : V} (h : TrAt H t v) : decide (v = V.non) = false := by
  obtain ⟨p, xs, rfl, _⟩ := h.open
  exact decide_eq_false fun z => by cases z
section
variable {P : Program} {w : World} {K : PySem.W.Frag} {mg : Str → Option Value} {base : Heap}
/-! ### graft_of -/
abbrev sGrO : Stmt := topS 16
theorem scGrO : FnScope ["first", "second", "place", "part"] ["first", "second", "place"] (defScope sGrO) := ⟨rfl, rfl, rfl, by decide +kernel, rfl, by decide +kernel, by decide +kernel⟩
def spGrO (n : Nat) : Sp := fun vs H Q _ => ∃ (t s a b : Tr) (p : List Nat) (v w u : V), vs = [v, w, u] ∧ TrAt H t v ∧ TrAt H s w ∧ PlAt H p u ∧ part t p = some a ∧ part s p = some b ∧ p.length < n ∧ t.size ≤ 500 ∧ ∀ H' r, Same H H' → TrAt H' (put t p b) r → Q r H'
theorem ok_grO {n : Nat} (D : Df K mg "graft_of" sGrO ["first", "second", "place"]) (T : Bt mg) (Dp : Dfn P w K mg base CX0 1 "part_at" ["tree", "place"] spPart) (Du : Dfn P w K mg base CX0 (n + 1) "put_at" ["tree", "place", "part"] (spPut (n + 1))) :
    Dfn P w K mg base CX0 (n + 2) "graft_of" ["first", "second", "place"] (spGrO (n + 1)) := D.dfn fun f fd F => by
  have sc := scGrO
  refine F.ok sc (fun vs H Q E h => ?_) (fun cdv A outer s H vs Q E hr h => ?_)
  · obtain ⟨t, s, a, b, p, v, w, u, rfl, _⟩ := h
    rfl
  obtain ⟨t, s, a, b, p, v, w, u, rfl, ht, hs, hu, ha, hb, hn, hz, q⟩ := h
  have hr1 := hr.mono (show 1 ≤ n + 1 by omega)
  refine ⟨_, (pss_cons (ps_set (i := 3) sc.nd rfl (Or.inl rfl) (pe_cl Dp hr1 (pa_cons (pv 1) (pa_cons (pv 2) pa_nil)))) (pss_cons (ps_if (PW.pt (pw_or (pt_cmpR op_isN (pv 3) pe_non (nomark _)) (pw_or1 (pt_cmpR op_isN (pe_cl Dp hr1 (pa_cons (pv 0) (pa_cons (pv 2) pa_nil))) pe_non (nomark _))))) (pss_one (ps_ret pe_non)) pss_nil) (pss_one (ps_ret (pe_cl Du hr (pa_cons (pv 0) (pa_cons (pv 2) (pa_cons (pv 3) pa_nil)))))))), ?_⟩
  refine ⟨_, rfl, _, rfl, s, p, _, _, rfl, hs, hu, fun c x hc hx => ?_, fun z => ?_⟩
  · rw [hb] at hc
    cases hc
    refine ⟨_, rfl, rfl, _, rfl, ifF hx.some ?_⟩
    refine ⟨_, rfl, _, rfl, t, p, _, _, rfl, ht, hu, fun d y hd hy => ?_, fun z => ?_⟩
    · refine ⟨rfl, _, rfl, ifF hy.some ?_⟩
      exact ⟨_, rfl, _, rfl, _, rfl, t, b, a, p, _, _, _, rfl, ht, hu, hx, ha, hn, hz, q⟩
    · rw [ha] at z
      cases z
  · rw [hb] at z
    cases z
/-! ### same_to, by levels -/
abbrev sSame : Stmt := topS 17
theorem scSame : FnScope ["first", "second", "depth", "at", "child"] ["first", "second", "depth"] (defScope sSame) := ⟨rfl, rfl, rfl, by decide +kernel, rfl, by decide +kernel, by decide +kernel⟩
def spSame (n : Nat) : Sp := fun vs H Q _ => ∃ (t s : Tr) (k : Nat) (ar : List Nat) (v w : V), vs = [v, w, nv k] ∧ TrAt H t v ∧ TrAt H s w ∧ WF ar t ∧ WF ar s ∧ k < n ∧ t.size ≤ 500 ∧ ∀ H', Same H H' → Q (.bl (same k t s)) H'
theorem ok_same1 {n : Nat} (D : Df K mg "same_to" sSame ["first", "second", "depth"]) (T : Bt mg) (Dn : Dfn P w K mg base CX0 n "same_to" ["first", "second", "depth"] (spSame n)) : Dfn P w K mg base CX0 (n + 1) "same_to" ["first", "second", "depth"] (spSame (n + 1)) := D.dfn fun f fd F => by
  have sc := scSame
  refine F.ok sc (fun vs H Q E h => ?_) (fun cdv A outer s H vs Q E hr h => ?_)
  · obtain ⟨t, s, k, ar, v, w, rfl, _⟩ := h
    rfl
  obtain ⟨t, s, k, ar, v, w, rfl, ht, hs, wt, ws, hn, hz, q⟩ := h
  obtain ⟨pt, ys, rfl, hp, hk⟩ := ht.kids
  obtain ⟨ps, zs, rfl, hps, hks⟩ := hs.kids
  refine ⟨_, (pss_cons (ps_if (pt_cmpR op_eq (pv 2) pe_int (nomark _)) (pss_one (ps_ret pe_bl)) pss_nil) (pss_cons (ps_if (pt_cmpR op_ne (pe_ix (r := rIxT K) ix_tup (pv 0) pe_int (fun _ _ => rfl)) (pe_ix (r := rIxT K) ix_tup (pv 1) pe_int (fun _ _ => rfl)) (nomark _)) (pss_one (ps_ret pe_bl)) pss_nil) (pss_one (ps_ret (pe_callB (cr_all rfl) (by rfl) T.all boot_all1 (pa_cons (pe_lc (own := [("at", 3), ("child", 4)]) (g := gTup K 2 (gCons (gName 3) (gCons (gName 4) gNil))) (tt := tYes) rfl sc.nd (pi_enum_tuple T.enum (pa_cons (pe_slice (r := rSlA K) sl_tupA (pv 0) (po_some pe_int) po_none) pa_nil)) (blkOk_by (N := ["first", "second", "depth", "at", "child"]) (sc := defScope sSame) (by decide +kernel))
      (fun _ _ _ _ _ => pg_tup rfl (pgs_cons (pg_name (i := 3) sc.nd rfl (Or.inl rfl)) (pgs_cons (pg_name (i := 4) sc.nd rfl (Or.inl rfl)) pgs_nil))) (fun _ _ _ _ _ => pts_nil) (fun _ _ _ _ _ => (pe_cl Dn hr (pa_cons (pv 4) (pa_cons (pe_ix (r := rIxT K) ix_tup (pv 1) (pe_op op_add (pv 3) pe_int) (fun _ _ => rfl)) (pa_cons (pe_op op_sub (pv 2) pe_int) pa_nil)))))) pa_nil)))))), ?_⟩
  refine ⟨_, rfl, rfl, _, rfl, ite2 (fun z => ?_) (fun z => ?_)⟩
  · have z' : ((k : Nat) : Int) = 0 := V.int.inj (of_decide_eq_true z)
    have e : k = 0 := by omega
    subst e
    exact q H (Same.refl _)
  obtain ⟨j, rfl⟩ : ∃ j, k = j + 1 := by
    cases k with
    | zero => exact absurd (decide_eq_true rfl) z
    | succ j => exact ⟨j, rfl⟩
  refine ⟨_, rfl, pt, _, _, _, rfl, rfl, SqT.of hp, atI_nat (j := 0) rfl, _, rfl, ps, _, _, _, rfl, rfl, SqT.of hps, atI_nat (j := 0) rfl, rfl, _, rfl, ite2 (fun c => ?_) (fun c => ?_)⟩
  · have ne : ¬ t.sym = s.sym := fun e => by
      rw [e] at c
      simp at c
    have qq := q H (Same.refl _)
    rw [same_succ, decide_eq_false ne, Bool.false_and] at qq
    exact qq
  have es : t.sym = s.sym := by
    by_cases e : t.sym = s.sym
    · exact e
    · refine absurd ?_ c
      have : ¬ nv t.sym = nv s.sym := fun h => by
        have := V.int.inj h
        omega
      rw [decide_eq_false this]
      rfl
  have lens : t.kids.length = s.kids.length := by
    have a1 := wt.at
    have a2 := ws.at
    rw [es, a2] at a1
    exact (Option.some.inj a1).symm
  refine ⟨_, rfl, 1, rfl, pt, _, rfl, SqT.of hp, fun zz => absurd zz (not_whole1 _ _), fun _ c1 n1 => ?_⟩
  have s1 := same_new n1 (.tup (cutV (nv t.sym :: ys) (some 1) none))
  have g1 : upd H c1 (.tup (cutV (nv t.sym :: ys) (some 1) none)) c1 = some (.tup ys) := by
    rw [upd_same, cut_from1]
    rfl
  refine ⟨c1, ys, rfl, SqT.of g1, fun L nL => lc_enum_tuple (K := K) (a := c1) (xs := ys) (fun i H' => Same (upd H c1 (.tup (cutV (nv t.sym :: ys) (some 1) none))) H' ∧ H' L = some (.lst ((((t.kids.zip s.kids).take i).map fun q => same j q.1 q.2).map V.bl))) ⟨same_new nL _, upd_same⟩ (fun i H' _ h => SqT.of (h.1 _ _ g1)) ?_ ?_⟩
  · rintro i x H' p hx ⟨sm, hL⟩ np
    obtain ⟨c, hc, hcx⟩ := kid_at hk hx
    have hil : i < s.kids.length := by
      rw [← lens]
      exact (List.getElem?_eq_some_iff.mp hc).1
    obtain ⟨d, hd⟩ : ∃ d, s.kids[i]? = some d := ⟨_, List.getElem?_eq_getElem hil⟩
    obtain ⟨y, hy, hdy⟩ := val_at hks hd
    have s2 := same_new np (.tup [.int (i : Nat), x])
    have s12 := s1.trans (sm.trans s2)
    refine ⟨p, _, rfl, SqT.of upd_same, rfl, _, _, rfl, _, _, rfl, rfl, rfl, _, rfl, _, rfl, _, rfl, (i : Int), 1, rfl, rfl, ps, _, _, y, rfl, rfl, SqT.of (s12 _ _ hps), at_of (j := i + 1) (by omega) (by rw [List.getElem?_cons_succ]; exact hy), _, rfl, _, 1, rfl, rfl, c, d, j, ar, _, _, ?_, hcx.same s12, hdy.same s12, wt.kid hc, ws.kid hd, by omega, by have := kid_lt hc; omega, fun H2 s3 => ⟨_, s3 _ _ (s2 _ _ hL), ?_, same_grown nL (sm.trans (s2.trans s3)) _, ?_⟩⟩
    · have e : (((j + 1 : Nat) : Int) - 1) = ((j : Nat) : Int) := by omega
      show [x, y, V.int (((j + 1 : Nat) : Int) - 1)] = [x, y, V.int ((j : Nat) : Int)]
      rw [e]
    · have h1 := sizes_len t.kids
      have h2 := size_eq t
      rw [List.length_map, List.length_map, List.length_take, List.length_zip]
      exact small1000 (by omega)
    · rw [upd_same, map_take_more _ (zip_get hc hd), List.map_append]
      rfl
  · rintro H' ⟨sm, hL⟩
    have el : ys.length = (t.kids.zip s.kids).length := by
      rw [List.length_zip, hk.1]
      omega
    rw [el, List.take_length] at hL
    refine ⟨L, _, rfl, SqL.of hL, ?_⟩
    have qq := q H' (s1.trans sm)
    rw [same_succ, decide_eq_true es, Bool.true_and] at qq
    rw [List.all_map]
    exact qq
theorem ok_same (D : Df K mg "same_to" sSame ["first", "second", "depth"]) (T : Bt mg) : ∀ n : Nat, Dfn P w K mg base CX0 n "same_to" ["first", "second", "depth"] (spSame n)
  | 0 => D.never fun vs H Q E h => by
    obtain ⟨t, s, k, ar, v, w, _, _, _, _, _, h0, _⟩ := h
    omega
  | n + 1 => ok_same1 D T (ok_same D T n)
/-! ### same_along -/
abbrev sAlong : Stmt := topS 18
theorem scAlong : FnScope ["first", "second", "place", "depth", "at"] ["first", "second", "place", "depth"] (defScope sAlong) := ⟨rfl, rfl, rfl, by decide +kernel, rfl, by decide +kernel, by decide +kernel⟩
def spAlong (n : Nat) : Sp := fun vs H Q _ => ∃ (t s a b : Tr) (p : List Nat) (k : Nat) (ar : List Nat) (v w u : V), vs = [v, w, u, nv k] ∧ TrAt H t v ∧ TrAt H s w ∧ PlAt H p u ∧ WF ar t ∧ WF ar s ∧ part t p = some a ∧ part s p = some b ∧ k < n ∧ t.size ≤ 500 ∧ ∀ H', Same H H' → Q (.bl (sameAlong t s p k)) H'
theorem ok_along {n : Nat} (D : Df K mg "same_along" sAlong ["first", "second", "place", "depth"]) (T : Bt mg) (Dp : Dfn P w K mg base CX0 1 "part_at" ["tree", "place"] spPart) (Ds : Dfn P w K mg base CX0 (n + 1) "same_to" ["first", "second", "depth"] (spSame (n + 1))) :
    Dfn P w K mg base CX0 (n + 2) "same_along" ["first", "second", "place", "depth"] (spAlong (n + 1)) := D.dfn fun f fd F => by
  have sc := scAlong
  refine F.ok sc (fun vs H Q E h => ?_) (fun cdv A outer s H vs Q E hr h => ?_)
  · obtain ⟨t, s, a, b, p, k, ar, v, w, u, rfl, _⟩ := h
    rfl
  obtain ⟨t, s, a, b, p, k, ar, v, w, u, rfl, ht, hs, ⟨pl, rfl, hu⟩, wt, ws, ha, hb, hn, hz, q⟩ := h
  have hr1 := hr.mono (show 1 ≤ n + 1 by omega)
  have pl1 := part_len ha
  refine ⟨_, (pss_one (ps_ret (pe_callB (cr_all rfl) (by rfl) T.all boot_all1 (pa_cons (pe_lc (own := [("at", 4)]) (g := gName 4) (tt := tYes) rfl sc.nd (pi_range1 rfl T.range (pa_cons (pe_callB call_len_seq (by rfl) T.len PySem.boot_len (pa_cons (pv 2) pa_nil)) pa_nil)) (blkOk_by (N := ["first", "second", "place", "depth", "at"]) (sc := defScope sAlong) (by decide +kernel)) (fun _ _ _ _ _ => pg_name (i := 4) sc.nd rfl (Or.inl rfl)) (fun _ _ _ _ _ => pts_nil)
    (fun _ _ _ _ _ => (pe_cl Ds hr (pa_cons (pe_cl Dp hr1 (pa_cons (pv 0) (pa_cons (pe_slice (r := rSlA K) sl_tupA (pv 2) po_none (po_some (pv 4))) pa_nil))) (pa_cons (pe_cl Dp hr1 (pa_cons (pv 1) (pa_cons (pe_slice (r := rSlA K) sl_tupA (pv 2) po_none (po_some (pv 4))) pa_nil))) (pa_cons (pv 3) pa_nil)))))) pa_nil)))), ?_⟩
  have hpl : (p.map nv).length = p.length := List.length_map _
  refine ⟨_, rfl, pl, _, rfl, .inr (SqT.of hu), ((p.length : Nat) : Int), ?_, by omega, by omega, fun L nL => lc_range (lo := 0) (n := p.length) (fun i H' => Same H H' ∧ H' L = some (.lst ((((List.range p.length).take i).map fun i => sameAt t s p k i).map V.bl))) ⟨same_new nL _, upd_same⟩ ?_ ?_⟩
  · rw [hpl]
  · rintro i H' hi ⟨sm, hL⟩
    obtain ⟨a1, ha1, _⟩ := part_take i ha
    obtain ⟨b1, hb1, _⟩ := part_take i hb
    have ez : ((0 : Int) + (i : Int)) = ((i : Nat) : Int) := by omega
    have nw : ¬ (HT.sIx (p.map nv).length 0 none = 0 ∧ HT.sIx (p.map nv).length (p.map nv).length (some ((0 : Int) + (i : Int))) = (p.map nv).length) := by
      rw [ez]
      exact not_whole_to (by omega)
    have ec : cutV (p.map nv) none (some ((0 : Int) + (i : Int))) = (p.take i).map nv := by rw [ez, cut_to, List.map_take]
    refine ⟨rfl, _, rfl, _, rfl, _, rfl, (0 : Int) + (i : Int), rfl, pl, _, rfl, SqT.of (sm _ _ hu), fun zz => absurd zz nw, fun _ c1 n1 => ?_⟩
    have s1 := same_new n1 (.tup (cutV (p.map nv) none (some ((0 : Int) + (i : Int)))))
    refine ⟨t, p.take i, _, _, rfl, ht.same (sm.trans s1), ⟨c1, rfl, by rw [upd_same, ec]⟩, fun c x hc hx => ?_, fun z => ?_⟩
    · rw [ha1] at hc
      cases hc
      refine ⟨_, rfl, _, rfl, _, rfl, (0 : Int) + (i : Int), rfl, pl, _, rfl, SqT.of (s1 _ _ (sm _ _ hu)), fun zz => absurd zz nw, fun _ c2 n2 => ?_⟩
      have s2 := same_new n2 (.tup (cutV (p.map nv) none (some ((0 : Int) + (i : Int)))))
      refine ⟨s, p.take i, _, _, rfl, hs.same (sm.trans (s1.trans s2)), ⟨c2, rfl, by rw [upd_same, ec]⟩, fun d y hd hy => ?_, fun z => ?_⟩
      · rw [hb1] at hd
        cases hd
        have lt1 := part_len ha1
        refine ⟨_, rfl, a1, b1, k, ar, _, _, rfl, hx.same s2, hy, wt.part ha1, ws.part hb1, hn, by omega, fun H2 s3 => ⟨_, s3 _ _ (s2 _ _ (s1 _ _ hL)), ?_, same_grown nL (sm.trans (s1.trans (s2.trans s3))) _, ?_⟩⟩
        · rw [List.length_map, List.length_map, List.length_take, List.length_range]
          exact small1000 (by omega)
        · have hri : (List.range p.length)[i]? = some i := List.getElem?_range hi
          rw [upd_same, map_take_more _ hri, List.map_append]
          show _ = some (HO.lst (_ ++ [V.bl (sameAt t s p k i)]))
          rw [sameAt_eq k ha1 hb1]
      · rw [hb1] at z
        cases z
    · rw [ha1] at z
      cases z
  · rintro H' ⟨sm, hL⟩
    refine ⟨L, _, rfl, SqL.of hL, ?_⟩
    have e : (List.range p.length).take p.length = List.range p.length := List.take_of_length_le (by rw [List.length_range]; exact Nat.le_refl _)
    rw [e, List.all_map]
    exact q H' sm
end
end Gf
namespace Gf
open PySem PySem.Spec PyProof.Rows L2
/-! ### an own error with one field -/
/-- what the written part says of the class x at C, whose __init__ (at fI) stores fld -/
structure ExT (K : PySem.W.Frag) (mg : Str → Option Value) (x fld qual : Str) (st : Stmt) (C fI : Addr) : Prop where
  g : mg x = some (.ref C)
  o : OexC K C
  f : XfC K C
  noF : PySem.W.findIn K (.ref C) fld = some none
  te : PySem.W.exmOne K (.ref C) (.ref C) = some true
  iC : PySem.W.findIn K (.ref C) "__init__" = some (some (.ref fI))
  tI : PySem.W.typeIn K (.ref fI) = some (.type "function")
  fn : ∃ fd : FuncData, Fun K "__init__" qual st fI fd ∧ Binds K fd ["self", fld] []
def spInit (C : Addr) (fld : Str) : Sp := fun vs H Q _ => ∃ (a : Addr) (y : V), vs = [.ref a, y] ∧ H a = some (exo a C none) ∧ ∀ dx, H dx = none → dx ≠ a → Q .non (upd (upd H dx (exd dx [(fld, y)])) a (exo a C (some dx)))
theorem made_read {C : Addr} {fld : Str} {z : Str} {σ : L2.St} {H : Hp} {Q : XK} (q : ∀ d H', Same H H' → H' d = some (.xd [(fld, .str z)]) → Q (.ref C) (some d) H') : tMkO C (spInit C fld) [] (tCons (tC (.str z)) tNil) σ H Q := by
  refine ⟨by show 1 ≤ 1000; omega, fun a na => ⟨a, .str z, rfl, upd_same, fun dx nd ne => ⟨rfl, dx, [(fld, .str z)], upd_same, by rw [upd_ne ne, upd_same], ?_, q dx _ (fun b o e => ?_) upd_same⟩⟩⟩
  · rw [upd_ne ne] at nd
    exact nd
  · rw [upd_ne ne] at nd
    have n1 : b ≠ dx := ne_of_none e nd
    have n2 : b ≠ a := ne_of_none e na
    rw [upd_ne n1, del_ne n2, upd_ne n2, upd_ne n1, upd_ne n2]
    exact e
abbrev sIn1 : Stmt := inClass (topS 3) 0
abbrev sIn2 : Stmt := inClass (topS 4) 0
theorem scIn1 : FnScope ["self", "what"] ["self", "what"] (defScope sIn1) := ⟨rfl, rfl, rfl, by decide +kernel, rfl, by decide +kernel, by decide +kernel⟩
theorem scIn2 : FnScope ["self", "why"] ["self", "why"] (defScope sIn2) := ⟨rfl, rfl, rfl, by decide +kernel, rfl, by decide +kernel, by decide +kernel⟩
section
variable {P : Program} {w : World} {K : PySem.W.Frag} {mg : Str → Option Value} {base : Heap} {C fI : Addr}
theorem ok_in1 (T : ExT K mg "TooLarge" "what" "TooLarge.__init__" sIn1 C fI) : ∃ fd : FuncData, FnOk P w K mg base CX0 1 fI fd ["self", "what"] (spInit C "what") ∧ Binds K fd ["self", "what"] [] := by
  obtain ⟨fd, F, b⟩ := T.fn
  have sc := scIn1
  refine ⟨fd, F.ok sc (fun vs H Q E h => ?_) (fun cdv A outer s H vs Q E hr h => ?_), b⟩
  · obtain ⟨a, y, rfl, _⟩ := h
    rfl
  obtain ⟨a, y, rfl, ha, q⟩ := h
  exact ⟨_, (pss_one (ps_ost (pv 0) (pv 1))), _, rfl, _, rfl, a, C, rfl, T.o, T.noF, .inl ⟨ha, fun dx nd ne => q dx nd ne⟩⟩
theorem ok_in2 (T : ExT K mg "NotPossible" "why" "NotPossible.__init__" sIn2 C fI) : ∃ fd : FuncData, FnOk P w K mg base CX0 1 fI fd ["self", "why"] (spInit C "why") ∧ Binds K fd ["self", "why"] [] := by
  obtain ⟨fd, F, b⟩ := T.fn
  have sc := scIn2
  refine ⟨fd, F.ok sc (fun vs H Q E h => ?_) (fun cdv A outer s H vs Q E hr h => ?_), b⟩
  · obtain ⟨a, y, rfl, _⟩ := h
    rfl
  obtain ⟨a, y, rfl, ha, q⟩ := h
  exact ⟨_, (pss_one (ps_ost (pv 0) (pv 1))), _, rfl, _, rfl, a, C, rfl, T.o, T.noF, .inl ⟨ha, fun dx nd ne => q dx nd ne⟩⟩
/-! ### the checks -/
abbrev sCkAr : Stmt := topS 19
abbrev sCkTr : Stmt := topS 20
abbrev sCkPl : Stmt := topS 21
abbrev sCkTwo : Stmt := topS 22
abbrev sCkD : Stmt := topS 23
theorem scCkAr : FnScope ["arities"] ["arities"] (defScope sCkAr) := ⟨rfl, rfl, rfl, by decide +kernel, rfl, by decide +kernel, by decide +kernel⟩
theorem scCkTr : FnScope ["arities", "tree", "name"] ["arities", "tree", "name"] (defScope sCkTr) := ⟨rfl, rfl, rfl, by decide +kernel, rfl, by decide +kernel, by decide +kernel⟩
theorem scCkPl : FnScope ["place"] ["place"] (defScope sCkPl) := ⟨rfl, rfl, rfl, by decide +kernel, rfl, by decide +kernel, by decide +kernel⟩
theorem scCkTwo : FnScope ["arities", "first", "second"] ["arities", "first", "second"] (defScope sCkTwo) := ⟨rfl, rfl, rfl, by decide +kernel, rfl, by decide +kernel, by decide +kernel⟩
theorem scCkD : FnScope ["depth"] ["depth"] (defScope sCkD) := ⟨rfl, rfl, rfl, by decide +kernel, rfl, by decide +kernel, by decide +kernel⟩
def spCkAr : Sp := fun vs H Q _ => ∃ (ar : List Nat) (v : V), vs = [v] ∧ PlAt H ar v ∧ ArOk ar ∧ ∀ H', Same H H' → Q .non H'
def spCkTr : Sp := fun vs H Q _ => ∃ (ar : List Nat) (t : Tr) (u v x : V), vs = [u, v, x] ∧ PlAt H ar u ∧ ArOk ar ∧ TrAt H t v ∧ WF ar t ∧ t.size ≤ 15 ∧ ∀ H', Same H H' → Q .non H'
def spCkPl : Sp := fun vs H Q _ => ∃ (p : List Nat) (v : V), vs = [v] ∧ PlAt H p v ∧ PlOk p ∧ ∀ H', Same H H' → Q .non H'
def spCkTwo : Sp := fun vs H Q _ => ∃ (ar : List Nat) (t s : Tr) (u v w : V), vs = [u, v, w] ∧ PlAt H ar u ∧ ArOk ar ∧ TrAt H t v ∧ WF ar t ∧ t.size ≤ 15 ∧ TrAt H s w ∧ WF ar s ∧ s.size ≤ 15 ∧ ∀ H', Same H H' → Q .non H'
def spCkD : Sp := fun vs H Q _ => ∃ k : Nat, vs = [nv k] ∧ k ≤ 15 ∧ Q .non H
theorem ok_ckAr (D : Df K mg "check_arities" sCkAr ["arities"]) (Da : Dfn P w K mg base CX0 2 "is_arities" ["value"] spAr) : Dfn P w K mg base CX0 3 "check_arities" ["arities"] spCkAr := D.dfn fun f fd F => by
  have sc := scCkAr
  refine F.ok sc (fun vs H Q E h => ?_) (fun cdv A outer s H vs Q E hr h => ?_)
  · obtain ⟨ar, v, rfl, _⟩ := h
    rfl
  obtain ⟨ar, v, rfl, hv, ok, q⟩ := h
  exact ⟨_, (pss_one (ps_if (pt_not (pt_val (pe_cl Da hr (pa_cons (pv 0) pa_nil)))) (pss_one ps_never) pss_nil)), _, rfl, ar, v, rfl, hv, ok, fun H' s1 => ⟨true, rfl, iteF (q H' s1)⟩⟩
theorem ok_ckTr (D : Df K mg "check_tree" sCkTr ["arities", "tree", "name"]) (Da : Dfn P w K mg base CX0 2 "is_tree" ["arities", "value"] spTr) : Dfn P w K mg base CX0 3 "check_tree" ["arities", "tree", "name"] spCkTr := D.dfn fun f fd F => by
  have sc := scCkTr
  refine F.ok sc (fun vs H Q E h => ?_) (fun cdv A outer s H vs Q E hr h => ?_)
  · obtain ⟨ar, t, u, v, x, rfl, _⟩ := h
    rfl
  obtain ⟨ar, t, u, v, x, rfl, hu, ok, ht, wt, hz, q⟩ := h
  exact ⟨_, (pss_one (ps_if (pt_not (pt_val (pe_cl Da hr (pa_cons (pv 0) (pa_cons (pv 1) pa_nil))))) (pss_one ps_never) pss_nil)), _, rfl, _, rfl, ar, t, u, v, rfl, hu, ok.few, ht, wt, hz, fun H' s1 => ⟨true, rfl, iteF (q H' s1)⟩⟩
theorem ok_ckPl (D : Df K mg "check_place" sCkPl ["place"]) (Da : Dfn P w K mg base CX0 2 "is_place" ["value"] spPl) : Dfn P w K mg base CX0 3 "check_place" ["place"] spCkPl := D.dfn fun f fd F => by
  have sc := scCkPl
  refine F.ok sc (fun vs H Q E h => ?_) (fun cdv A outer s H vs Q E hr h => ?_)
  · obtain ⟨p, v, rfl, _⟩ := h
    rfl
  obtain ⟨p, v, rfl, hv, ok, q⟩ := h
  exact ⟨_, (pss_one (ps_if (pt_not (pt_val (pe_cl Da hr (pa_cons (pv 0) pa_nil)))) (pss_one ps_never) pss_nil)), _, rfl, p, v, rfl, hv, ok, fun H' s1 => ⟨true, rfl, iteF (q H' s1)⟩⟩
theorem ok_ckD (D : Df K mg "check_depth" sCkD ["depth"]) (T : Bt mg) (Dn : Dfn P w K mg base CX0 1 "is_number" ["value", "low", "high"] spNum) : Dfn P w K mg base CX0 2 "check_depth" ["depth"] spCkD := D.dfn fun f fd F => by
  have sc := scCkD
  obtain ⟨t15, g15⟩ := T.c15
  refine F.ok sc (fun vs H Q E h => ?_) (fun cdv A outer s H vs Q E hr h => ?_)
  · obtain ⟨k, rfl, _⟩ := h
    rfl
  obtain ⟨k, rfl, hk, q⟩ := h
  refine ⟨_, (pss_one (ps_if (pt_not (pt_val (pe_cl Dn hr (pa_cons (pv 0) (pa_cons pe_int (pa_cons (pe_glob (v := .int 15) (by rfl) g15 ⟨_, rfl⟩) pa_nil)))))) (pss_one ps_never) pss_nil)), _, rfl, _, _, _, rfl, _, rfl, ifF ?_ q⟩
  rw [decide_eq_true (show (0 : Int) ≤ ((k : Nat) : Int) by omega), decide_eq_true (show ((k : Nat) : Int) ≤ 15 by omega)]
  rfl
theorem ok_ckTwo (D : Df K mg "check_two" sCkTwo ["arities", "first", "second"]) (Da : Dfn P w K mg base CX0 3 "check_arities" ["arities"] spCkAr) (Dt : Dfn P w K mg base CX0 3 "check_tree" ["arities", "tree", "name"] spCkTr) :
    Dfn P w K mg base CX0 4 "check_two" ["arities", "first", "second"] spCkTwo := D.dfn fun f fd F => by
  have sc := scCkTwo
  refine F.ok sc (fun vs H Q E h => ?_) (fun cdv A outer s H vs Q E hr h => ?_)
  · obtain ⟨ar, t, s, u, v, w, rfl, _⟩ := h
    rfl
  obtain ⟨ar, t, s, u, v, w, rfl, hu, ok, ht, wt, zt, hs, ws, zs, q⟩ := h
  exact ⟨_, (pss_cons (ps_expr (pe_cl Da hr (pa_cons (pv 0) pa_nil))) (pss_cons (ps_expr (pe_cl Dt hr (pa_cons (pv 0) (pa_cons (pv 1) (pa_cons pe_str pa_nil))))) (pss_one (ps_expr (pe_cl Dt hr (pa_cons (pv 0) (pa_cons (pv 2) (pa_cons pe_str pa_nil)))))))), _, rfl, ar, u, rfl, hu, ok, fun H1 s1 => ⟨_, rfl, _, rfl, ar, t, u, v, _, rfl, hu.mono (Tups.of s1), ok, ht.same s1, wt, zt, fun H2 s2 =>
    ⟨_, rfl, _, rfl, ar, s, u, w, _, rfl, hu.mono (Tups.of (s1.trans s2)), ok, hs.same (s1.trans s2), ws, zs, fun H3 s3 => q H3 (s1.trans (s2.trans s3))⟩⟩⟩
/-! ### small, check_both_have -/
abbrev sSmall : Stmt := topS 24
abbrev sBoth : Stmt := topS 27
theorem scSmall : FnScope ["tree"] ["tree"] (defScope sSmall) := ⟨rfl, rfl, rfl, by decide +kernel, rfl, by decide +kernel, by decide +kernel⟩
theorem scBoth : FnScope ["first", "second", "place"] ["first", "second", "place"] (defScope sBoth) := ⟨rfl, rfl, rfl, by decide +kernel, rfl, by decide +kernel, by decide +kernel⟩
def spSmall (C : Addr) (n : Nat) : Sp := fun vs H Q E => ∃ (t : Tr) (v : V), vs = [v] ∧ TrAt H t v ∧ t.size ≤ n ∧ t.size ≤ 1000 ∧ (t.size ≤ 15 → ∀ H', Same H H' → Q v H') ∧ (¬ t.size ≤ 15 → ∀ d H', Same H H' → H' d = some (.xd [("what", .str "tree")]) → E (.ref C) (some d) H')
theorem ok_small {n : Nat} (D : Df K mg "small" sSmall ["tree"]) (T : Bt mg) (X : ExT K mg "TooLarge" "what" "TooLarge.__init__" sIn1 C fI) (Ds : Dfn P w K mg base CX0 (n + 2) "size_of" ["tree"] (spSize (n + 2))) :
    Dfn P w K mg base (L2.CX P w) (n + 3) "small" ["tree"] (spSmall C (n + 2)) := D.dfn fun f fd F => by
  have sc := scSmall
  obtain ⟨t15, g15⟩ := T.c15
  obtain ⟨fdI, FI, bI⟩ := ok_in1 (P := P) (w := w) (base := base) X
  refine F.okX sc (fun vs H Q E h => ?_) (fun cdv A outer s H vs Q E hr h => ?_)
  · obtain ⟨t, v, rfl, _⟩ := h
    rfl
  obtain ⟨t, v, rfl, ht, hn, hz, q1, q2⟩ := h
  refine ⟨_, (pss_cons (ps_if (pt_cmpR op_gt (pe_cl Ds hr (pa_cons (pv 0) pa_nil)) (pe_glob (v := .int 15) (by rfl) g15 ⟨_, rfl⟩) (nomark _)) (pss_one (ps_raise rfl (takes_of rfl rfl rfl rfl) (pmk_oex X.o X.iC X.tI FI (hr.mono (by omega)) bI .nil pass0 rfl X.g (by exact (pa_cons pe_str pa_nil))))) pss_nil) (pss_one (ps_ret (pv 0)))), ?_⟩
  refine ⟨_, rfl, t, v, rfl, ht, hn, hz, fun H1 s1 => ⟨_, _, rfl, rfl, _, rfl, ite2 (fun z => ?_) (fun z => ?_)⟩⟩
  · have z' : (15 : Int) < ((t.size : Nat) : Int) := of_decide_eq_true z
    exact made_read fun d H' sm e => q2 (by omega) d H' (s1.trans sm) e
  · have z' : ¬ ((15 : Int) < ((t.size : Nat) : Int)) := of_decide_eq_false (Bool.eq_false_iff.mpr z)
    exact ⟨_, rfl, q1 (by omega) H1 s1⟩
def spBoth (C : Addr) : Sp := fun vs H Q E => ∃ (t s : Tr) (p : List Nat) (v w u : V), vs = [v, w, u] ∧ TrAt H t v ∧ TrAt H s w ∧ PlAt H p u ∧ PlOk p ∧
  (∀ a b, part t p = some a → part s p = some b → ∀ H', Same H H' → Q .non H') ∧ ((part t p = none ∨ part s p = none) → ∀ d H', Same H H' → H' d = some (.xd [("why", .str "place")]) → E (.ref C) (some d) H')
theorem ok_both (D : Df K mg "check_both_have" sBoth ["first", "second", "place"]) (X : ExT K mg "NotPossible" "why" "NotPossible.__init__" sIn2 C fI) (Dc : Dfn P w K mg base CX0 3 "check_place" ["place"] spCkPl) (Dp : Dfn P w K mg base CX0 1 "part_at" ["tree", "place"] spPart) :
    Dfn P w K mg base (L2.CX P w) 4 "check_both_have" ["first", "second", "place"] (spBoth C) := D.dfn fun f fd F => by
  have sc := scBoth
  obtain ⟨fdI, FI, bI⟩ := ok_in2 (P := P) (w := w) (base := base) X
  refine F.okX sc (fun vs H Q E h => ?_) (fun cdv A outer s H vs Q E hr h => ?_)
  · obtain ⟨t, s, p, v, w, u, rfl, _⟩ := h
    rfl
  obtain ⟨t, s, p, v, w, u, rfl, ht, hs, hu, ok, q1, q2⟩ := h
  have hr1 := hr.mono (show 1 ≤ 3 by omega)
  refine ⟨_, (pss_cons (ps_expr (pe_cl Dc hr (pa_cons (pv 2) pa_nil))) (pss_one (ps_if (PW.pt (pw_or (pt_cmpR op_isN (pe_cl Dp hr1 (pa_cons (pv 0) (pa_cons (pv 2) pa_nil))) pe_non (nomark _)) (pw_or1 (pt_cmpR op_isN (pe_cl Dp hr1 (pa_cons (pv 1) (pa_cons (pv 2) pa_nil))) pe_non (nomark _))))) (pss_one (ps_raise rfl (takes_of rfl rfl rfl rfl) (pmk_oex X.o X.iC X.tI FI (hr.mono (by omega)) bI .nil pass0 rfl X.g (by exact (pa_cons pe_str pa_nil))))) pss_nil))), ?_⟩
  refine ⟨_, rfl, p, u, rfl, hu, ok, fun H1 s1 => ?_⟩
  have hu1 := hu.mono (Tups.of s1)
  refine ⟨_, rfl, _, rfl, t, p, v, u, rfl, ht.same s1, hu1, fun a x ha hx => ?_, fun ha => ?_⟩
  · refine ⟨rfl, _, rfl, ifF hx.some ?_⟩
    refine ⟨_, rfl, _, rfl, s, p, w, u, rfl, hs.same s1, hu1, fun b y hb hy => ?_, fun hb => ?_⟩
    · exact ⟨rfl, _, rfl, ifF hy.some (q1 a b ha hb H1 s1)⟩
    · exact ⟨rfl, _, rfl, ifT (decide_eq_true rfl) (made_read fun d H' sm e => q2 (.inr hb) d H' (s1.trans sm) e)⟩
  · exact ⟨rfl, _, rfl, ifT (decide_eq_true rfl) (made_read fun d H' sm e => q2 (.inl ha) d H' (s1.trans sm) e)⟩
end
end Gf
namespace Gf
open PySem PySem.Spec PyProof.Rows L2
section
variable {P : Program} {w : World} {K : PySem.W.Frag} {mg : Str → Option Value} {base : Heap} {C C1 C2 fI : Addr}
abbrev sPartF : Stmt := topS 25
abbrev sEqTo : Stmt := topS 26
abbrev sEqAl : Stmt := topS 28
abbrev sGraft : Stmt := topS 29
theorem scPartF : FnScope ["arities", "tree", "place"] ["arities", "tree", "place"] (defScope sPartF) := ⟨rfl, rfl, rfl, by decide +kernel, rfl, by decide +kernel, by decide +kernel⟩
theorem scEqTo : FnScope ["arities", "first", "second", "depth"] ["arities", "first", "second", "depth"] (defScope sEqTo) := ⟨rfl, rfl, rfl, by decide +kernel, rfl, by decide +kernel, by decide +kernel⟩
theorem scEqAl : FnScope ["arities", "first", "second", "place", "depth"] ["arities", "first", "second", "place", "depth"] (defScope sEqAl) := ⟨rfl, rfl, rfl, by decide +kernel, rfl, by decide +kernel, by decide +kernel⟩
theorem scGraft : FnScope ["arities", "first", "second", "place"] ["arities", "first", "second", "place"] (defScope sGraft) := ⟨rfl, rfl, rfl, by decide +kernel, rfl, by decide +kernel, by decide +kernel⟩
/-! ### part -/
def spPartF : Sp := fun vs H Q _ => ∃ (ar : List Nat) (t c : Tr) (p : List Nat) (u v y : V), vs = [u, v, y] ∧ PlAt H ar u ∧ ArOk ar ∧ TrAt H t v ∧ WF ar t ∧ t.size ≤ 15 ∧ PlAt H p y ∧ PlOk p ∧ part t p = some c ∧ ∀ x H', Same H H' → TrAt H' c x → Q x H'
theorem ok_partF (D : Df K mg "part" sPartF ["arities", "tree", "place"]) (Da : Dfn P w K mg base CX0 3 "check_arities" ["arities"] spCkAr) (Dt : Dfn P w K mg base CX0 3 "check_tree" ["arities", "tree", "name"] spCkTr) (Dc : Dfn P w K mg base CX0 3 "check_place" ["place"] spCkPl)
    (Dp : Dfn P w K mg base CX0 1 "part_at" ["tree", "place"] spPart) : Dfn P w K mg base CX0 4 "part" ["arities", "tree", "place"] spPartF := D.dfn fun f fd F => by
  have sc := scPartF
  refine F.ok sc (fun vs H Q E h => ?_) (fun cdv A outer s H vs Q E hr h => ?_)
  · obtain ⟨ar, t, c, p, u, v, y, rfl, _⟩ := h
    rfl
  obtain ⟨ar, t, c, p, u, v, y, rfl, hu, ok, ht, wt, zt, hy, okp, hc, q⟩ := h
  have hr1 := hr.mono (show 1 ≤ 3 by omega)
  refine ⟨_, (pss_cons (ps_expr (pe_cl Da hr (pa_cons (pv 0) pa_nil))) (pss_cons (ps_expr (pe_cl Dt hr (pa_cons (pv 0) (pa_cons (pv 1) (pa_cons pe_str pa_nil))))) (pss_cons (ps_expr (pe_cl Dc hr (pa_cons (pv 2) pa_nil))) (pss_one (ps_ret (pe_cl Dp hr1 (pa_cons (pv 1) (pa_cons (pv 2) pa_nil)))))))), ?_⟩
  refine ⟨_, rfl, ar, u, rfl, hu, ok, fun H1 s1 => ⟨_, rfl, _, rfl, ar, t, u, v, _, rfl, hu.mono (Tups.of s1), ok, ht.same s1, wt, zt, fun H2 s2 => ⟨_, rfl, p, y, rfl, hy.mono (Tups.of (s1.trans s2)), okp, fun H3 s3 => ?_⟩⟩⟩
  have s13 := s1.trans (s2.trans s3)
  refine ⟨_, rfl, _, rfl, t, p, v, y, rfl, ht.same s13, hy.mono (Tups.of s13), fun d x hd hx => ?_, fun z => ?_⟩
  · rw [hc] at hd
    cases hd
    exact q x H3 s13 hx
  · rw [hc] at z
    cases z
/-! ### are_equal_to, are_equal_along -/
def spEqTo : Sp := fun vs H Q _ => ∃ (ar : List Nat) (t s : Tr) (k : Nat) (u v w : V), vs = [u, v, w, nv k] ∧ PlAt H ar u ∧ ArOk ar ∧ TrAt H t v ∧ WF ar t ∧ t.size ≤ 15 ∧ TrAt H s w ∧ WF ar s ∧ s.size ≤ 15 ∧ k ≤ 15 ∧ ∀ H', Same H H' → Q (.bl (same k t s)) H'
theorem ok_eqTo (D : Df K mg "are_equal_to" sEqTo ["arities", "first", "second", "depth"]) (Dt : Dfn P w K mg base CX0 4 "check_two" ["arities", "first", "second"] spCkTwo) (Dd : Dfn P w K mg base CX0 2 "check_depth" ["depth"] spCkD)
    (Ds : Dfn P w K mg base CX0 16 "same_to" ["first", "second", "depth"] (spSame 16)) : Dfn P w K mg base CX0 17 "are_equal_to" ["arities", "first", "second", "depth"] spEqTo := D.dfn fun f fd F => by
  have sc := scEqTo
  refine F.ok sc (fun vs H Q E h => ?_) (fun cdv A outer s H vs Q E hr h => ?_)
  · obtain ⟨ar, t, s, k, u, v, w, rfl, _⟩ := h
    rfl
  obtain ⟨ar, t, s, k, u, v, w, rfl, hu, ok, ht, wt, zt, hs, ws, zs, hk, q⟩ := h
  have hr4 := hr.mono (show 4 ≤ 16 by omega)
  have hr2 := hr.mono (show 2 ≤ 16 by omega)
  refine ⟨_, (pss_cons (ps_expr (pe_cl Dt hr4 (pa_cons (pv 0) (pa_cons (pv 1) (pa_cons (pv 2) pa_nil))))) (pss_cons (ps_expr (pe_cl Dd hr2 (pa_cons (pv 3) pa_nil))) (pss_one (ps_ret (pe_cl Ds hr (pa_cons (pv 1) (pa_cons (pv 2) (pa_cons (pv 3) pa_nil)))))))), ?_⟩
  refine ⟨_, rfl, _, rfl, _, rfl, ar, t, s, u, v, w, rfl, hu, ok, ht, wt, zt, hs, ws, zs, fun H1 s1 => ⟨_, rfl, k, rfl, hk, ?_⟩⟩
  exact ⟨_, rfl, _, rfl, _, rfl, t, s, k, ar, v, w, rfl, ht.same s1, hs.same s1, wt, ws, by omega, by omega, fun H2 s2 => q H2 (s1.trans s2)⟩
def spEqAl : Sp := fun vs H Q _ => ∃ (ar : List Nat) (t s a b : Tr) (p : List Nat) (k : Nat) (u v w y : V), vs = [u, v, w, y, nv k] ∧ PlAt H ar u ∧ ArOk ar ∧ TrAt H t v ∧ WF ar t ∧ t.size ≤ 15 ∧ TrAt H s w ∧ WF ar s ∧ s.size ≤ 15 ∧ PlAt H p y ∧ PlOk p ∧ part t p = some a ∧ part s p = some b ∧ k ≤ 15 ∧
  ∀ H', Same H H' → Q (.bl (sameAlong t s p k)) H'
theorem ok_eqAl (D : Df K mg "are_equal_along" sEqAl ["arities", "first", "second", "place", "depth"]) (Dt : Dfn P w K mg base CX0 4 "check_two" ["arities", "first", "second"] spCkTwo) (Dc : Dfn P w K mg base CX0 3 "check_place" ["place"] spCkPl) (Dd : Dfn P w K mg base CX0 2 "check_depth" ["depth"] spCkD)
    (Db : Dfn P w K mg base (L2.CX P w) 4 "check_both_have" ["first", "second", "place"] (spBoth C2)) (Da : Dfn P w K mg base CX0 17 "same_along" ["first", "second", "place", "depth"] (spAlong 16)) :
    Dfn P w K mg base CX0 18 "are_equal_along" ["arities", "first", "second", "place", "depth"] spEqAl := D.dfn fun f fd F => by
  have sc := scEqAl
  refine F.ok sc (fun vs H Q E h => ?_) (fun cdv A outer s H vs Q E hr h => ?_)
  · obtain ⟨ar, t, s, a, b, p, k, u, v, w, y, rfl, _⟩ := h
    rfl
  obtain ⟨ar, t, s, a, b, p, k, u, v, w, y, rfl, hu, ok, ht, wt, zt, hs, ws, zs, hy, okp, ha, hb, hk, q⟩ := h
  have hr4 := hr.mono (show 4 ≤ 17 by omega)
  have hr3 := hr.mono (show 3 ≤ 17 by omega)
  have hr2 := hr.mono (show 2 ≤ 17 by omega)
  refine ⟨_, (pss_cons (ps_expr (pe_cl Dt hr4 (pa_cons (pv 0) (pa_cons (pv 1) (pa_cons (pv 2) pa_nil))))) (pss_cons (ps_expr (pe_cl Dc hr3 (pa_cons (pv 3) pa_nil))) (pss_cons (ps_expr (pe_cl Dd hr2 (pa_cons (pv 4) pa_nil))) (pss_cons (ps_expr (pe_clX Db passL hr4 (pa_cons (pv 1) (pa_cons (pv 2) (pa_cons (pv 3) pa_nil))))) (pss_one (ps_ret (pe_cl Da hr (pa_cons (pv 1) (pa_cons (pv 2) (pa_cons (pv 3) (pa_cons (pv 4) pa_nil))))))))))), ?_⟩
  refine ⟨_, rfl, _, rfl, _, rfl, ar, t, s, u, v, w, rfl, hu, ok, ht, wt, zt, hs, ws, zs, fun H1 s1 => ⟨_, rfl, p, y, rfl, hy.mono (Tups.of s1), okp, fun H2 s2 => ⟨_, rfl, k, rfl, hk, ?_⟩⟩⟩
  have s12 := s1.trans s2
  refine ⟨_, rfl, _, rfl, _, rfl, t, s, p, v, w, y, rfl, ht.same s12, hs.same s12, hy.mono (Tups.of s12), okp, fun a' b' _ _ H3 s3 => ?_, fun z => ?_⟩
  · have s13 := s12.trans s3
    exact ⟨_, rfl, _, rfl, _, rfl, _, rfl, t, s, a, b, p, k, ar, v, w, y, rfl, ht.same s13, hs.same s13, hy.mono (Tups.of s13), wt, ws, ha, hb, by omega, by omega, fun H4 s4 => q H4 (s13.trans s4)⟩
  · rcases z with z | z
    · rw [ha] at z
      cases z
    · rw [hb] at z
      cases z
/-! ### graft -/
def spGraft (C1 C2 : Addr) : Sp := fun vs H Q E => ∃ (ar : List Nat) (t s : Tr) (p : List Nat) (u v w y : V), vs = [u, v, w, y] ∧ PlAt H ar u ∧ ArOk ar ∧ TrAt H t v ∧ WF ar t ∧ t.size ≤ 15 ∧ TrAt H s w ∧ WF ar s ∧ s.size ≤ 15 ∧ PlAt H p y ∧ PlOk p ∧
  (∀ a b, part t p = some a → part s p = some b → (put t p b).size ≤ 15 → ∀ H' r, Same H H' → TrAt H' (put t p b) r → Q r H') ∧
  (∀ a b, part t p = some a → part s p = some b → ¬ (put t p b).size ≤ 15 → ∀ d H', Same H H' → H' d = some (.xd [("what", .str "tree")]) → E (.ref C1) (some d) H') ∧
  ((part t p = none ∨ part s p = none) → ∀ d H', Same H H' → H' d = some (.xd [("why", .str "place")]) → E (.ref C2) (some d) H')
theorem ok_graft (D : Df K mg "graft" sGraft ["arities", "first", "second", "place"]) (Dt : Dfn P w K mg base CX0 4 "check_two" ["arities", "first", "second"] spCkTwo) (Db : Dfn P w K mg base (L2.CX P w) 4 "check_both_have" ["first", "second", "place"] (spBoth C2))
    (Dg : Dfn P w K mg base CX0 17 "graft_of" ["first", "second", "place"] (spGrO 16)) (Ds : Dfn P w K mg base (L2.CX P w) 31 "small" ["tree"] (spSmall C1 30)) : Dfn P w K mg base (L2.CX P w) 32 "graft" ["arities", "first", "second", "place"] (spGraft C1 C2) := D.dfn fun f fd F => by
  have sc := scGraft
  refine F.okX sc (fun vs H Q E h => ?_) (fun cdv A outer s H vs Q E hr h => ?_)
  · obtain ⟨ar, t, s, p, u, v, w, y, rfl, _⟩ := h
    rfl
  obtain ⟨ar, t, s, p, u, v, w, y, rfl, hu, ok, ht, wt, zt, hs, ws, zs, hy, okp, q1, q2, q3⟩ := h
  have hr4 := hr.mono (show 4 ≤ 31 by omega)
  have hr17 := hr.mono (show 17 ≤ 31 by omega)
  refine ⟨_, (pss_cons (ps_expr (pe_cl Dt hr4 (pa_cons (pv 0) (pa_cons (pv 1) (pa_cons (pv 2) pa_nil))))) (pss_cons (ps_expr (pe_clX (E := E) Db (passes_call (takes_of rfl rfl rfl rfl) (fun _ _ _ _ h => h)) hr4 (pa_cons (pv 1) (pa_cons (pv 2) (pa_cons (pv 3) pa_nil))))) (pss_one (ps_ret (pe_clX (E := E) Ds (passes_call (takes_of rfl rfl rfl rfl) (fun _ _ _ _ h => h)) hr (pa_cons (pe_cl Dg hr17 (pa_cons (pv 1) (pa_cons (pv 2) (pa_cons (pv 3) pa_nil)))) pa_nil)))))), ?_⟩
  refine ⟨_, rfl, _, rfl, _, rfl, ar, t, s, u, v, w, rfl, hu, ok, ht, wt, zt, hs, ws, zs, fun H1 s1 => ?_⟩
  refine ⟨_, rfl, _, rfl, _, rfl, t, s, p, v, w, y, rfl, ht.same s1, hs.same s1, hy.mono (Tups.of s1), okp, fun a b ha hb H2 s2 => ?_, fun z d H' sm e => q3 z d H' (s1.trans sm) e⟩
  have s12 := s1.trans s2
  have l1 := part_len ha
  have l2 := part_len hb
  have sz := size_put b ha
  have pa := size_pos a
  refine ⟨_, rfl, _, rfl, _, rfl, t, s, a, b, p, v, w, y, rfl, ht.same s12, hs.same s12, hy.mono (Tups.of s12), ha, hb, by omega, by omega, fun H3 r s3 hr3 => ?_⟩
  have s13 := s12.trans s3
  exact ⟨put t p b, r, rfl, hr3, by omega, by omega, fun z H4 s4 => q1 a b ha hb z H4 r (s13.trans s4) (hr3.same s4), fun z d H4 s4 e => q2 a b ha hb z d H4 (s13.trans s4) e⟩
end
end Gf
namespace Gf
open PySem PySem.Spec PyProof.Rows L2
/-! ### the law's own stream: nothing is asked of its digits but their range -/
def StAt (H : Hp) (st : Addr) : Prop := ∃ (l : Addr) (ns : List Int) (c : Int) (k : Nat), H st = some (.lst [.ref l, .int c, nv k]) ∧ H l = some (.lst (ns.map V.int))
theorem StAt.ne {H : Hp} {st l : Addr} {c : Int} {k : Nat} {ns : List Int} (h : H st = some (.lst [.ref l, .int c, nv k])) (hl : H l = some (.lst (ns.map V.int))) : l ≠ st := fun z => by
  rw [z, h] at hl
  have q : [V.ref l, .int c, nv k] = ns.map V.int := HO.lst.inj (Option.some.inj hl)
  cases ns with
  | nil => cases q
  | cons n r =>
    rw [List.map_cons] at q
    cases (List.cons.inj q).1
theorem StAt.same {H H' : Hp} {st : Addr} (h : StAt H st) (s : Same H H') : StAt H' st := by
  obtain ⟨l, ns, c, k, h1, h2⟩ := h
  exact ⟨l, ns, c, k, s _ _ h1, s _ _ h2⟩
theorem StAt.tups {H H' : Hp} {st : Addr} (h : StAt H st) (s : Keep st H H') : Tups H H' := by
  obtain ⟨l, ns, c, k, h1, h2⟩ := h
  exact s.tups h1
section
variable {P : Program} {w : World} {K : PySem.W.Frag} {mg : Str → Option Value} {base : Heap}
abbrev sStream : Stmt := topS 31
abbrev sNext : Stmt := topS 32
abbrev sIsInt : Stmt := topS 33
abbrev sPick : Stmt := topS 35
abbrev sArs : Stmt := topS 36
theorem scStream : FnScope ["_law_script"] ["_law_script"] (defScope sStream) := ⟨rfl, rfl, rfl, by decide +kernel, rfl, by decide +kernel, by decide +kernel⟩
theorem scNext : FnScope ["_law_stream_here", "_law_many", "_law_k", "_law_cell", "_law_digit"] ["_law_stream_here", "_law_many"] (defScope sNext) := ⟨rfl, rfl, rfl, by decide +kernel, rfl, by decide +kernel, by decide +kernel⟩
theorem scIsInt : FnScope ["_law_actual"] ["_law_actual"] (defScope sIsInt) := ⟨rfl, rfl, rfl, by decide +kernel, rfl, by decide +kernel, by decide +kernel⟩
theorem scPick : FnScope ["_law_stream_here", "_law_rows"] ["_law_stream_here", "_law_rows"] (defScope sPick) := ⟨rfl, rfl, rfl, by decide +kernel, rfl, by decide +kernel, by decide +kernel⟩
theorem scArs : FnScope ["_law_stream_here"] ["_law_stream_here"] (defScope sArs) := ⟨rfl, rfl, rfl, by decide +kernel, rfl, by decide +kernel, by decide +kernel⟩
def spStream (K : PySem.W.Frag) : Sp := fun vs H Q _ => ∃ (a : Addr) (ns : List Int), vs = [.ref a] ∧ SqL K H a (ns.map V.int) ∧ ∀ H' st, Same H H' → StAt H' st → Q (.ref st) H'
theorem ok_stream (D : Df K mg "_law_stream" sStream ["_law_script"]) (T : Bt mg) : Dfn P w K mg base CX0 1 "_law_stream" ["_law_script"] (spStream K) := D.dfn fun f fd F => by
  have sc := scStream
  refine F.ok sc (fun vs H Q E h => ?_) (fun cdv A outer s H vs Q E hr h => ?_)
  · obtain ⟨a, ns, rfl, _⟩ := h
    rfl
  obtain ⟨a, ns, rfl, hS, q⟩ := h
  refine ⟨_, (pss_one (ps_ret (pe_lst (pa_cons (pe_callTy call_list_of (by rfl) T.list boot_list (pa_cons (pv 0) pa_nil)) (pa_cons pe_int (pa_cons pe_int pa_nil)))))), _, rfl, a, _, rfl, .inl hS, fun l nl => ⟨(by show 3 ≤ sizeLine; exact small (by omega)), fun st nst => ?_⟩⟩
  have s1 := same_new nl (.lst (ns.map V.int))
  have s2 := same_new nst (.lst [.ref l, .int 0, .int 0])
  exact q _ st (s1.trans s2) ⟨l, ns, 0, 0, upd_same, s2 _ _ upd_same⟩
def spNext : Sp := fun vs H Q _ => ∃ (st : Addr) (m : Nat), vs = [.ref st, nv m] ∧ StAt H st ∧ 0 < m ∧ m ≤ 1000 ∧ ∀ (d : Nat) H', d < m → Keep st H H' → StAt H' st → Q (nv d) H'
theorem ok_next (D : Df K mg "_law_next" sNext ["_law_stream_here", "_law_many"]) (T : Bt mg) : Dfn P w K mg base CX0 1 "_law_next" ["_law_stream_here", "_law_many"] spNext := D.dfn fun f fd F => by
  have sc := scNext
  refine F.ok sc (fun vs H Q E h => ?_) (fun cdv A outer s H vs Q E hr h => ?_)
  · obtain ⟨st, m, rfl, _⟩ := h
    rfl
  obtain ⟨st, m, rfl, ⟨l, ns, c, k, hst, hl⟩, hm, hm2, q⟩ := h
  have nls := StAt.ne hst hl
  refine ⟨_, (Evl.pss_cut (ps_if (pt_cmpR op_eq (pe_ix (r := rIxL K) ix_list (pv 0) pe_int (fun _ _ => rfl)) pe_int (nomark _)) (pss_cons (ps_set (i := 2) sc.nd rfl (Or.inl rfl) (pe_ix (r := rIxL K) ix_list (pv 0) pe_int (fun _ _ => rfl))) (pss_cons (ps_set (i := 3) sc.nd rfl (Or.inl rfl) (pe_op op_add pe_int (pv 2))) (Evl.pss_cut (ps_if (pt_cmpR op_lt (pv 2) (pe_callB call_len_seq (by rfl) T.len PySem.boot_len (pa_cons (pe_ix (r := rIxL K) ix_list (pv 0) pe_int (fun _ _ => rfl)) pa_nil)) (nomark _)) (pss_one (ps_set (i := 3) sc.nd rfl (Or.inl rfl) (pe_callB call_abs (by rfl) T.abs boot_abs1 (pa_cons (pe_ix (r := rIxL K) ix_list (pe_ix (r := rIxL K) ix_list (pv 0) pe_int (fun _ _ => rfl)) (pv 2) (fun _ _ => rfl)) pa_nil)))) pss_nil) (Evl.pss_cut (ps_if (pt_cmpR op_lt (pv 3) (pe_op op_pow pe_int pe_int) (nomark _)) (pss_cons (ps_set (i := 3) sc.nd rfl (Or.inl rfl) (pe_op op_modN (pe_callTy call_int1 (by rfl) T.int boot_int (pa_cons (pe_op op_add (pe_op op_add (pe_op op_mul (pv 3) pe_int) (pe_op op_mul (pv 2) pe_int)) pe_int) pa_nil)) pe_int)) (pss_one (ps_set (i := 3) sc.nd rfl (Or.inl rfl) (pe_op op_add (pe_op op_mul (pe_op op_modN (pe_callTy call_int1 (by rfl) T.int boot_int (pa_cons (pe_op op_add (pe_op op_mul (pv 3) pe_int) pe_int) pa_nil)) pe_int) pe_int) (pv 3))))) pss_nil) (pss_cons (ps_asg (pv 3) (pg_sub (pv 0) pe_int set_list)) (pss_one (ps_asg (pe_op op_add (pv 2) pe_int) (pg_sub (pv 0) pe_int set_list)))))))) pss_nil) (pss_cons (ps_set (i := 4) sc.nd rfl (Or.inl rfl) (pe_op op_modN (pe_callTy call_int1 (by rfl) T.int boot_int (pa_cons (pe_ix (r := rIxL K) ix_list (pv 0) pe_int (fun _ _ => rfl)) pa_nil)) (pv 1))) (pss_cons (ps_asg (pe_op op_fdivN (pe_ix (r := rIxL K) ix_list (pv 0) pe_int (fun _ _ => rfl)) (pv 1)) (pg_sub (pv 0) pe_int set_list)) (pss_one (ps_ret (pv 4)))))), ?_⟩
  refine ⟨fun σ H1 => Keep st H H1 ∧ (∃ (c : Int) (k : Nat), H1 st = some (.lst [.ref l, .int c, nv k])) ∧ ∃ x y : Option V, σ = [some (.ref st), some (nv m), x, y, none], ?_, ?_⟩
  · have a1 : atI [V.ref l, .int c, nv k] 1 = some (.int c) := atI_nat (j := 1) rfl
    have a2 : atI [V.ref l, .int c, nv k] 2 = some (nv k) := atI_nat (j := 2) rfl
    have a0 : atI [V.ref l, .int c, nv k] 0 = some (.ref l) := atI_nat (j := 0) rfl
    refine ⟨_, rfl, st, _, _, _, rfl, rfl, SqL.of hst, a1, rfl, _, rfl, ite2 (fun _ => ?_) (fun _ => ⟨Keep.refl st H, ⟨c, k, hst⟩, none, none, rfl⟩)⟩
    refine ⟨_, rfl, st, _, _, _, rfl, rfl, SqL.of hst, a2, _, rfl, 7, _, rfl, rfl, ?_⟩
    refine ⟨fun σ H1 => H1 = H ∧ ∃ y : Int, σ = [some (.ref st), some (nv m), some (nv k), some (.int y), none], ?_, ?_⟩
    · refine ⟨_, rfl, _, rfl, st, _, _, _, rfl, rfl, SqL.of hst, a0, l, _, rfl, .inl (SqL.of hl), _, _, rfl, rfl, _, rfl, ite2 (fun z => ?_) (fun _ => ⟨rfl, _, rfl⟩)⟩
      have z' : (k : Int) < (((ns.map V.int).length : Nat) : Int) := of_decide_eq_true z
      rw [List.length_map] at z'
      have hk : k < ns.length := by omega
      refine ⟨_, rfl, st, _, _, _, rfl, rfl, SqL.of hst, a0, _, rfl, l, _, _, .int ns[k], rfl, rfl, SqL.of hl, ?_, _, rfl, rfl, _, rfl⟩
      exact atI_nat (by rw [List.getElem?_map, List.getElem?_eq_getElem hk]; rfl)
    · rintro σ H1 ⟨rfl, y, rfl⟩
      refine ⟨fun σ H2 => H2 = H1 ∧ ∃ y : Int, σ = [some (.ref st), some (nv m), some (nv k), some (.int y), none], ?_, ?_⟩
      · refine ⟨_, rfl, 10, 18, rfl, rfl, ⟨by omega, by omega, by decide⟩, _, _, rfl, rfl, _, rfl, ite2 (fun _ => ?_) (fun _ => ⟨rfl, _, rfl⟩)⟩
        refine ⟨_, rfl, _, _, rfl, rfl, .inr ⟨by decide, by decide⟩, _, rfl, _, _, rfl, rfl, .inr ⟨by decide, by decide⟩, _, _, rfl, rfl, _, _, rfl, rfl, .inl ⟨_, rfl, _, _, rfl, rfl, (by show (2147483647 : Int) ≠ 0; decide), ?_⟩⟩
        refine ⟨_, rfl, _, _, rfl, rfl, .inr ⟨by decide, by decide⟩, _, _, rfl, rfl, .inl ⟨_, rfl, _, _, rfl, rfl, (by show (2147483647 : Int) ≠ 0; decide), _, _, rfl, rfl, .inr ⟨by decide, by decide⟩, _, rfl, _, _, rfl, rfl, rfl, _, rfl⟩⟩
      · rintro σ H2 ⟨rfl, y2, rfl⟩
        refine ⟨_, rfl, _, rfl, st, _, _, 1, rfl, rfl, hst, rfl, ?_⟩
        refine ⟨_, rfl, (k : Int), 1, rfl, rfl, _, rfl, st, _, _, 2, rfl, rfl, upd_same, rfl, ?_⟩
        rw [upd_upd]
        refine ⟨fun b o nb e => ?_, ⟨y2, k + 1, ?_⟩, _, _, rfl⟩
        · rw [upd_ne nb]
          exact e
        · rw [upd_same]
          have e1 : ((k : Int) + 1) = ((k + 1 : Nat) : Int) := by omega
          show some (HO.lst [.ref l, .int y2, .int ((k : Int) + 1)]) = _
          rw [e1]
  · rintro σ H1 ⟨kp, ⟨c1, k1, h1⟩, x, y, rfl⟩
    have hl1 := kp _ _ nls hl
    have b1 : atI [V.ref l, .int c1, nv k1] 1 = some (.int c1) := atI_nat (j := 1) rfl
    have mp : (0 : Int) < ((m : Nat) : Int) := by omega
    have d0 := Int.fmod_nonneg_of_pos c1 mp
    have d1 := Int.fmod_lt_of_pos c1 mp
    refine ⟨_, rfl, st, _, _, _, rfl, rfl, SqL.of h1, b1, .inl ⟨_, rfl, _, rfl, c1, _, rfl, rfl, (by omega), ?_⟩⟩
    refine ⟨_, rfl, st, _, _, _, rfl, rfl, SqL.of h1, b1, _, rfl, c1, _, rfl, rfl, ⟨by omega, by omega⟩, _, rfl, st, _, _, 1, rfl, rfl, h1, rfl, _, rfl, ?_⟩
    have e : ((c1.fmod ((m : Nat) : Int))) = (((c1.fmod ((m : Nat) : Int)).toNat : Nat) : Int) := by omega
    show Q (.int (c1.fmod ((m : Nat) : Int))) _
    rw [e]
    refine q _ _ (by omega) (fun b o nb e => ?_) ⟨l, ns, _, k1, upd_same, ?_⟩
    · rw [upd_ne nb]
      exact kp _ _ nb e
    · rw [upd_ne nls]
      exact hl1
def spIsInt : Sp := fun vs H Q _ => ∃ i : Int, vs = [.int i] ∧ Q (.bl true) H
theorem ok_isInt (D : Df K mg "_law_is_integer" sIsInt ["_law_actual"]) (T : Bt mg) : Dfn P w K mg base CX0 1 "_law_is_integer" ["_law_actual"] spIsInt := D.dfn fun f fd F => by
  have sc := scIsInt
  refine F.ok sc (fun vs H Q E h => ?_) (fun cdv A outer s H vs Q E hr h => ?_)
  · obtain ⟨i, rfl, _⟩ := h
    rfl
  obtain ⟨i, rfl, q⟩ := h
  refine ⟨_, (pss_one (ps_ret (pe_and (pe_callB call_isi (by rfl) T.isi boot_isi (pa_cons (pv 0) (pa_cons (pe_bltn (v := .ty "int") (by rfl) T.int boot_int rfl) pa_nil))) (pe_one (pe_not (pe_callB call_isi (by rfl) T.isi boot_isi (pa_cons (pv 0) (pa_cons (pe_bltn (v := .ty "bool") (by rfl) T.bool boot_bool rfl) pa_nil)))))))), ?_⟩
  refine ⟨_, rfl, _, _, _, _, true, rfl, .ty _, ty_int i, kit_ty kit_int_int, true, rfl, iteT ?_⟩
  exact ⟨_, rfl, _, _, _, _, false, rfl, .ty _, ty_int i, kit_ty kit_int_bool, false, rfl, q⟩
def spPick : Sp := fun vs H Q _ => ∃ (st r : Addr) (xs : List V), vs = [.ref st, .ref r] ∧ StAt H st ∧ H r = some (.lst xs) ∧ r ≠ st ∧ 0 < xs.length ∧ xs.length ≤ 1000 ∧ ∀ (i : Nat) (x : V) H', xs[i]? = some x → Keep st H H' → StAt H' st → Q x H'
theorem ok_pick (D : Df K mg "_law_pick" sPick ["_law_stream_here", "_law_rows"]) (T : Bt mg) (Dn : Dfn P w K mg base CX0 1 "_law_next" ["_law_stream_here", "_law_many"] spNext) : Dfn P w K mg base CX0 2 "_law_pick" ["_law_stream_here", "_law_rows"] spPick := D.dfn fun f fd F => by
  have sc := scPick
  refine F.ok sc (fun vs H Q E h => ?_) (fun cdv A outer s H vs Q E hr h => ?_)
  · obtain ⟨st, r, xs, rfl, _⟩ := h
    rfl
  obtain ⟨st, r, xs, rfl, hst, hr1, ne, h0, h1, q⟩ := h
  refine ⟨_, (pss_one (ps_ret (pe_ix (r := rIxL K) ix_list (pv 1) (pe_cl Dn hr (pa_cons (pv 0) (pa_cons (pe_callB call_len_seq (by rfl) T.len PySem.boot_len (pa_cons (pv 1) pa_nil)) pa_nil))) (fun _ _ => rfl)))), ?_⟩
  refine ⟨_, rfl, _, rfl, _, rfl, r, _, rfl, .inl (SqL.of hr1), st, xs.length, rfl, hst, h0, h1, fun d H' hd kp hst' => ?_⟩
  exact ⟨r, xs, _, _, rfl, rfl, SqL.of (kp _ _ ne hr1), atI_nat (List.getElem?_eq_getElem hd), q d _ H' (List.getElem?_eq_getElem hd) kp hst'⟩
/-- arities of the menu: as the program takes them, with a leaf -/
def arGood (ar : List Nat) : Bool := decide (1 ≤ ar.length) && decide (ar.length ≤ 4) && ar.all (fun k => decide (k ≤ 2)) && ar.contains 0
theorem arGood.ok {ar : List Nat} (h : arGood ar = true) : ArOk ar ∧ 0 ∈ ar := by
  unfold arGood at h
  simp only [Bool.and_eq_true, decide_eq_true_eq, List.all_eq_true, List.contains_iff_mem] at h
  exact ⟨⟨h.1.1.1, h.1.1.2, fun i k e => h.1.2 k (List.mem_of_getElem? e)⟩, h.2⟩
def Row (H : Hp) (v : V) : Prop := ∃ (ar : List Nat) (a : Addr), v = .ref a ∧ H a = some (.tup (ar.map nv)) ∧ arGood ar = true
theorem Row.mono {H H' : Hp} {v : V} (h : Row H v) (s : Tups H H') : Row H' v := by
  obtain ⟨ar, a, e, h1, h2⟩ := h
  exact ⟨ar, a, e, s _ _ h1, h2⟩
def Rows (H : Hp) (vs : List V) : Prop := ∀ v ∈ vs, Row H v
theorem rows_nil {H : Hp} : Rows H [] := fun v h => by simp at h
theorem rows_more {H H' : Hp} {v : V} {vs : List V} (h : Rows H vs) (s : Same H H') (r : Row H' v) : Rows H' (vs ++ [v]) := fun x hx => by
  rcases List.mem_append.mp hx with hx | hx
  · exact (h x hx).mono (Tups.of s)
  · rw [List.mem_singleton.mp hx]
    exact r
def spArs : Sp := fun vs H Q _ => ∃ st : Addr, vs = [.ref st] ∧ StAt H st ∧ ∀ (ar : List Nat) (v : V) H', PlAt H' ar v → ArOk ar → 0 ∈ ar → Keep st H H' → StAt H' st → Q v H'
theorem ok_ars (D : Df K mg "_law_arities" sArs ["_law_stream_here"]) (T : Bt mg) (Dp : Dfn P w K mg base CX0 2 "_law_pick" ["_law_stream_here", "_law_rows"] spPick) : Dfn P w K mg base CX0 3 "_law_arities" ["_law_stream_here"] spArs := D.dfn fun f fd F => by
  have sc := scArs
  refine F.ok sc (fun vs H Q E h => ?_) (fun cdv A outer s H vs Q E hr h => ?_)
  · obtain ⟨st, rfl, _⟩ := h
    rfl
  obtain ⟨st, rfl, hst, q⟩ := h
  refine ⟨_, (pss_one (ps_ret (pe_cl Dp hr (pa_cons (pv 0) (pa_cons (pe_lst (pa_cons (pe_tup (pa_cons pe_int (pa_cons pe_int (pa_cons pe_int pa_nil)))) (pa_cons (pe_tup (pa_cons pe_int (pa_cons pe_int pa_nil))) (pa_cons (pe_tup (pa_cons pe_int (pa_cons pe_int (pa_cons pe_int pa_nil)))) (pa_cons (pe_tup (pa_cons pe_int (pa_cons pe_int (pa_cons pe_int pa_nil)))) (pa_cons (pe_tup (pa_cons pe_int (pa_cons pe_int (pa_cons pe_int (pa_cons pe_int pa_nil))))) (pa_cons (pe_tup (pa_cons pe_int (pa_cons pe_int (pa_cons pe_int (pa_cons pe_int pa_nil))))) (pa_cons (pe_tup (pa_cons pe_int (pa_cons pe_int pa_nil))) (pa_cons (pe_tup (pa_cons pe_int pa_nil)) (pa_cons (pe_tup (pa_cons pe_int (pa_cons pe_int (pa_cons pe_int (pa_cons pe_int pa_nil))))) pa_nil)))))))))) pa_nil))))), ?_⟩
  refine ⟨_, rfl, ?_⟩
  refine ⟨(by show 3 ≤ sizeLine; exact small (by omega)), fun p1 n1 => ?_⟩
  have r1 := rows_more (v := .ref p1) rows_nil (same_new n1 (.tup ([0, 0, 2].map nv))) ⟨[0, 0, 2], p1, rfl, upd_same, by decide⟩
  refine ⟨(by show 2 ≤ sizeLine; exact small (by omega)), fun p2 n2 => ?_⟩
  have r2 := rows_more (v := .ref p2) r1 (same_new n2 (.tup ([0, 2].map nv))) ⟨[0, 2], p2, rfl, upd_same, by decide⟩
  refine ⟨(by show 3 ≤ sizeLine; exact small (by omega)), fun p3 n3 => ?_⟩
  have r3 := rows_more (v := .ref p3) r2 (same_new n3 (.tup ([0, 1, 2].map nv))) ⟨[0, 1, 2], p3, rfl, upd_same, by decide⟩
  refine ⟨(by show 3 ≤ sizeLine; exact small (by omega)), fun p4 n4 => ?_⟩
  have r4 := rows_more (v := .ref p4) r3 (same_new n4 (.tup ([0, 0, 1].map nv))) ⟨[0, 0, 1], p4, rfl, upd_same, by decide⟩
  refine ⟨(by show 4 ≤ sizeLine; exact small (by omega)), fun p5 n5 => ?_⟩
  have r5 := rows_more (v := .ref p5) r4 (same_new n5 (.tup ([2, 0, 1, 0].map nv))) ⟨[2, 0, 1, 0], p5, rfl, upd_same, by decide⟩
  refine ⟨(by show 4 ≤ sizeLine; exact small (by omega)), fun p6 n6 => ?_⟩
  have r6 := rows_more (v := .ref p6) r5 (same_new n6 (.tup ([0, 0, 1, 2].map nv))) ⟨[0, 0, 1, 2], p6, rfl, upd_same, by decide⟩
  refine ⟨(by show 2 ≤ sizeLine; exact small (by omega)), fun p7 n7 => ?_⟩
  have r7 := rows_more (v := .ref p7) r6 (same_new n7 (.tup ([1, 0].map nv))) ⟨[1, 0], p7, rfl, upd_same, by decide⟩
  refine ⟨(by show 1 ≤ sizeLine; exact small (by omega)), fun p8 n8 => ?_⟩
  have r8 := rows_more (v := .ref p8) r7 (same_new n8 (.tup ([0].map nv))) ⟨[0], p8, rfl, upd_same, by decide⟩
  refine ⟨(by show 4 ≤ sizeLine; exact small (by omega)), fun p9 n9 => ?_⟩
  have r9 := rows_more (v := .ref p9) r8 (same_new n9 (.tup ([1, 1, 0, 2].map nv))) ⟨[1, 1, 0, 2], p9, rfl, upd_same, by decide⟩
  refine ⟨(by show 9 ≤ sizeLine; exact small (by omega)), fun r nr => ?_⟩
  have sr := same_new nr (.lst [.ref p1, .ref p2, .ref p3, .ref p4, .ref p5, .ref p6, .ref p7, .ref p8, .ref p9])
  have sm := (same_new n1 (.tup ([0, 0, 2].map nv))).trans ((same_new n2 (.tup ([0, 2].map nv))).trans ((same_new n3 (.tup ([0, 1, 2].map nv))).trans ((same_new n4 (.tup ([0, 0, 1].map nv))).trans ((same_new n5 (.tup ([2, 0, 1, 0].map nv))).trans ((same_new n6 (.tup ([0, 0, 1, 2].map nv))).trans ((same_new n7 (.tup ([1, 0].map nv))).trans ((same_new n8 (.tup ([0].map nv))).trans ((same_new n9 (.tup ([1, 1, 0, 2].map nv))).trans sr))))))))
  have hst2 := hst.same sm
  have nrs : r ≠ st := fun z => by
    obtain ⟨l, ns, c, k, h1, _⟩ := hst2
    rw [← z, upd_same] at h1
    have e := HO.lst.inj (Option.some.inj h1)
    have e2 := congrArg List.length e
    simp at e2
  refine ⟨st, r, _, rfl, hst2, upd_same, nrs, (by show 0 < 9; omega), (by show 9 ≤ 1000; omega), fun i x H' hx kp hst' => ?_⟩
  obtain ⟨ar, a, rfl, ha, hg⟩ := (r9 x (List.mem_of_getElem? hx)).mono (Tups.of sr)
  obtain ⟨ok, leaf⟩ := arGood.ok hg
  exact q ar _ H' ⟨a, rfl, hst2.tups kp _ _ ha⟩ ok leaf ((Keep.of sm).trans kp) hst'
end
end Gf
namespace Gf
open PySem PySem.Spec PyProof.Rows L2
/-- the symbols below i whose arity fits -/
def symAt (ar : List Nat) (f : Nat → Bool) (s : Nat) : Bool := match ar[s]? with
  | some k => f k
  | none => false
def syms (ar : List Nat) (f : Nat → Bool) (i : Nat) : List Nat := (List.range i).filter (symAt ar f)
theorem syms_yes {ar : List Nat} {f : Nat → Bool} {i k : Nat} (h : ar[i]? = some k) (hf : f k = true) : syms ar f (i + 1) = syms ar f i ++ [i] := by
  unfold syms
  have e : symAt ar f i = true := by unfold symAt; rw [h]; exact hf
  rw [List.range_succ, List.filter_append, List.filter_cons_of_pos e]
  rfl
theorem syms_no {ar : List Nat} {f : Nat → Bool} {i k : Nat} (h : ar[i]? = some k) (hf : f k = false) : syms ar f (i + 1) = syms ar f i := by
  unfold syms
  have e : ¬ symAt ar f i = true := by unfold symAt; rw [h]; show ¬ f k = true; rw [hf]; exact Bool.false_ne_true
  rw [List.range_succ, List.filter_append, List.filter_cons_of_neg e]
  exact List.append_nil _
theorem syms_mem {ar : List Nat} {f : Nat → Bool} {i s : Nat} (h : s ∈ syms ar f i) : ∃ k, ar[s]? = some k ∧ f k = true := by
  have q := (List.mem_filter.mp h).2
  unfold symAt at q
  cases e : ar[s]? with
  | none => rw [e] at q; cases q
  | some k => rw [e] at q; exact ⟨k, rfl, q⟩
theorem syms_len (ar : List Nat) (f : Nat → Bool) (i : Nat) : (syms ar f i).length ≤ i := by
  unfold syms
  have q := List.length_filter_le (symAt ar f) (List.range i)
  rw [List.length_range] at q
  exact q
theorem syms_some {ar : List Nat} {f : Nat → Bool} {k : Nat} (h : k ∈ ar) (hf : f k = true) : 0 < (syms ar f ar.length).length := by
  obtain ⟨s, hs⟩ := List.getElem?_of_mem h
  have hl : s < ar.length := (List.getElem?_eq_some_iff.mp hs).1
  refine List.length_pos_of_mem (a := s) (List.mem_filter.mpr ⟨List.mem_range.mpr hl, ?_⟩)
  unfold symAt
  rw [hs]
  exact hf
abbrev fLeaf : Nat → Bool := fun k => decide (nv k = V.int 0)
abbrev fInner (m : Nat) : Nat → Bool := fun k => decide ((0 : Int) < ((k : Nat) : Int)) && decide (((k : Nat) : Int) < ((m : Nat) : Int))
section
variable {P : Program} {w : World} {K : PySem.W.Frag} {mg : Str → Option Value} {base : Heap}
abbrev sLTree : Stmt := topS 37
abbrev nLTree : List Str := ["_law_stream_here", "_law_arities_here", "_law_nodes", "_law_symbol", "_law_leaves", "_law_inner", "_law_left"]
theorem scLTree : FnScope nLTree ["_law_stream_here", "_law_arities_here", "_law_nodes"] (defScope sLTree) := ⟨rfl, rfl, rfl, by decide +kernel, rfl, by decide +kernel, by decide +kernel⟩
def spLTree (n : Nat) : Sp := fun vs H Q _ => ∃ (st a : Addr) (ar : List Nat) (m : Nat), vs = [.ref st, .ref a, nv m] ∧ StAt H st ∧ H a = some (.tup (ar.map nv)) ∧ ArOk ar ∧ 0 ∈ ar ∧ 1 ≤ m ∧ m ≤ n ∧ m ≤ 15 ∧
  ∀ t v H', WF ar t → t.size ≤ m → TrAt H' t v → Keep st H H' → StAt H' st → Q v H'
theorem ok_lTree1 {n : Nat} (D : Df K mg "_law_tree" sLTree ["_law_stream_here", "_law_arities_here", "_law_nodes"]) (T : Bt mg) (Dn : Dfn P w K mg base CX0 1 "_law_next" ["_law_stream_here", "_law_many"] spNext) (Dp : Dfn P w K mg base CX0 2 "_law_pick" ["_law_stream_here", "_law_rows"] spPick)
    (Dt : Dfn P w K mg base CX0 (n + 2) "_law_tree" ["_law_stream_here", "_law_arities_here", "_law_nodes"] (spLTree n)) : Dfn P w K mg base CX0 (n + 3) "_law_tree" ["_law_stream_here", "_law_arities_here", "_law_nodes"] (spLTree (n + 1)) := D.dfn fun f fd F => by
  have sc := scLTree
  refine F.ok sc (fun vs H Q E h => ?_) (fun cdv A outer s H vs Q E hr h => ?_)
  · obtain ⟨st, a, ar, m, rfl, _⟩ := h
    rfl
  obtain ⟨st, a, ar, m, rfl, hst, ha, ok, lf, m1, mn, m15, q⟩ := h
  have hr1 := hr.mono (show 1 ≤ n + 2 by omega)
  have hr2 := hr.mono (show 2 ≤ n + 2 by omega)
  refine ⟨_, (pss_cons (ps_setLc (i := 4) (own := [("_law_symbol", 3)]) (g := gName 3) rfl sc.nd rfl rfl (sw_true rfl rfl rfl (by decide +kernel)) (pi_range1 rfl T.range (pa_cons (pe_callB call_len_seq (by rfl) T.len PySem.boot_len (pa_cons (pv 1) pa_nil)) pa_nil)) (blkOk_by (N := nLTree) (sc := defScope sLTree) (by decide +kernel)) (fun _ _ _ _ _ => pg_name (i := 3) sc.nd rfl (Or.inl rfl))
      (fun _ _ _ _ _ => pts_one (pt_cmpR op_eq (pe_ix (r := rIxT K) ix_tup (pv 1) (pv 3) (fun _ _ => rfl)) pe_int (nomark _))) (fun _ _ _ _ _ => pv 3)) (pss_cons (ps_setLc (i := 5) (own := [("_law_symbol", 3)]) (g := gName 3) rfl sc.nd rfl rfl (sw_true rfl rfl rfl (by decide +kernel)) (pi_range1 rfl T.range (pa_cons (pe_callB call_len_seq (by rfl) T.len PySem.boot_len (pa_cons (pv 1) pa_nil)) pa_nil)) (blkOk_by (N := nLTree) (sc := defScope sLTree) (by decide +kernel)) (fun _ _ _ _ _ => pg_name (i := 3) sc.nd rfl (Or.inl rfl))
      (fun _ _ _ _ _ => pts_one (pt_chain op_lt op_lt pe_int (pe_ix (r := rIxT K) ix_tup (pv 1) (pv 3) (fun _ _ => rfl)) (pv 2))) (fun _ _ _ _ _ => pv 3)) (pss_cons (ps_if (PW.pt (pw_or (pt_not (pt_truth (pv 5) (by intro _; rfl))) (pw_or1 (pt_cmpR op_eq (pe_cl Dn hr1 (pa_cons (pv 0) (pa_cons pe_int pa_nil))) pe_int (nomark _))))) (pss_one (ps_ret (pe_tup (pa_cons (pe_cl Dp hr2 (pa_cons (pv 0) (pa_cons (pv 4) pa_nil))) pa_nil)))) pss_nil) (pss_cons (ps_set (i := 3) sc.nd rfl (Or.inl rfl) (pe_cl Dp hr2 (pa_cons (pv 0) (pa_cons (pv 5) pa_nil)))) (pss_cons (ps_if (pt_cmpR op_eq (pe_ix (r := rIxT K) ix_tup (pv 1) (pv 3) (fun _ _ => rfl)) pe_int (nomark _)) (pss_one (ps_ret (pe_tup (pa_cons (pv 3) (pa_cons (pe_cl Dt hr (pa_cons (pv 0) (pa_cons (pv 1) (pa_cons (pe_op op_sub (pv 2) pe_int) pa_nil)))) pa_nil))))) pss_nil) (pss_cons (ps_set (i := 6) sc.nd rfl (Or.inl rfl) (pe_op op_add pe_int (pe_cl Dn hr1 (pa_cons (pv 0) (pa_cons (pe_op op_sub (pv 2) pe_int) pa_nil))))) (pss_one (ps_ret (pe_tup (pa_cons (pv 3) (pa_cons (pe_cl Dt hr (pa_cons (pv 0) (pa_cons (pv 1) (pa_cons (pv 6) pa_nil)))) (pa_cons (pe_cl Dt hr (pa_cons (pv 0) (pa_cons (pv 1) (pa_cons (pe_op op_sub (pe_op op_sub (pv 2) pe_int) (pv 6)) pa_nil)))) pa_nil)))))))))))), ?_⟩
  have few := ok.few
  have hlen : (ar.map nv).length = ar.length := List.length_map _
  -- the leaves
  refine ⟨_, rfl, a, _, rfl, .inr (SqT.of ha), ((ar.length : Nat) : Int), by rw [hlen], by omega, by omega, fun L1 n1 => lc_range (lo := 0) (n := ar.length) (fun i H' => Same H H' ∧ H' L1 = some (.lst ((syms ar fLeaf i).map nv))) ⟨same_new n1 _, upd_same⟩ ?_ ?_⟩
  · rintro i H' hi ⟨sm, hL⟩
    obtain ⟨k, hk⟩ : ∃ k, ar[i]? = some k := ⟨_, List.getElem?_eq_getElem hi⟩
    have hz : ((0 : Int) + (i : Int)) = ((i : Nat) : Int) := by omega
    refine ⟨rfl, _, rfl, _, rfl, a, _, _, nv k, rfl, rfl, SqT.of (sm _ _ ha), at_of hz (by rw [List.getElem?_map, hk]; rfl), rfl, _, rfl, ite2 (fun z => ?_) (fun z => ?_)⟩
    · refine ⟨_, rfl, _, hL, ?_, same_grown n1 sm _, ?_⟩
      · have := syms_len ar fLeaf i
        rw [List.length_map]
        exact small1000 (by omega)
      · rw [upd_same, syms_yes hk z, List.map_append, hz]
        rfl
    · refine ⟨sm, ?_⟩
      rw [hL, syms_no hk (Bool.eq_false_iff.mpr z)]
  rintro H1 ⟨sm1, hL1⟩
  have a1 := sm1 _ _ ha
  -- the inner ones
  refine ⟨_, rfl, a, _, rfl, .inr (SqT.of a1), ((ar.length : Nat) : Int), by rw [hlen], by omega, by omega, fun L2 n2 => lc_range (lo := 0) (n := ar.length) (fun i H' => Same H1 H' ∧ H' L2 = some (.lst ((syms ar (fInner m) i).map nv))) ⟨same_new n2 _, upd_same⟩ ?_ ?_⟩
  · rintro i H' hi ⟨sm, hL⟩
    obtain ⟨k, hk⟩ : ∃ k, ar[i]? = some k := ⟨_, List.getElem?_eq_getElem hi⟩
    have hz : ((0 : Int) + (i : Int)) = ((i : Nat) : Int) := by omega
    refine ⟨rfl, _, rfl, _, rfl, a, _, _, nv k, rfl, rfl, SqT.of (sm _ _ a1), at_of hz (by rw [List.getElem?_map, hk]; rfl), _, _, rfl, rfl, _, rfl, ite2 (fun z => ?_) (fun z => ?_)⟩
    · refine ⟨_, rfl, _, _, rfl, rfl, _, rfl, ite2 (fun z2 => ?_) (fun z2 => ?_)⟩
      · refine ⟨_, rfl, _, hL, ?_, same_grown n2 sm _, ?_⟩
        · have := syms_len ar (fInner m) i
          rw [List.length_map]
          exact small1000 (by omega)
        · rw [upd_same, syms_yes hk (by show (_ && _) = true; rw [z, z2]; rfl), List.map_append, hz]
          rfl
      · refine ⟨sm, ?_⟩
        rw [hL, syms_no hk (by show (_ && _) = false; rw [z, Bool.eq_false_iff.mpr z2]; rfl)]
    · refine ⟨_, rfl, iteF ⟨sm, ?_⟩⟩
      rw [hL, syms_no hk (by show (_ && _) = false; rw [Bool.eq_false_iff.mpr z]; rfl)]
  rintro H2 ⟨sm2, hL2⟩
  have sm12 := sm1.trans sm2
  have hst2 := hst.same sm12
  have hL12 := sm2 _ _ hL1
  obtain ⟨ls, lns, lc, lk, hls, _⟩ := id hst
  have ne1 : L1 ≠ st := fun z => by
    rw [z, hls] at n1
    cases n1
  have ne2 : L2 ≠ st := fun z => by
    have e := sm1 _ _ hls
    rw [z, e] at n2
    cases n2
  have kp2 : Keep st H H2 := Keep.of sm12
  -- a leaf
  have leaf : ∀ H3 (o3 : Option V), Keep st H H3 → StAt H3 st → H3 L1 = some (.lst ((syms ar fLeaf ar.length).map nv)) →
      (tRet (tTup (tCons (tCall spPick [] E0 (tCons (tVar 0) (tCons (tVar 4) tNil))) tNil))) { nx := fun _ H' => Q .non H', rt := Q } [some (.ref st), some (.ref a), some (nv m), none, some (.ref L1), some (.ref L2), none] H3 := fun H3 o3 k3 h3 l3 => by
    refine ⟨_, rfl, _, rfl, st, L1, _, rfl, h3, l3, ne1, ?_, ?_, fun i x H4 hx k4 h4 => ⟨(by show 1 ≤ sizeLine; exact small (by omega)), fun p np => ?_⟩⟩
    · rw [List.length_map]
      exact syms_some lf rfl
    · have := syms_len ar fLeaf ar.length
      rw [List.length_map]
      omega
    · obtain ⟨sy, hsy, rfl⟩ := map_at hx
      obtain ⟨k, hk, hf⟩ := syms_mem (List.mem_of_getElem? hsy)
      have hk0 : ((k : Nat) : Int) = 0 := V.int.inj (of_decide_eq_true hf)
      have e0 : k = 0 := by omega
      subst e0
      have s5 := same_new np (.tup [nv sy])
      refine q (.nd sy []) _ _ (.mk (by rw [hk]; rfl) fun i c hc => by simp at hc) ?_ (.mk (xs := []) upd_same rfl fun i c x hc _ => by simp at hc) (k3.trans (k4.trans (Keep.of s5))) (h4.same s5)
      rw [size_eq]
      show 1 + sizes [] ≤ m
      rw [sizes_nil]
      omega
  refine ⟨_, rfl, _, .inl ⟨_, SqL.of hL2, rfl⟩, ite2 (fun z => leaf H2 none kp2 hst2 hL12) (fun z => ?_)⟩
  have ipos : 0 < ((syms ar (fInner m) ar.length).map nv).length := by
    cases e : (syms ar (fInner m) ar.length).map nv with
    | nil => rw [e] at z; simp at z
    | cons x xs => simp
  refine ⟨_, rfl, st, 5, rfl, hst2, by omega, by omega, fun d H3 hd k3 h3 => ⟨rfl, _, rfl, ite2 (fun z => leaf H3 none (kp2.trans k3) h3 (k3 _ _ ne1 hL12)) (fun z => ?_)⟩⟩
  have hL23 := k3 _ _ ne2 hL2
  -- the symbol
  refine ⟨_, rfl, _, rfl, st, L2, _, rfl, h3, hL23, ne2, ipos, ?_, fun i x H4 hx k4 h4 => ?_⟩
  · have := syms_len ar (fInner m) ar.length
    rw [List.length_map]
    omega
  obtain ⟨sy, hsy, rfl⟩ := map_at hx
  obtain ⟨k, hk, hf⟩ := syms_mem (List.mem_of_getElem? hsy)
  have hf' : (decide ((0 : Int) < ((k : Nat) : Int)) && decide (((k : Nat) : Int) < ((m : Nat) : Int))) = true := hf
  rw [Bool.and_eq_true, decide_eq_true_eq, decide_eq_true_eq] at hf'
  have k2 := ok.le2 _ _ hk
  have nas : a ≠ st := fun z => by
    rw [z, hls] at ha
    cases ha
  have kp4 := kp2.trans (k3.trans k4)
  have a4 := kp4 _ _ nas ha
  have atS : atI (ar.map nv) ((sy : Nat) : Int) = some (nv k) := atI_nat (by rw [List.getElem?_map, hk]; rfl)
  refine ⟨_, rfl, _, rfl, a, _, _, _, rfl, rfl, SqT.of a4, atS, rfl, _, rfl, ite2 (fun z => ?_) (fun z => ?_)⟩
  · have z' : ((k : Nat) : Int) = 1 := V.int.inj (of_decide_eq_true z)
    have k1 : k = 1 := by omega
    subst k1
    refine ⟨_, rfl, _, rfl, _, rfl, _, rfl, _, 1, rfl, rfl, st, a, ar, m - 1, ?_, h4, a4, ok, lf, by omega, by omega, by omega, fun t v H5 wt zt ht k5 h5 => ⟨(by show 2 ≤ sizeLine; exact small (by omega)), fun p np => ?_⟩⟩
    · show [V.ref st, V.ref a, V.int (((m : Nat) : Int) - 1)] = _
      rw [show (((m : Nat) : Int) - 1) = ((m - 1 : Nat) : Int) by omega]
    · have s6 := same_new np (.tup [nv sy, v])
      refine q (.nd sy [t]) _ _ (.mk (by rw [hk]; rfl) fun i c hc => ?_) ?_ (.mk (xs := [v]) upd_same rfl fun i c x hc hx => ?_) (kp4.trans (k5.trans (Keep.of s6))) (h5.same s6)
      · cases i with
        | zero => cases hc; exact wt
        | succ i => simp at hc
      · rw [size_eq]
        show 1 + sizes [t] ≤ m
        rw [sizes_cons, sizes_nil]
        omega
      · cases i with
        | zero => cases hc; cases hx; exact ht.same s6
        | succ i => simp at hc
  · have k2' : k = 2 := by
      by_cases e : k = 1
      · subst e
        exact absurd (decide_eq_true rfl) z
      · omega
    subst k2'
    refine ⟨_, rfl, _, rfl, _, 2, rfl, rfl, st, m - 2, ?_, h4, by omega, by omega, fun d H5 hd k5 h5 => ⟨1, _, rfl, rfl, ?_⟩⟩
    · show [V.ref st, V.int (((m : Nat) : Int) - 2)] = _
      rw [show (((m : Nat) : Int) - 2) = ((m - 2 : Nat) : Int) by omega]
    have kp5 := kp4.trans k5
    have a5 := kp5 _ _ nas ha
    refine ⟨_, rfl, _, rfl, _, rfl, _, rfl, st, a, ar, 1 + d, ?_, h5, a5, ok, lf, by omega, by omega, by omega, fun t v H6 wt zt ht k6 h6 => ?_⟩
    · show [V.ref st, V.ref a, V.int ((1 : Int) + ((d : Nat) : Int))] = _
      rw [show ((1 : Int) + ((d : Nat) : Int)) = ((1 + d : Nat) : Int) by omega]
    have kp6 := kp5.trans k6
    have a6 := kp6 _ _ nas ha
    refine ⟨_, rfl, _, rfl, _, rfl, _, 1, rfl, rfl, _, rfl, _, _, rfl, rfl, st, a, ar, m - 1 - (1 + d), ?_, h6, a6, ok, lf, by omega, by omega, by omega, fun t2 v2 H7 wt2 zt2 ht2 k7 h7 => ⟨(by show 3 ≤ sizeLine; exact small (by omega)), fun p np => ?_⟩⟩
    · show [V.ref st, V.ref a, V.int (((m : Nat) : Int) - 1 - ((1 : Int) + ((d : Nat) : Int)))] = _
      rw [show (((m : Nat) : Int) - 1 - ((1 : Int) + ((d : Nat) : Int))) = ((m - 1 - (1 + d) : Nat) : Int) by omega]
    · have s8 := same_new np (.tup [nv sy, v, v2])
      have ht7 := ht.mono (h6.tups k7)
      refine q (.nd sy [t, t2]) _ _ (.mk (by rw [hk]; rfl) fun i c hc => ?_) ?_ (.mk (xs := [v, v2]) upd_same rfl fun i c x hc hx => ?_) (kp6.trans (k7.trans (Keep.of s8))) (h7.same s8)
      · cases i with
        | zero => cases hc; exact wt
        | succ i =>
          cases i with
          | zero => cases hc; exact wt2
          | succ i => simp at hc
      · rw [size_eq]
        show 1 + sizes [t, t2] ≤ m
        rw [sizes_cons, sizes_cons, sizes_nil]
        omega
      · cases i with
        | zero => cases hc; cases hx; exact ht7.same s8
        | succ i =>
          cases i with
          | zero => cases hc; cases hx; exact ht2.same s8
          | succ i => simp at hc
theorem ok_lTree (D : Df K mg "_law_tree" sLTree ["_law_stream_here", "_law_arities_here", "_law_nodes"]) (T : Bt mg) (Dn : Dfn P w K mg base CX0 1 "_law_next" ["_law_stream_here", "_law_many"] spNext) (Dp : Dfn P w K mg base CX0 2 "_law_pick" ["_law_stream_here", "_law_rows"] spPick) :
    ∀ n : Nat, Dfn P w K mg base CX0 (n + 2) "_law_tree" ["_law_stream_here", "_law_arities_here", "_law_nodes"] (spLTree n)
  | 0 => (D.never fun vs H Q E h => by
    obtain ⟨st, a, ar, m, _, _, _, _, _, h1, h2, _⟩ := h
    omega).mono (Nat.zero_le _)
  | n + 1 => ok_lTree1 D T Dn Dp (ok_lTree D T Dn Dp n)
end
end Gf
namespace Gf
open PySem PySem.Spec PyProof.Rows L2
/-! ### places as data -/
def plD (p : List Nat) : PyData := .tuple (p.map fun k => .int ((k : Nat) : Int))
theorem plD_all (p : List Nat) : PyData.canLayAll0 (p.map fun k => PyData.int ((k : Nat) : Int)) = true := by
  induction p with
  | nil => simp [PyData.canLayAll0]
  | cons k p ih => simp [PyData.canLayAll0, PyData.canLay0, ih]
theorem plD_dep (p : List Nat) : PyData.depthAll (p.map fun k => PyData.int ((k : Nat) : Int)) ≤ 1 := by
  induction p with
  | nil => simp [PyData.depthAll]
  | cons k p ih =>
    simp only [List.map_cons, PyData.depthAll, PyData.depth]
    omega
theorem plD_depth (p : List Nat) : (plD p).depth ≤ 2 := by
  have h := plD_dep p
  simp only [plD, PyData.depth]
  omega
theorem plD_lay (p : List Nat) : (plD p).canLay0 = true := by
  simp only [plD, PyData.canLay0]
  exact plD_all p
theorem plD_shaped (p : List Nat) : SeqAt.shaped (plD p) = true := by
  have h := plD_depth p
  show ((plD p).canLay0 && decide ((plD p).depth ≤ 64)) = true
  rw [Bool.and_eq_true]
  exact ⟨plD_lay p, decide_eq_true (by omega)⟩
theorem plD_eqvAll : ∀ p q : List Nat, PyData.eqvAll (p.map fun k => PyData.int ((k : Nat) : Int)) (q.map fun k => PyData.int ((k : Nat) : Int)) = decide (p = q)
  | [], [] => by simp [PyData.eqvAll]
  | [], j :: q => by simp [PyData.eqvAll]
  | k :: p, [] => by simp [PyData.eqvAll]
  | k :: p, j :: q => by
    have ih := plD_eqvAll p q
    simp only [List.map_cons, PyData.eqvAll, PyData.eqv, ih]
    by_cases h : k = j
    · subst h
      by_cases h2 : p = q
      · subst h2; simp
      · simp [h2]
    · have e : (((k : Nat) : Int) == ((j : Nat) : Int)) = false := beq_eq_false_iff_ne.mpr (by omega)
      rw [e, Bool.false_and]
      exact (decide_eq_false fun z => h (List.cons.inj z).1).symm
theorem plD_eqv (p q : List Nat) : PyData.eqv (plD p) (plD q) = decide (p = q) := by
  show PyData.eqv (.tuple _) (.tuple _) = _
  simp only [PyData.eqv]
  exact plD_eqvAll p q
theorem dpAll_pl {K : PySem.W.Frag} {H : Hp} : ∀ p : List Nat, DpAll K H (p.map nv) (p.map fun k => PyData.int ((k : Nat) : Int))
  | [] => .nil
  | k :: p => .cons (.int _) (dpAll_pl p)
theorem PlAt.dp {K : PySem.W.Frag} {H : Hp} {p : List Nat} {v : V} (h : PlAt H p v) : Dp K H v (plD p) := by
  obtain ⟨a, rfl, ha⟩ := h
  exact .tup (SqT.of ha) (dpAll_pl p)
theorem sizes_take (ks : List Tr) (i : Nat) : sizes (ks.take i) ≤ sizes ks := by
  have q := sizes_app (ks.take i) (ks.drop i)
  rw [List.take_append_drop] at q
  omega
/-! ### spots in the heap -/
def SpAt (H : Hp) (q : List Nat × Tr) (v : V) : Prop := ∃ b a x, v = .ref b ∧ H b = some (.tup [.ref a, x]) ∧ H a = some (.tup (q.1.map nv)) ∧ TrAt H q.2 x
theorem SpAt.mono {H H' : Hp} {q : List Nat × Tr} {v : V} (h : SpAt H q v) (m : Tups H H') : SpAt H' q v := by
  obtain ⟨b, a, x, e, h1, h2, h3⟩ := h
  exact ⟨b, a, x, e, m _ _ h1, m _ _ h2, h3.mono m⟩
def Al {α : Type} (R : α → V → Prop) (xs : List α) (vs : List V) : Prop := vs.length = xs.length ∧ ∀ (i : Nat) (x : α) (v : V), xs[i]? = some x → vs[i]? = some v → R x v
theorem Al.nil {α : Type} {R : α → V → Prop} : Al R [] [] := ⟨rfl, fun i x v h => by simp at h⟩
theorem Al.app {α : Type} {R : α → V → Prop} {xs ys : List α} {vs ws : List V} (h : Al R xs vs) (h' : Al R ys ws) : Al R (xs ++ ys) (vs ++ ws) := by
  refine ⟨by rw [List.length_append, List.length_append, h.1, h'.1], fun i x v a b => ?_⟩
  by_cases c : i < xs.length
  · rw [List.getElem?_append_left c] at a
    rw [List.getElem?_append_left (by rw [h.1]; exact c)] at b
    exact h.2 i x v a b
  · rw [List.getElem?_append_right (by omega)] at a
    rw [List.getElem?_append_right (by rw [h.1]; omega), h.1] at b
    exact h'.2 _ x v a b
theorem Al.one {α : Type} {R : α → V → Prop} {x : α} {v : V} (h : R x v) : Al R [x] [v] := ⟨rfl, fun i y w a b => by
  cases i with
  | zero => cases a; cases b; exact h
  | succ i => simp at a⟩
theorem Al.imp {α : Type} {R S : α → V → Prop} {xs : List α} {vs : List V} (h : Al R xs vs) (f : ∀ x v, R x v → S x v) : Al S xs vs := ⟨h.1, fun i x v a b => f x v (h.2 i x v a b)⟩
theorem Al.get {α : Type} {R : α → V → Prop} {xs : List α} {vs : List V} {i : Nat} {v : V} (h : Al R xs vs) (hv : vs[i]? = some v) : ∃ x, xs[i]? = some x ∧ R x v := by
  have hi : i < xs.length := by
    rw [← h.1]
    exact (List.getElem?_eq_some_iff.mp hv).1
  exact ⟨_, List.getElem?_eq_getElem hi, h.2 i _ v (List.getElem?_eq_getElem hi) hv⟩
abbrev Sps (H : Hp) (sp : List (List Nat × Tr)) (vs : List V) : Prop := Al (SpAt H) sp vs
theorem Sps.mono {H H' : Hp} {sp : List (List Nat × Tr)} {vs : List V} (h : Sps H sp vs) (m : Tups H H') : Sps H' sp vs := Al.imp h fun _ _ z => z.mono m
section
variable {P : Program} {w : World} {K : PySem.W.Frag} {mg : Str → Option Value} {base : Heap}
/-! ### _law_spots, by levels -/
abbrev sSpots : Stmt := topS 39
abbrev nSpots : List Str := ["_law_tree_here", "_law_found", "_law_k", "_law_place", "_law_below"]
theorem scSpots : FnScope nSpots ["_law_tree_here"] (defScope sSpots) := ⟨rfl, rfl, rfl, by decide +kernel, rfl, by decide +kernel, by decide +kernel⟩
def spSpots (n : Nat) : Sp := fun vs H Q _ => ∃ (t : Tr) (v : V), vs = [v] ∧ TrAt H t v ∧ t.size ≤ n ∧ t.size ≤ 500 ∧ ∀ H' l ws, Same H H' → H l = none → H' l = some (.lst ws) → Sps H' (spots t) ws → Q (.ref l) H'
theorem ok_spots1 {n : Nat} (D : Df K mg "_law_spots" sSpots ["_law_tree_here"]) (T : Bt mg) (Dn : Dfn P w K mg base CX0 n "_law_spots" ["_law_tree_here"] (spSpots n)) : Dfn P w K mg base CX0 (n + 1) "_law_spots" ["_law_tree_here"] (spSpots (n + 1)) := D.dfn fun f fd F => by
  have sc := scSpots
  refine F.ok sc (fun vs H Q E h => ?_) (fun cdv A outer s H vs Q E hr h => ?_)
  · obtain ⟨t, v, rfl, _⟩ := h
    rfl
  obtain ⟨t, v, rfl, ht, hn, hz, q⟩ := h
  obtain ⟨p, ys, rfl, hp, hk⟩ := ht.kids
  have hse := size_eq t
  refine ⟨_, (pss_cons (ps_set (i := 1) sc.nd rfl (Or.inl rfl) (pe_lst (pa_cons (pe_tup (pa_cons (pe_tup pa_nil) (pa_cons (pv 0) pa_nil))) pa_nil))) (pss_cons (ps_for PassesOwn.never rfl (pi_range1 rfl T.range (pa_cons (pe_op op_sub (pe_callB call_len_seq (by rfl) T.len PySem.boot_len (pa_cons (pv 0) pa_nil)) pe_int) pa_nil)) (pg_name (i := 2) sc.nd rfl (Or.inr rfl)) (pss_one (ps_expr (pe_bm PySem.F.plainAttrs_list PySem.F.slot_list_extend PySem.F.type_list_extend mt_extend (pv 1) (pa_cons (pe_lc (own := [("_law_place", 3), ("_law_below", 4)]) (g := gTup K 2 (gCons (gName 3) (gCons (gName 4) gNil))) (tt := tYes) rfl sc.nd (pi_list (pe_cl Dn hr (pa_cons (pe_ix (r := rIxT K) ix_tup (pv 0) (pe_op op_add (pv 2) pe_int) (fun _ _ => rfl)) pa_nil))) (blkOk_by (N := nSpots) (sc := defScope sSpots) (by decide +kernel))
        (fun _ _ _ _ _ => pg_tup rfl (pgs_cons (pg_name (i := 3) sc.nd rfl (Or.inl rfl)) (pgs_cons (pg_name (i := 4) sc.nd rfl (Or.inl rfl)) pgs_nil))) (fun _ _ _ _ _ => pts_nil) (fun _ _ _ _ _ => (pe_tup (pa_cons (pe_op (r := rCatA K) op_catA (pe_tup (pa_cons (pv 2) pa_nil)) (pv 3)) (pa_cons (pv 4) pa_nil))))) pa_nil))))) (pss_one (ps_ret (pv 1))))), ?_⟩
  -- found = [((), tree)]
  refine ⟨(by show 0 ≤ sizeLine; exact small (by omega)), fun e0 n0 => ⟨_, rfl, (by show 2 ≤ sizeLine; exact small (by omega)), fun e1 n1 => ⟨(by show 1 ≤ sizeLine; exact small (by omega)), fun l nl => ?_⟩⟩⟩
  have s1 := same_new n0 (.tup [])
  have s2 := same_new n1 (.tup [.ref e0, .ref p])
  have s3 := same_new nl (.lst [.ref e1])
  have s13 := s1.trans (s2.trans s3)
  have nlH : H l = none := (s1.trans s2).free nl
  have first : SpAt (upd (upd (upd H e0 (.tup [])) e1 (.tup [.ref e0, .ref p])) l (.lst [.ref e1])) ([], t) (.ref e1) := ⟨e1, e0, .ref p, rfl, s3 _ _ upd_same, s3 _ _ (s2 _ _ upd_same), ht.same s13⟩
  -- the loop
  refine ⟨_, rfl, p, _, rfl, .inr (SqT.of (s13 _ _ hp)), _, 1, rfl, rfl, ((t.kids.length : Nat) : Int), ?_, by have := sizes_len t.kids; omega, by have := sizes_len t.kids; omega, for_range (lo := 0) (n := t.kids.length) (fun i σ H' => Same H H' ∧ ∃ (ws : List V) (kv : Option V), H' l = some (.lst ws) ∧ Sps H' (([], t) :: spotsL 0 (t.kids.take i)) ws ∧ σ = [some (.ref p), some (.ref l), kv, none, none])
    ⟨s13, [.ref e1], none, upd_same, by rw [List.take_zero, spotsL_nil]; exact Al.one first, rfl⟩ ?_ ?_⟩
  · show [V.int ((((nv t.sym :: ys).length : Nat) : Int) - 1)] = _
    rw [List.length_cons, hk.1, show (((t.kids.length + 1 : Nat) : Int) - 1) = ((t.kids.length : Nat) : Int) by omega]
  · rintro i σ H1 hi ⟨sm, ws, kv, hl, hws, rfl⟩
    obtain ⟨c, hc⟩ : ∃ c, t.kids[i]? = some c := ⟨_, List.getElem?_eq_getElem hi⟩
    obtain ⟨x, hx, hcx⟩ := val_at hk hc
    have hi0 : ((0 : Int) + (i : Int)) = ((i : Nat) : Int) := by omega
    have cz := kid_lt hc
    refine ⟨_, rfl, .inl ⟨rfl, _, SqL.of hl⟩, _, rfl, _, rfl, _, 1, rfl, rfl, p, _, _, x, rfl, rfl, SqT.of (sm _ _ hp), at_of (j := i + 1) (by omega) (by rw [List.getElem?_cons_succ]; exact hx), c, x, rfl, hcx.same sm, by omega, by omega, fun H2 l2 ws2 t2 nl2 hl2 hws2 => ?_⟩
    refine ⟨l2, rfl, ⟨_, SqL.of hl2⟩, fun L nL => lc_list (K := K) (a := l2) (xs := ws2) (fun j H3 => Same H2 H3 ∧ ∃ us, H3 L = some (.lst us) ∧ Sps H3 (((spots c).take j).map fun q => (i :: q.1, q.2)) us) ⟨same_new nL _, [], upd_same, Al.nil⟩ (fun j H3 _ h => SqL.of (h.1 _ _ hl2)) ?_ ?_⟩
    · rintro j y H3 hy ⟨sm3, us, hus, hsp⟩
      obtain ⟨pr, hpr, hb⟩ := Al.get hws2 hy
      obtain ⟨pp, cc⟩ := pr
      obtain ⟨b, a, z, rfl, hbb, ha, hz3⟩ := hb.mono (Tups.of sm3)
      refine ⟨b, _, rfl, SqT.of hbb, rfl, _, _, rfl, _, _, rfl, rfl, rfl, ?_⟩
      refine ⟨_, rfl, (by show 1 ≤ sizeLine; exact small (by omega)), fun c1 m1 => ?_⟩
      have u1 := same_new m1 (.tup [.int ((0 : Int) + (i : Int))])
      have fin : ∀ (H4 : Hp) (g : Addr), Same H3 H4 → H4 g = some (.tup (((i :: pp)).map nv)) →
          (tVar 4) [some (.ref p), some (.ref l), some (.int ((0 : Int) + (i : Int))), some (.ref a), some z] H4 fun x5 H5 => [V.ref g, x5].length ≤ sizeLine ∧ ∀ c3, H5 c3 = none → ∃ acc, (upd H5 c3 (.tup [.ref g, x5])) L = some (.lst acc) ∧ acc.length < sizeLine ∧
            (Same H2 (upd (upd H5 c3 (.tup [.ref g, x5])) L (.lst (acc ++ [.ref c3]))) ∧ ∃ us, (upd (upd H5 c3 (.tup [.ref g, x5])) L (.lst (acc ++ [.ref c3]))) L = some (.lst us) ∧ Sps (upd (upd H5 c3 (.tup [.ref g, x5])) L (.lst (acc ++ [.ref c3]))) (((spots c).take (j + 1)).map fun q => (i :: q.1, q.2)) us) := fun H4 g v1 hg => by
        refine ⟨_, rfl, (by show 2 ≤ sizeLine; exact small (by omega)), fun c3 m3 => ?_⟩
        have u3 := same_new m3 (.tup [.ref g, z])
        have hL5 := u3 _ _ (v1 _ _ hus)
        have tu := (Tups.of (v1.trans u3)).trans (tups_upd hL5 (.lst (us ++ [.ref c3])))
        refine ⟨us, hL5, ?_, same_grown nL (sm3.trans (v1.trans u3)) _, _, upd_same, ?_⟩
        · have h1 := hsp.1
          rw [List.length_map, List.length_take, spots_len] at h1
          exact small1000 (by omega)
        · rw [map_take_more _ hpr]
          have tu5 := tups_upd hL5 (.lst (us ++ [.ref c3]))
          refine Al.app (Sps.mono hsp tu) (Al.one ⟨c3, g, z, rfl, tu5 _ _ upd_same, tu5 _ _ (u3 _ _ hg), hz3.mono tu⟩)
      have ek : V.int ((0 : Int) + (i : Int)) = nv i := by rw [hi0]
      refine ⟨_, rfl, c1, a, _, _, rfl, rfl, SqT.of upd_same, SqT.of (u1 _ _ ha), ?_, fun zz => (by cases zz), fun _ zz => ?_, fun _ _ c2 m2 => ?_⟩
      · have h1 := part_len (spots_part (List.mem_of_getElem? hpr))
        show 1 + (pp.map nv).length ≤ sizeLine
        rw [List.length_map]
        exact small (by simp only at h1; omega)
      · have zz' : pp.map nv = [] := zz
        refine fin _ c1 u1 ?_
        rw [upd_same, List.map_cons, zz', ek]
      · have u2 := same_new m2 (.tup ([.int ((0 : Int) + (i : Int))] ++ pp.map nv))
        refine fin _ c2 (u1.trans u2) ?_
        rw [upd_same, List.map_cons, ek]
        rfl
    · rintro H3 ⟨sm3, us, hus, hsp⟩
      have hl3 := sm3 _ _ (t2 _ _ hl)
      have e2 : ws2.length = (spots c).length := hws2.1
      rw [e2, List.take_length] at hsp
      have tu := Tups.of (t2.trans sm3)
      have tl := tups_upd hl3 (.lst (ws ++ us))
      have both : Sps (upd H3 l (.lst (ws ++ us))) (([], t) :: spotsL 0 (t.kids.take (i + 1))) (ws ++ us) := by
        rw [spotsL_more hc, ← List.cons_append]
        exact Al.app (Sps.mono hws (tu.trans tl)) (Sps.mono hsp tl)
      refine ⟨l, L, ws, us, rfl, rfl, hl3, hus, ?_, same_grown nlH (sm.trans (t2.trans sm3)) _, ws ++ us, _, upd_same, both, rfl⟩
      have h1 := both.1
      have h2 := sizes_take t.kids (i + 1)
      rw [List.length_append, List.length_cons, spotsL_len] at h1
      exact small (by omega)
  · rintro σ H1 ⟨sm, ws, kv, hl, hws, rfl⟩
    rw [List.take_length, ← spots_eq] at hws
    exact ⟨_, rfl, q H1 l ws sm nlH hl hws⟩
theorem ok_spots (D : Df K mg "_law_spots" sSpots ["_law_tree_here"]) (T : Bt mg) : ∀ n : Nat, Dfn P w K mg base CX0 n "_law_spots" ["_law_tree_here"] (spSpots n)
  | 0 => D.never fun vs H Q E h => by
    obtain ⟨t, v, _, _, h0, _⟩ := h
    have := size_pos t
    omega
  | n + 1 => ok_spots1 D T (ok_spots D T n)
end
end Gf
namespace Gf
open PySem PySem.Spec PyProof.Rows L2
section
variable {P : Program} {w : World} {K : PySem.W.Frag} {mg : Str → Option Value} {base : Heap}
/-! ### _law_size, by levels -/
abbrev sLSize : Stmt := topS 38
theorem scLSize : FnScope ["_law_tree_here", "_law_child"] ["_law_tree_here"] (defScope sLSize) := ⟨rfl, rfl, rfl, by decide +kernel, rfl, by decide +kernel, by decide +kernel⟩
def spLSize (n : Nat) : Sp := fun vs H Q _ => ∃ (t : Tr) (v : V), vs = [v] ∧ TrAt H t v ∧ t.size ≤ n ∧ t.size ≤ 1000 ∧ ∀ H', Same H H' → Q (nv t.size) H'
theorem ok_lSize1 {n : Nat} (D : Df K mg "_law_size" sLSize ["_law_tree_here"]) (T : Bt mg) (Dn : Dfn P w K mg base CX0 n "_law_size" ["_law_tree_here"] (spLSize n)) : Dfn P w K mg base CX0 (n + 1) "_law_size" ["_law_tree_here"] (spLSize (n + 1)) := D.dfn fun f fd F => by
  have sc := scLSize
  refine F.ok sc (fun vs H Q E h => ?_) (fun cdv A outer s H vs Q E hr h => ?_)
  · obtain ⟨t, v, rfl, _⟩ := h
    rfl
  obtain ⟨t, v, rfl, ht, hn, hb, q⟩ := h
  obtain ⟨p, ys, rfl, hp, hk⟩ := ht.kids
  refine ⟨_, (pss_one (ps_ret (pe_op op_add pe_int (pe_callB (cr_sum rfl) (by rfl) T.sum boot_sum1 (pa_cons (pe_lc (own := [("_law_child", 1)]) (g := gName 1) (tt := tYes) rfl sc.nd (pi_tup (pe_slice (r := rSlA K) sl_tupA (pv 0) (po_some pe_int) po_none)) (blkOk_by (N := ["_law_tree_here", "_law_child"]) (sc := defScope sLSize) (by decide +kernel)) (fun _ _ _ _ _ => pg_name (i := 1) sc.nd rfl (Or.inl rfl)) (fun _ _ _ _ _ => pts_nil) (fun _ _ _ _ _ => (pe_cl Dn hr (pa_cons (pv 1) pa_nil)))) pa_nil))))), ?_⟩
  refine ⟨_, rfl, 1, rfl, p, _, rfl, SqT.of hp, fun z => absurd z (not_whole1 _ _), fun _ c nc => ?_⟩
  have s1 : Same H (upd H c (.tup (cutV (nv t.sym :: ys) (some 1) none))) := same_new nc _
  have hc : upd H c (.tup (cutV (nv t.sym :: ys) (some 1) none)) c = some (.tup ys) := by
    rw [upd_same, cut_from1]
    rfl
  refine ⟨c, rfl, ⟨_, SqT.of hc⟩, fun L nL => lc_tup (K := K) (a := c) (xs := ys) (fun i H' => Same (upd H c (.tup (cutV (nv t.sym :: ys) (some 1) none))) H' ∧ H' L = some (.lst (((t.kids.take i).map fun c => ((c.size : Nat) : Int)).map V.int))) ⟨same_new nL _, upd_same⟩ (fun i H' _ h => SqT.of (h.1 _ _ hc)) ?_ ?_⟩
  · rintro i x H' hx ⟨sm, hL⟩
    obtain ⟨d, hd, hdx⟩ := kid_at hk hx
    have lt := kid_lt hd
    refine ⟨rfl, _, rfl, d, x, rfl, hdx.same (s1.trans sm), by omega, by omega, fun H2 s2 => ⟨_, s2 _ _ hL, ?_, same_grown nL (sm.trans s2) _, ?_⟩⟩
    · rw [List.length_map, List.length_map]
      exact small1000 (few_kids hb)
    · rw [upd_same, map_take_more _ hd, List.map_append]
      rfl
  · rintro H' ⟨sm, hL⟩
    refine ⟨L, _, rfl, SqL.of hL, 1, _, rfl, rfl, ?_⟩
    rw [hk.1, List.take_length, sizes_sum]
    have e : (1 : Int) + ((sizes t.kids : Nat) : Int) = ((t.size : Nat) : Int) := by
      have := size_eq t
      omega
    show Q (.int ((1 : Int) + ((sizes t.kids : Nat) : Int))) H'
    rw [e]
    exact q H' (s1.trans sm)
theorem ok_lSize (D : Df K mg "_law_size" sLSize ["_law_tree_here"]) (T : Bt mg) : ∀ n : Nat, Dfn P w K mg base CX0 n "_law_size" ["_law_tree_here"] (spLSize n)
  | 0 => D.never fun vs H Q E h => by
    obtain ⟨t, v, _, _, h0, _⟩ := h
    have := size_pos t
    omega
  | n + 1 => ok_lSize1 D T (ok_lSize D T n)
/-! ### _law_put, by levels -/
abbrev sLPut : Stmt := topS 41
theorem scLPut : FnScope ["_law_tree_here", "_law_place", "_law_below", "_law_at"] ["_law_tree_here", "_law_place", "_law_below"] (defScope sLPut) := ⟨rfl, rfl, rfl, by decide +kernel, rfl, by decide +kernel, by decide +kernel⟩
def spLPut (n : Nat) : Sp := fun vs H Q _ => ∃ (t y a : Tr) (p : List Nat) (v u x : V), vs = [v, u, x] ∧ TrAt H t v ∧ PlAt H p u ∧ TrAt H y x ∧ part t p = some a ∧ p.length < n ∧ t.size ≤ 500 ∧ ∀ H' r, Same H H' → TrAt H' (put t p y) r → Q r H'
theorem ok_lPut1 {n : Nat} (D : Df K mg "_law_put" sLPut ["_law_tree_here", "_law_place", "_law_below"]) (T : Bt mg) (Dn : Dfn P w K mg base CX0 n "_law_put" ["_law_tree_here", "_law_place", "_law_below"] (spLPut n)) : Dfn P w K mg base CX0 (n + 1) "_law_put" ["_law_tree_here", "_law_place", "_law_below"] (spLPut (n + 1)) := D.dfn fun f fd F => by
  have sc := scLPut
  refine F.ok sc (fun vs H Q E h => ?_) (fun cdv A outer s H vs Q E hr h => ?_)
  · obtain ⟨t, y, a, p, v, u, x, rfl, _⟩ := h
    rfl
  obtain ⟨t, y, a, p, v, u, x, rfl, ht, ⟨b, rfl, hb⟩, hy, hpa, hn, hz, q⟩ := h
  obtain ⟨pt, ys, rfl, hp, hks⟩ := ht.kids
  refine ⟨_, (pss_cons (ps_if (pt_cmpR (r := rEqD K) (op_eqD hr.units) (pv 1) (pe_tup pa_nil) (nomark _)) (pss_one (ps_ret (pv 2))) pss_nil) (pss_cons (ps_set (i := 3) sc.nd rfl (Or.inl rfl) (pe_op op_add (pe_ix (r := rIxT K) ix_tup (pv 1) pe_int (fun _ _ => rfl)) pe_int)) (pss_one (ps_ret (pe_op (r := rCatA K) op_catA (pe_op (r := rCatA K) op_catA (pe_slice (r := rSlA K) sl_tupA (pv 0) po_none (po_some (pv 3))) (pe_tup (pa_cons (pe_cl Dn hr (pa_cons (pe_ix (r := rIxT K) ix_tup (pv 0) (pv 3) (fun _ _ => rfl)) (pa_cons (pe_slice (r := rSlA K) sl_tupA (pv 1) (po_some pe_int) po_none) (pa_cons (pv 2) pa_nil)))) pa_nil))) (pe_slice (r := rSlA K) sl_tupA (pv 0) (po_some (pe_op op_add (pv 3) pe_int)) po_none)))))), ?_⟩
  refine ⟨_, rfl, (by show 0 ≤ sizeLine; exact small (by omega)), fun e0 n0 => ?_⟩
  have s0 := same_new n0 (.tup [])
  refine ⟨plD p, plD [], PlAt.dp ⟨b, rfl, s0 _ _ hb⟩, PlAt.dp ⟨e0, rfl, upd_same⟩, plD_shaped p, plD_shaped [], _, rfl, ite2 (fun z => ?_) (fun z => ?_)⟩
  · rw [plD_eqv] at z
    have e : p = [] := of_decide_eq_true z
    subst e
    exact ⟨_, rfl, q _ x s0 (hy.same s0)⟩
  · obtain ⟨k, p', rfl⟩ : ∃ k p', p = k :: p' := by
      cases p with
      | nil => exact absurd (by rw [plD_eqv]; rfl) z
      | cons k p' => exact ⟨k, p', rfl⟩
    have hb' := hb
    have hp' := hp
    replace hb := s0 _ _ hb
    replace hp := s0 _ _ hp
    replace hy := hy.same s0
    replace hks := hks.mono (Tups.of s0)
    replace q : ∀ H' r, Same (upd H e0 (.tup [])) H' → TrAt H' (put t (k :: p') y) r → Q r H' := fun H' r s1 => q H' r (s0.trans s1)
    obtain ⟨c, hc, hca⟩ := part_cons hpa
    obtain ⟨xc, hxc, hcx⟩ := val_at hks hc
    have hkl : k < ys.length := (List.getElem?_eq_some_iff.mp hxc).1
    have e1 : ((k : Int) + 1) = ((k + 1 : Nat) : Int) := by omega
    have hlen : (nv t.sym :: ys).length = ys.length + 1 := List.length_cons
    have hsz := sizes_len t.kids
    have hse := size_eq t
    have hk1 := hks.1
    -- at = place[0] + 1
    refine ⟨_, rfl, b, _, _, _, rfl, rfl, SqT.of hb, atI_nat (j := 0) rfl, (k : Int), 1, rfl, rfl, ?_⟩
    -- tree[:at]
    refine ⟨_, rfl, _, rfl, (k : Int) + 1, rfl, pt, _, rfl, SqT.of hp, fun zz => ?_, fun _ c1 n1 => ?_⟩
    · rw [e1] at zz
      exact absurd zz (not_whole_to (by omega))
    have s1 := same_new n1 (.tup (cutV (nv t.sym :: ys) none (some ((k : Int) + 1))))
    have g1 : upd (upd H e0 (.tup [])) c1 (.tup (cutV (nv t.sym :: ys) none (some ((k : Int) + 1)))) c1 = some (.tup ((nv t.sym :: ys).take (k + 1))) := by rw [upd_same, e1, cut_to]
    -- tree[at]
    refine ⟨_, rfl, _, rfl, pt, _, _, xc, rfl, rfl, SqT.of (s1 _ _ hp), ?_, ?_⟩
    · exact at_of (j := k + 1) e1 (by rw [List.getElem?_cons_succ]; exact hxc)
    -- place[1:]
    refine ⟨_, rfl, 1, rfl, b, _, rfl, SqT.of (s1 _ _ hb), fun zz => absurd zz (not_whole1 _ _), fun _ c2 n2 => ?_⟩
    have s2 := same_new n2 (.tup (cutV ((k :: p').map nv) (some 1) none))
    -- put_at(..)
    refine ⟨_, rfl, c, y, a, p', _, _, _, rfl, hcx.same (s1.trans s2), ⟨c2, rfl, ?_⟩, hy.same (s1.trans s2), hca, by rw [List.length_cons] at hn; omega, by have := kid_lt hc; omega, fun H3 r s3 hr3 => ?_⟩
    · rw [upd_same]
      exact congrArg some (congrArg HO.tup (cut_from1 _))
    refine ⟨(by show 1 ≤ sizeLine; exact small (by omega)), fun c3 n3 => ?_⟩
    have s4 := same_new n3 (.tup [r])
    have s24 := s2.trans (s3.trans s4)
    -- tree[:at] + (.., )
    refine ⟨c1, c3, _, _, rfl, rfl, SqT.of (s24 _ _ g1), SqT.of upd_same, ?_, fun zz => ?_, fun _ zz => ?_, fun _ _ c4 n4 => ?_⟩
    · rw [List.length_take, hlen, List.length_singleton]
      exact small (by omega)
    · rw [List.take_succ_cons] at zz
      cases zz
    · cases zz
    have s5 := same_new n4 (.tup ((nv t.sym :: ys).take (k + 1) ++ [r]))
    have s15 := s1.trans (s24.trans s5)
    have s35 := s4.trans s5
    -- tree[at + 1:]
    have e2 : ((k : Int) + 1 + 1) = ((k + 2 : Nat) : Int) := by omega
    have ec : cutV (nv t.sym :: ys) (some ((k : Int) + 1 + 1)) none = (nv t.sym :: ys).drop (k + 2) := by rw [e2, cut_from _ _ (by omega)]
    refine ⟨_, rfl, _, rfl, (k : Int) + 1, 1, rfl, rfl, (k : Int) + 1 + 1, rfl, pt, _, rfl, SqT.of (s15 _ _ hp), fun zz => ?_, fun _ c5 n5 => ?_⟩
    · rw [e2] at zz
      exact absurd zz (not_whole_from (by omega) (by omega))
    have s6 := same_new n5 (.tup (cutV (nv t.sym :: ys) (some ((k : Int) + 1 + 1)) none))
    have g4 := s6 _ _ (upd_same (a := c4) (o := .tup ((nv t.sym :: ys).take (k + 1) ++ [r])))
    have s36 := s35.trans s6
    have whole : ((nv t.sym :: ys).take (k + 1) ++ [r]) ++ cutV (nv t.sym :: ys) (some ((k : Int) + 1 + 1)) none = nv t.sym :: ys.set k r := by
      rw [ec, set_parts r _ hkl]
    have shut : ∀ {H' : Hp} {g : Addr}, Same H3 H' → H' g = some (.tup (nv t.sym :: ys.set k r)) → TrAt H' (put t (k :: p') y) (.ref g) := fun {H' g} sm hg => by
      rw [put_some hc]
      refine TrAt.close (t := .nd t.sym (t.kids.set k (put c p' y))) hg ?_ ?_
      · exact ((hks.mono (Tups.of (s1.trans (s2.trans (s3.trans sm))))).put (hr3.same sm)).1
      · exact ((hks.mono (Tups.of (s1.trans (s2.trans (s3.trans sm))))).put (hr3.same sm)).2
    refine ⟨c4, c5, _, _, rfl, rfl, SqT.of g4, SqT.of upd_same, ?_, fun zz => ?_, fun _ zz => ?_, fun _ _ c6 n6 => ?_⟩
    · rw [ec, List.length_append, List.length_take, List.length_drop, hlen, List.length_singleton]
      exact small (by omega)
    · rw [List.take_succ_cons] at zz
      cases zz
    · rw [zz, List.append_nil] at whole
      exact q _ _ (s15.trans s6) (shut s36 (g4.trans (congrArg (fun z => some (HO.tup z)) whole)))
    · have s7 := same_new n6 (.tup (((nv t.sym :: ys).take (k + 1) ++ [r]) ++ cutV (nv t.sym :: ys) (some ((k : Int) + 1 + 1)) none))
      exact q _ _ ((s15.trans s6).trans s7) (shut (s36.trans s7) (by rw [upd_same, whole]))
theorem ok_lPut (D : Df K mg "_law_put" sLPut ["_law_tree_here", "_law_place", "_law_below"]) (T : Bt mg) : ∀ n : Nat, Dfn P w K mg base CX0 n "_law_put" ["_law_tree_here", "_law_place", "_law_below"] (spLPut n)
  | 0 => D.never fun vs H Q E h => by
    obtain ⟨t, y, a, p, v, u, x, _, _, _, _, _, h0, _⟩ := h
    omega
  | n + 1 => ok_lPut1 D T (ok_lPut D T n)
/-! ### _law_part -/
abbrev sLPart : Stmt := topS 40
abbrev nLPart : List Str := ["_law_tree_here", "_law_place", "_law_found", "_law_spot", "_law_below"]
theorem scLPart : FnScope nLPart ["_law_tree_here", "_law_place"] (defScope sLPart) := ⟨rfl, rfl, rfl, by decide +kernel, rfl, by decide +kernel, by decide +kernel⟩
def spLPart (n : Nat) : Sp := fun vs H Q _ => ∃ (t : Tr) (p : List Nat) (v u : V), vs = [v, u] ∧ TrAt H t v ∧ PlAt H p u ∧ t.size ≤ n ∧ t.size ≤ 500 ∧ (∀ c x H', part t p = some c → Same H H' → TrAt H' c x → Q x H') ∧ (part t p = none → ∀ H', Same H H' → Q .non H')
theorem ok_lPart {n : Nat} (D : Df K mg "_law_part" sLPart ["_law_tree_here", "_law_place"]) (T : Bt mg) (Dn : Dfn P w K mg base CX0 n "_law_spots" ["_law_tree_here"] (spSpots n)) : Dfn P w K mg base CX0 (n + 1) "_law_part" ["_law_tree_here", "_law_place"] (spLPart n) := D.dfn fun f fd F => by
  have sc := scLPart
  refine F.ok sc (fun vs H Q E h => ?_) (fun cdv A outer s H vs Q E hr h => ?_)
  · obtain ⟨t, p, v, u, rfl, _⟩ := h
    rfl
  obtain ⟨t, p, v, u, rfl, ht, hu, hn, hz, q1, q2⟩ := h
  refine ⟨_, (pss_cons (ps_setLc (i := 2) (own := [("_law_spot", 3), ("_law_below", 4)]) (g := gTup K 2 (gCons (gName 3) (gCons (gName 4) gNil))) rfl sc.nd rfl rfl (sw_true rfl rfl rfl (by decide +kernel)) (pi_list (pe_cl Dn hr (pa_cons (pv 0) pa_nil))) (blkOk_by (N := nLPart) (sc := defScope sLPart) (by decide +kernel))
      (fun _ _ _ _ _ => pg_tup rfl (pgs_cons (pg_name (i := 3) sc.nd rfl (Or.inl rfl)) (pgs_cons (pg_name (i := 4) sc.nd rfl (Or.inl rfl)) pgs_nil))) (fun _ _ _ _ _ => pts_one (pt_cmpR (r := rEqD K) (op_eqD hr.units) (pv 3) (pv 1) (nomark _))) (fun _ _ _ _ _ => pv 4)) (pss_one (ps_ret (pe_ifExp (pt_truth (pv 2) (by intro _; rfl)) (pe_ix (r := rIxL K) ix_list (pv 2) pe_int (fun _ _ => rfl)) pe_non)))), ?_⟩
  refine ⟨_, rfl, t, v, rfl, ht, hn, hz, fun H2 l2 ws2 t2 nl2 hl2 hws2 => ⟨l2, rfl, ⟨_, SqL.of hl2⟩, fun L nL => lc_list (K := K) (a := l2) (xs := ws2) (fun j H3 => Same H2 H3 ∧ ∃ us, H3 L = some (.lst us) ∧ Trs H3 (pick ((spots t).take j) p) us) ⟨same_new nL _, [], upd_same, ⟨rfl, fun i c x h => by simp [pick] at h⟩⟩ (fun j H3 _ h => SqL.of (h.1 _ _ hl2)) ?_ ?_⟩⟩
  · rintro j y H3 hy ⟨sm3, us, hus, htr⟩
    obtain ⟨pr, hpr, hb⟩ := Al.get hws2 hy
    obtain ⟨pp, cc⟩ := pr
    obtain ⟨b, a, z, rfl, hbb, ha, hz3⟩ := hb.mono (Tups.of sm3)
    have e1 : (spots t).take (j + 1) = (spots t).take j ++ [(pp, cc)] := by rw [List.take_add_one, hpr]; rfl
    refine ⟨b, _, rfl, SqT.of hbb, rfl, _, _, rfl, _, _, rfl, rfl, rfl, ?_⟩
    refine ⟨_, rfl, _, rfl, plD pp, plD p, PlAt.dp ⟨a, rfl, ha⟩, (hu.mono (Tups.of (t2.trans sm3))).dp, plD_shaped pp, plD_shaped p, _, rfl, ite2 (fun zz => ?_) (fun zz => ?_)⟩
    · rw [plD_eqv] at zz
      have e : pp = p := of_decide_eq_true zz
      have tl := tups_upd hus (.lst (us ++ [z]))
      refine ⟨_, rfl, us, hus, ?_, same_grown nL sm3 _, us ++ [z], upd_same, ?_⟩
      · have h1 := htr.1
        have h2 : (pick ((spots t).take j) p).length ≤ ((spots t).take j).length := by
          unfold pick
          rw [List.length_map]
          exact List.length_filter_le _ _
        rw [List.length_take, spots_len] at h2
        exact small1000 (by omega)
      · rw [e1, pick_app, e, pick_yes, pick_nil]
        exact (htr.mono tl).app (Trs.one (hz3.mono tl))
    · rw [plD_eqv] at zz
      have e : pp ≠ p := fun e => zz (decide_eq_true e)
      refine ⟨sm3, us, hus, ?_⟩
      rw [e1, pick_app, pick_no e, pick_nil, List.append_nil]
      exact htr
  · rintro H3 ⟨sm3, us, hus, htr⟩
    have e2 : ws2.length = (spots t).length := hws2.1
    rw [e2, List.take_length, pick_spots] at htr
    have sm := t2.trans sm3
    cases e : part t p with
    | none =>
      rw [e] at htr
      have h0 : us = [] := List.length_eq_zero_iff.mp htr.1
      subst h0
      exact ⟨_, rfl, _, .inl ⟨_, SqL.of hus, rfl⟩, iteF (q2 e H3 sm)⟩
    | some c =>
      rw [e] at htr
      obtain ⟨x, hx, hcx⟩ := val_at htr (i := 0) (c := c) rfl
      have hne : us.isEmpty = false := by
        cases us with
        | nil => simp at hx
        | cons a r => rfl
      exact ⟨_, rfl, _, .inl ⟨_, SqL.of hus, rfl⟩, ifT (by rw [hne]; rfl) ⟨_, rfl, L, _, _, x, rfl, rfl, SqL.of hus, atI_nat (j := 0) hx, q1 c x H3 e sm hcx⟩⟩
end
end Gf
namespace Gf
open PySem PySem.Spec PyProof.Rows L2
theorem kit_str_bool : kitB "str" "bool" = some false := by decide +kernel
theorem kit_str_int : kitB "str" "int" = some false := by decide +kernel
theorem kit_str_str : kitB "str" "str" = some true := by decide +kernel
theorem kit_tuple_bool : kitB "tuple" "bool" = some false := by decide +kernel
theorem kit_tuple_int : kitB "tuple" "int" = some false := by decide +kernel
theorem kit_tuple_str : kitB "tuple" "str" = some false := by decide +kernel
theorem kit_tuple_list : kitB "tuple" "list" = some false := by decide +kernel
theorem kit_list_bool : kitB "list" "bool" = some false := by decide +kernel
theorem kit_list_int : kitB "list" "int" = some false := by decide +kernel
theorem kit_list_str : kitB "list" "str" = some false := by decide +kernel
theorem kit_list_tuple : kitB "list" "tuple" = some false := by decide +kernel
theorem kit_list_list : kitB "list" "list" = some true := by decide +kernel
theorem ty_str {K : PySem.W.Frag} {H : Hp} (z : Str) : TyX K H (.str z) (.type "str") := .base (.str z)
theorem ty_lst {K : PySem.W.Frag} {H : Hp} {a : Addr} {xs : List V} (h : H a = some (.lst xs)) : TyX K H (.ref a) (.type "list") := .base (.lst h)
/-- two values hold the same data, n levels deep at most -/
inductive EqAt (H : Hp) : Nat → V → V → Prop where
  | int {n : Nat} (i : Int) : EqAt H (n + 1) (.int i) (.int i)
  | str {n : Nat} (z : Str) : EqAt H (n + 1) (.str z) (.str z)
  | tup {n : Nat} {a b : Addr} {xs ys : List V} (ha : H a = some (.tup xs)) (hb : H b = some (.tup ys)) (hl : xs.length = ys.length) (hf : ys.length ≤ 1000) (h : ∀ (i : Nat) (x y : V), xs[i]? = some x → ys[i]? = some y → EqAt H n x y) : EqAt H (n + 1) (.ref a) (.ref b)
  | lst {n : Nat} {a b : Addr} {xs ys : List V} (ha : H a = some (.lst xs)) (hb : H b = some (.lst ys)) (hl : xs.length = ys.length) (hf : ys.length ≤ 1000) (h : ∀ (i : Nat) (x y : V), xs[i]? = some x → ys[i]? = some y → EqAt H n x y) : EqAt H (n + 1) (.ref a) (.ref b)
theorem EqAt.same {H H' : Hp} {n : Nat} {x y : V} (h : EqAt H n x y) (s : Same H H') : EqAt H' n x y := by
  induction h with
  | int i => exact .int i
  | str z => exact .str z
  | tup ha hb hl hf h ih => exact .tup (s _ _ ha) (s _ _ hb) hl hf ih
  | lst ha hb hl hf h ih => exact .lst (s _ _ ha) (s _ _ hb) hl hf ih
theorem EqAt.pos {H : Hp} {n : Nat} {x y : V} (h : EqAt H n x y) : 0 < n := by cases h <;> omega
/-- the same tree twice -/
theorem TrAt.eq {H : Hp} : ∀ (n : Nat) {t : Tr} {v w : V}, t.size ≤ n → t.size ≤ 500 → TrAt H t v → TrAt H t w → EqAt H (n + 1) v w
  | 0, t, v, w, h, _, _, _ => by
    have := size_pos t
    omega
  | n + 1, t, v, w, h, hz, h1, h2 => by
    obtain ⟨p, ys, rfl, hp, hk⟩ := h1.kids
    obtain ⟨q, zs, rfl, hq, hj⟩ := h2.kids
    have l1 := hk.1
    have l2 := hj.1
    have l3 := sizes_len t.kids
    have l4 := size_eq t
    refine .tup hp hq (by rw [List.length_cons, List.length_cons]; omega) (by rw [List.length_cons]; omega) fun i x y hx hy => ?_
    cases i with
    | zero =>
      cases hx
      cases hy
      exact .int _
    | succ i =>
      rw [List.getElem?_cons_succ] at hx hy
      obtain ⟨c, hc, hcx⟩ := kid_at hk hx
      have lt := kid_lt hc
      exact TrAt.eq n (by omega) (by omega) hcx (hj.2 i c y hc hy)
section
variable {P : Program} {w : World} {K : PySem.W.Frag} {mg : Str → Option Value} {base : Heap} {C1 C2 f1 f2 : Addr}
abbrev sEq : Stmt := topS 34
abbrev nEq : List Str := ["_law_actual", "_law_due", "_law_at"]
theorem scEq : FnScope nEq ["_law_actual", "_law_due"] (defScope sEq) := ⟨rfl, rfl, rfl, by decide +kernel, rfl, by decide +kernel, by decide +kernel⟩
def spEq (n : Nat) : Sp := fun vs H Q _ => ∃ x y : V, vs = [x, y] ∧ EqAt H n x y ∧ ∀ H', Same H H' → Q (.bl true) H'
theorem ok_eq1 {n : Nat} (D : Df K mg "_law_equal" sEq ["_law_actual", "_law_due"]) (T : Bt mg) (Di : Dfn P w K mg base CX0 1 "_law_is_integer" ["_law_actual"] spIsInt) (Dn : Dfn P w K mg base CX0 (n + 1) "_law_equal" ["_law_actual", "_law_due"] (spEq n)) :
    Dfn P w K mg base CX0 (n + 2) "_law_equal" ["_law_actual", "_law_due"] (spEq (n + 1)) := D.dfn fun f fd F => by
  have sc := scEq
  refine F.ok sc (fun vs H Q E h => ?_) (fun cdv A outer s H vs Q E hr h => ?_)
  · obtain ⟨x, y, rfl, _⟩ := h
    rfl
  obtain ⟨x, y, rfl, he, q⟩ := h
  have hr1 := hr.mono (show 1 ≤ n + 1 by omega)
  refine ⟨_, (pss_cons (ps_if (pt_cmpR op_isN (pv 1) pe_non (nomark _)) (pss_one (ps_ret (pe_cmpR op_isN (pv 0) pe_non (nomark _)))) pss_nil) (pss_cons (ps_if (pt_val (pe_callB call_isi (by rfl) T.isi boot_isi (pa_cons (pv 1) (pa_cons (pe_bltn (v := .ty "bool") (by rfl) T.bool boot_bool rfl) pa_nil)))) (pss_one (ps_ret (pe_and (pe_callB call_isi (by rfl) T.isi boot_isi (pa_cons (pv 0) (pa_cons (pe_bltn (v := .ty "bool") (by rfl) T.bool boot_bool rfl) pa_nil))) (pe_one (pe_cmpR op_eq (pv 0) (pv 1) (nomark _)))))) pss_nil) (pss_cons (ps_if (pt_val (pe_callB call_isi (by rfl) T.isi boot_isi (pa_cons (pv 1) (pa_cons (pe_bltn (v := .ty "int") (by rfl) T.int boot_int rfl) pa_nil)))) (pss_one (ps_ret (pe_and (pe_cl Di hr1 (pa_cons (pv 0) pa_nil)) (pe_one (pe_cmpR op_eq (pv 0) (pv 1) (nomark _)))))) pss_nil) (pss_cons (ps_if (pt_val (pe_callB call_isi (by rfl) T.isi boot_isi (pa_cons (pv 1) (pa_cons (pe_bltn (v := .ty "str") (by rfl) T.str boot_str rfl) pa_nil)))) (pss_one (ps_ret (pe_and (pe_callB call_isi (by rfl) T.isi boot_isi (pa_cons (pv 0) (pa_cons (pe_bltn (v := .ty "str") (by rfl) T.str boot_str rfl) pa_nil))) (pe_one (pe_cmpR op_eq (pv 0) (pv 1) (nomark _)))))) pss_nil) (pss_cons (ps_if (PW.pt (pw_and (pt_val (pe_callB call_isi (by rfl) T.isi boot_isi (pa_cons (pv 1) (pa_cons (pe_bltn (v := .ty "tuple") (by rfl) T.tuple boot_tuple rfl) pa_nil)))) (pw_and1 (pt_not (pt_val (pe_callB call_isi (by rfl) T.isi boot_isi (pa_cons (pv 0) (pa_cons (pe_bltn (v := .ty "tuple") (by rfl) T.tuple boot_tuple rfl) pa_nil)))))))) (pss_one (ps_ret pe_bl)) pss_nil) (pss_cons (ps_if (PW.pt (pw_and (pt_val (pe_callB call_isi (by rfl) T.isi boot_isi (pa_cons (pv 1) (pa_cons (pe_bltn (v := .ty "list") (by rfl) T.list boot_list rfl) pa_nil)))) (pw_and1 (pt_not (pt_val (pe_callB call_isi (by rfl) T.isi boot_isi (pa_cons (pv 0) (pa_cons (pe_bltn (v := .ty "list") (by rfl) T.list boot_list rfl) pa_nil)))))))) (pss_one (ps_ret pe_bl)) pss_nil) (pss_cons (ps_if (pt_cmpR op_ne (pe_callB call_len_seq (by rfl) T.len PySem.boot_len (pa_cons (pv 0) pa_nil)) (pe_callB call_len_seq (by rfl) T.len PySem.boot_len (pa_cons (pv 1) pa_nil)) (nomark _)) (pss_one (ps_ret pe_bl)) pss_nil) (pss_one (ps_ret (pe_callB (cr_all rfl) (by rfl) T.all boot_all1 (pa_cons (pe_lc (own := [("_law_at", 2)]) (g := gName 2) (tt := tYes) rfl sc.nd (pi_range1 rfl T.range (pa_cons (pe_callB call_len_seq (by rfl) T.len PySem.boot_len (pa_cons (pv 1) pa_nil)) pa_nil)) (blkOk_by (N := nEq) (sc := defScope sEq) (by decide +kernel)) (fun _ _ _ _ _ => pg_name (i := 2) sc.nd rfl (Or.inl rfl)) (fun _ _ _ _ _ => pts_nil)
      (fun _ _ _ _ _ => (pe_cl Dn hr (pa_cons (pe_ix (r := rIx K) ix_seq (pv 0) (pv 2) (fun _ _ => rfl)) (pa_cons (pe_ix (r := rIx K) ix_seq (pv 1) (pv 2) (fun _ _ => rfl)) pa_nil))))) pa_nil))))))))))), ?_⟩
  generalize hm : n + 1 = m at he
  cases he with
  | @int n' i =>
    refine ⟨_, rfl, rfl, _, rfl, ifF (decide_eq_false fun z => by cases z) ?_⟩
    refine ⟨_, rfl, _, _, _, _, false, rfl, .ty _, ty_int i, kit_ty kit_int_bool, false, rfl, iteF ?_⟩
    refine ⟨_, rfl, _, _, _, _, true, rfl, .ty _, ty_int i, kit_ty kit_int_int, true, rfl, iteT ?_⟩
    refine ⟨_, rfl, i, rfl, true, rfl, iteT ⟨_, rfl, _, rfl, rfl, ?_⟩⟩
    rw [decide_eq_true rfl]
    exact q H (Same.refl _)
  | @str n' z =>
    refine ⟨_, rfl, rfl, _, rfl, ifF (decide_eq_false fun z => by cases z) ?_⟩
    refine ⟨_, rfl, _, _, _, _, false, rfl, .ty _, ty_str z, kit_ty kit_str_bool, false, rfl, iteF ?_⟩
    refine ⟨_, rfl, _, _, _, _, false, rfl, .ty _, ty_str z, kit_ty kit_str_int, false, rfl, iteF ?_⟩
    refine ⟨_, rfl, _, _, _, _, true, rfl, .ty _, ty_str z, kit_ty kit_str_str, true, rfl, iteT ?_⟩
    refine ⟨_, rfl, _, _, _, _, true, rfl, .ty _, ty_str z, kit_ty kit_str_str, true, rfl, iteT ⟨_, rfl, _, rfl, rfl, ?_⟩⟩
    rw [decide_eq_true rfl]
    exact q H (Same.refl _)
  | @tup n' a b xs ys ha hb hl hf hh =>
    obtain rfl : n' = n := by omega
    refine ⟨_, rfl, rfl, _, rfl, ifF (decide_eq_false fun z => by cases z) ?_⟩
    refine ⟨_, rfl, _, _, _, _, false, rfl, .ty _, ty_tup hb, kit_ty kit_tuple_bool, false, rfl, iteF ?_⟩
    refine ⟨_, rfl, _, _, _, _, false, rfl, .ty _, ty_tup hb, kit_ty kit_tuple_int, false, rfl, iteF ?_⟩
    refine ⟨_, rfl, _, _, _, _, false, rfl, .ty _, ty_tup hb, kit_ty kit_tuple_str, false, rfl, iteF ?_⟩
    refine ⟨_, rfl, _, _, _, _, true, rfl, .ty _, ty_tup hb, kit_ty kit_tuple_tuple, true, rfl, iteT ?_⟩
    refine ⟨_, rfl, _, _, _, _, true, rfl, .ty _, ty_tup ha, kit_ty kit_tuple_tuple, true, rfl, iteF ?_⟩
    refine ⟨_, rfl, _, _, _, _, false, rfl, .ty _, ty_tup hb, kit_ty kit_tuple_list, false, rfl, iteF (iteF ?_)⟩
    refine ⟨_, rfl, a, _, rfl, .inr (SqT.of ha), _, rfl, b, _, rfl, .inr (SqT.of hb), rfl, _, rfl, ifF ?_ ?_⟩
    · rw [hl, decide_eq_true rfl]
      rfl
    refine ⟨_, rfl, b, _, rfl, .inr (SqT.of hb), ((ys.length : Nat) : Int), rfl, by omega, by omega, fun L nL => lc_range (lo := 0) (n := ys.length) (fun i H' => Same H H' ∧ H' L = some (.lst ((((List.range ys.length).take i).map fun _ => true).map V.bl))) ⟨same_new nL _, upd_same⟩ ?_ ?_⟩
    · rintro i H' hi ⟨sm, hL⟩
      have hz : ((0 : Int) + (i : Int)) = ((i : Nat) : Int) := by omega
      obtain ⟨y, hy⟩ : ∃ y, ys[i]? = some y := ⟨_, List.getElem?_eq_getElem hi⟩
      obtain ⟨x, hx⟩ : ∃ x, xs[i]? = some x := ⟨_, List.getElem?_eq_getElem (by rw [hl]; exact hi)⟩
      have hri : (List.range ys.length)[i]? = some i := List.getElem?_range hi
      refine ⟨rfl, _, rfl, _, rfl, .inr (.inl ⟨a, xs, _, x, rfl, rfl, SqT.of (sm _ _ ha), at_of hz hx, _, rfl, _, rfl, .inr (.inl ⟨b, ys, _, y, rfl, rfl, SqT.of (sm _ _ hb), at_of hz hy, x, y, rfl, (hh i x y hx hy).same sm, fun H2 s2 => ⟨_, s2 _ _ hL, ?_, same_grown nL (sm.trans s2) _, ?_⟩⟩)⟩)⟩
      · rw [List.length_map, List.length_map, List.length_take, List.length_range]
        exact small1000 (by omega)
      · rw [upd_same, map_take_more _ hri, List.map_append]
        rfl
    · rintro H' ⟨sm, hL⟩
      refine ⟨L, _, rfl, SqL.of hL, ?_⟩
      rw [all_ids]
      exact q H' sm
  | @lst n' a b xs ys ha hb hl hf hh =>
    obtain rfl : n' = n := by omega
    refine ⟨_, rfl, rfl, _, rfl, ifF (decide_eq_false fun z => by cases z) ?_⟩
    refine ⟨_, rfl, _, _, _, _, false, rfl, .ty _, ty_lst hb, kit_ty kit_list_bool, false, rfl, iteF ?_⟩
    refine ⟨_, rfl, _, _, _, _, false, rfl, .ty _, ty_lst hb, kit_ty kit_list_int, false, rfl, iteF ?_⟩
    refine ⟨_, rfl, _, _, _, _, false, rfl, .ty _, ty_lst hb, kit_ty kit_list_str, false, rfl, iteF ?_⟩
    refine ⟨_, rfl, _, _, _, _, false, rfl, .ty _, ty_lst hb, kit_ty kit_list_tuple, false, rfl, iteF (iteF ?_)⟩
    refine ⟨_, rfl, _, _, _, _, true, rfl, .ty _, ty_lst hb, kit_ty kit_list_list, true, rfl, iteT ?_⟩
    refine ⟨_, rfl, _, _, _, _, true, rfl, .ty _, ty_lst ha, kit_ty kit_list_list, true, rfl, iteF ?_⟩
    refine ⟨_, rfl, a, _, rfl, .inl (SqL.of ha), _, rfl, b, _, rfl, .inl (SqL.of hb), rfl, _, rfl, ifF ?_ ?_⟩
    · rw [hl, decide_eq_true rfl]
      rfl
    refine ⟨_, rfl, b, _, rfl, .inl (SqL.of hb), ((ys.length : Nat) : Int), rfl, by omega, by omega, fun L nL => lc_range (lo := 0) (n := ys.length) (fun i H' => Same H H' ∧ H' L = some (.lst ((((List.range ys.length).take i).map fun _ => true).map V.bl))) ⟨same_new nL _, upd_same⟩ ?_ ?_⟩
    · rintro i H' hi ⟨sm, hL⟩
      have hz : ((0 : Int) + (i : Int)) = ((i : Nat) : Int) := by omega
      obtain ⟨y, hy⟩ : ∃ y, ys[i]? = some y := ⟨_, List.getElem?_eq_getElem hi⟩
      obtain ⟨x, hx⟩ : ∃ x, xs[i]? = some x := ⟨_, List.getElem?_eq_getElem (by rw [hl]; exact hi)⟩
      have hri : (List.range ys.length)[i]? = some i := List.getElem?_range hi
      refine ⟨rfl, _, rfl, _, rfl, .inl (⟨a, xs, _, x, rfl, rfl, SqL.of (sm _ _ ha), at_of hz hx, _, rfl, _, rfl, .inl (⟨b, ys, _, y, rfl, rfl, SqL.of (sm _ _ hb), at_of hz hy, x, y, rfl, (hh i x y hx hy).same sm, fun H2 s2 => ⟨_, s2 _ _ hL, ?_, same_grown nL (sm.trans s2) _, ?_⟩⟩)⟩)⟩
      · rw [List.length_map, List.length_map, List.length_take, List.length_range]
        exact small1000 (by omega)
      · rw [upd_same, map_take_more _ hri, List.map_append]
        rfl
    · rintro H' ⟨sm, hL⟩
      refine ⟨L, _, rfl, SqL.of hL, ?_⟩
      rw [all_ids]
      exact q H' sm
theorem ok_eq (D : Df K mg "_law_equal" sEq ["_law_actual", "_law_due"]) (T : Bt mg) (Di : Dfn P w K mg base CX0 1 "_law_is_integer" ["_law_actual"] spIsInt) : ∀ n : Nat, Dfn P w K mg base CX0 (n + 1) "_law_equal" ["_law_actual", "_law_due"] (spEq n)
  | 0 => (D.never fun vs H Q E h => by
    obtain ⟨x, y, _, h0, _⟩ := h
    exact absurd h0.pos (Nat.lt_irrefl _)).mono (Nat.zero_le _)
  | n + 1 => ok_eq1 D T Di (ok_eq D T Di n)
end
end Gf
namespace Gf
open PySem PySem.Spec PyProof.Rows L2
/-- what a graft is to give -/
inductive Due where
  | tree (t : Tr)
  | large
  | no
def due (t s : Tr) (p : List Nat) : Due := match part t p, part s p with
  | some _, some b => if (put t p b).size ≤ 15 then .tree (put t p b) else .large
  | _, _ => .no
theorem due_tree {t s a b : Tr} {p : List Nat} (ha : part t p = some a) (hb : part s p = some b) (h : (put t p b).size ≤ 15) : due t s p = .tree (put t p b) := by
  unfold due
  rw [ha, hb]
  exact if_pos h
theorem due_large {t s a b : Tr} {p : List Nat} (ha : part t p = some a) (hb : part s p = some b) (h : ¬ (put t p b).size ≤ 15) : due t s p = .large := by
  unfold due
  rw [ha, hb]
  exact if_neg h
theorem due_no1 {t s : Tr} {p : List Nat} (ha : part t p = none) : due t s p = .no := by
  unfold due
  rw [ha]
theorem due_no2 {t s : Tr} {p : List Nat} (hb : part s p = none) : due t s p = .no := by
  unfold due
  rw [hb]
  cases part t p <;> rfl
def DueAt (H : Hp) : Due → V → Prop
  | .tree t, v => TrAt H t v
  | .large, v => ∃ l, v = .ref l ∧ H l = some (.lst [.str "large", .str "tree"])
  | .no, v => ∃ l, v = .ref l ∧ H l = some (.lst [.str "not", .str "place"])
theorem DueAt.same {H H' : Hp} {d : Due} {v : V} (h : DueAt H d v) (s : Same H H') : DueAt H' d v := by
  cases d with
  | tree t => exact TrAt.same h s
  | large => obtain ⟨l, e, q⟩ := h; exact ⟨l, e, s _ _ q⟩
  | no => obtain ⟨l, e, q⟩ := h; exact ⟨l, e, s _ _ q⟩
theorem two_at {x y z : V} {i : Nat} (h : [x, y][i]? = some z) : (i = 0 ∧ x = z) ∨ (i = 1 ∧ y = z) := by
  cases i with
  | zero => exact .inl ⟨rfl, Option.some.inj h⟩
  | succ i =>
    cases i with
    | zero => exact .inr ⟨rfl, Option.some.inj h⟩
    | succ i => simp at h
theorem two_eq {H : Hp} {n : Nat} {l m : Addr} {a b c d : V} (hl : H l = some (.lst [a, b])) (hm : H m = some (.lst [c, d])) (h1 : EqAt H n a c) (h2 : EqAt H n b d) : EqAt H (n + 1) (.ref l) (.ref m) := by
  refine .lst hl hm rfl (by show 2 ≤ 1000; omega) fun i x y hx hy => ?_
  rcases two_at hx with ⟨e1, e2⟩ | ⟨e1, e2⟩
  · rcases two_at hy with ⟨g1, g2⟩ | ⟨g1, g2⟩
    · rw [← e2, ← g2]; exact h1
    · omega
  · rcases two_at hy with ⟨g1, g2⟩ | ⟨g1, g2⟩
    · omega
    · rw [← e2, ← g2]; exact h2
theorem DueAt.eq {H : Hp} {d : Due} {v w : V} (h : DueAt H d v) (h' : DueAt H d w) (hz : ∀ t, d = .tree t → t.size ≤ 15) : EqAt H 16 v w := by
  cases d with
  | tree t =>
    have z := hz t rfl
    exact TrAt.eq 15 z (by omega) h h'
  | large =>
    obtain ⟨l, rfl, e⟩ := h
    obtain ⟨m, rfl, g⟩ := h'
    exact two_eq e g (.str (n := 14) _) (.str (n := 14) _)
  | no =>
    obtain ⟨l, rfl, e⟩ := h
    obtain ⟨m, rfl, g⟩ := h'
    exact two_eq e g (.str (n := 14) _) (.str (n := 14) _)
section
variable {X : Cx} {CX : CXT} {k : Nat} {x : Str} {p pos : Pos} {e : Expr} {es : List Expr} {t : TA} {ps : List Str} {sp : Sp} {E : L2.St → XK}
theorem pe_clS (D : Dfn X.prog X.w X.K X.mg X.base CX k x ps sp) (hx : ∀ σ, PassesAt CX X σ (E σ)) (hr : Room k X.A) (ha : PA X (e :: es) t) (hg : Gl X x := by rfl) (hdb : (x == ("__debug__" : Str)) = false := by decide)
    (he : starEach (e :: es) X.env = (false, eval e X.env) :: starEach es X.env := by rfl) (hpl : (backTo pos (starEach es X.env)).any (·.1) = false := by rfl) : PE X (.Call (.Name x p) (e :: es) [] pos) (tCallS sp E t) := by
  obtain ⟨f, fd, F, g, kp, b⟩ := D.ex
  exact pe_callS F hr hg g kp b hx ha hdb he hpl
end
theorem lookup_one (f : Str) (v : V) : List.lookup f [(f, v)] = some v := by simp [List.lookup]
section
variable {P : Program} {w : World} {K : PySem.W.Frag} {mg : Str → Option Value} {base : Heap} {C1 C2 f1 f2 : Addr}
abbrev sTold : Stmt := topS 42
abbrev nTold : List Str := ["_law_arities_here", "_law_first", "_law_second", "_law_place", "problem"]
theorem scTold : FnScope nTold ["_law_arities_here", "_law_first", "_law_second", "_law_place"] (defScope sTold) := ⟨rfl, rfl, rfl, by decide +kernel, rfl, by decide +kernel, by decide +kernel⟩
def spTold : Sp := fun vs H Q _ => ∃ (ar : List Nat) (t s : Tr) (p : List Nat) (u v w y : V), vs = [u, v, w, y] ∧ PlAt H ar u ∧ ArOk ar ∧ TrAt H t v ∧ WF ar t ∧ t.size ≤ 15 ∧ TrAt H s w ∧ WF ar s ∧ s.size ≤ 15 ∧ PlAt H p y ∧ PlOk p ∧
  ∀ H' r, Same H H' → DueAt H' (due t s p) r → Q r H'
def tSuite (C : Addr) (word fld : Str) : Addr → Value → Option Addr → TS := fun a cls d => tRet (tLst (tCons (tC (.str word)) (tCons (tXf a cls d C fld (tVar 4)) tNil)))
theorem ok_told (D : Df K mg "_law_told" sTold ["_law_arities_here", "_law_first", "_law_second", "_law_place"]) (T1 : ExT K mg "TooLarge" "what" "TooLarge.__init__" sIn1 C1 f1) (T2 : ExT K mg "NotPossible" "why" "NotPossible.__init__" sIn2 C2 f2) (cross : PySem.W.exmOne K (.ref C2) (.ref C1) = some false)
    (Dg : Dfn P w K mg base (L2.CX P w) 32 "graft" ["arities", "first", "second", "place"] (spGraft C1 C2)) : Dfn P w K mg base CX0 33 "_law_told" ["_law_arities_here", "_law_first", "_law_second", "_law_place"] spTold := D.dfn fun f fd F => by
  have sc := scTold
  refine F.ok sc (fun vs H Q E h => ?_) (fun cdv A outer s0 H vs Q E hr h => ?_)
  · obtain ⟨ar, t, s, p, u, v, w, y, rfl, _⟩ := h
    rfl
  obtain ⟨ar, t, s, p, u, v, v2, y, rfl, hu, ok, ht, wt, zt, hs, ws, zs, hy, okp, q⟩ := h
  refine ⟨_, pss_one (ps_try_clauses (Wout := fun _ _ _ _ => False) (l := [⟨.ref C1, 4, tSuite C1 "large" "what"⟩, ⟨.ref C2, 4, tSuite C2 "not" "why"⟩]) (tb := fun W => tRet (tCallS (spGraft C1 C2) (WE W) (tCons (tVar 0) (tCons (tVar 1) (tCons (tVar 2) (tCons (tVar 3) tNil)))))) rfl rfl sc.nd takes0
    (fun W pn xe tk _ => pss_one (ps_ret (by exact (pe_clS Dg (fun σ => passAt tk σ) hr (pa_cons (pv 0) (pa_cons (pv 1) (pa_cons (pv 2) (pa_cons (pv 3) pa_nil))))))))
    (.cons rfl rfl ⟨rfl, by decide, Or.inl T1.g⟩ (fun a oe cls d pn hz hf => by exact (pss_one (ps_ret (pe_lst (pa_cons pe_str (pa_cons (pe_xf (X := (cxOf CX0 P w K mg base nTold "_law_told" (defScope sTold) f cdv A outer s0 H E).nox) T1.f T1.noF hz hf (pv 4)) pa_nil))))))
      (.cons rfl rfl ⟨rfl, by decide, Or.inl T2.g⟩ (fun a oe cls d pn hz hf => by exact (pss_one (ps_ret (pe_lst (pa_cons pe_str (pa_cons (pe_xf (X := (cxOf CX0 P w K mg base nTold "_law_told" (defScope sTold) f cdv A outer s0 H E).nox) T2.f T2.noF hz hf (pv 4)) pa_nil)))))) .nil))), ?_⟩
  refine ⟨_, rfl, _, rfl, _, rfl, _, rfl, ar, t, s, p, u, v, v2, y, rfl, hu, ok, ht, wt, zt, hs, ws, zs, hy, okp, fun a b ha hb z H1 r s1 hr1 => ?_, fun a b ha hb z d H1 s1 e1 => ?_, fun z d H1 s1 e1 => ?_⟩
  · exact q H1 r s1 (by rw [due_tree ha hb z]; exact hr1)
  · refine ⟨true, T1.te, fun _ a0 n0 => ?_, fun z => (by cases z)⟩
    refine ⟨_, rfl, rfl, rfl, d, _, _, rfl, e1, lookup_one _ _, (by show 2 ≤ sizeLine; exact small (by omega)), fun l nl => ?_⟩
    refine q _ _ (same_grown (s1.free nl) s1 _) ?_
    rw [due_large ha hb z]
    exact ⟨l, rfl, upd_same⟩
  · refine ⟨false, cross, fun z => (by cases z), fun _ => ⟨true, T2.te, fun _ a0 n0 => ?_, fun z => (by cases z)⟩⟩
    refine ⟨_, rfl, rfl, rfl, d, _, _, rfl, e1, lookup_one _ _, (by show 2 ≤ sizeLine; exact small (by omega)), fun l nl => ?_⟩
    refine q _ _ (same_grown (s1.free nl) s1 _) ?_
    rw [show due t s p = .no from z.elim due_no1 due_no2]
    exact ⟨l, rfl, upd_same⟩
end
end Gf
namespace Gf
open PySem PySem.Spec PyProof.Rows L2
/-- an expression with a word behind it: what follows is shown once -/
theorem pe_mid {X : Cx} {e : Expr} {t : TE} (h : PE X e t) : PE X e (fun σ H Q => ∃ M : V → Hp → Prop, t σ H M ∧ ∀ v H', M v H' → Q v H') :=
  ⟨fun pins s σ H Q I ⟨M, hm, hq⟩ => thn (h.run pins s σ H M I hm) fun u s1 ⟨v, H1, I1, r1, q1⟩ => ⟨v, H1, I1, r1, hq v H1 q1⟩⟩
def OptAt (H : Hp) : Option Tr → V → Prop
  | some c, v => TrAt H c v
  | none, v => v = .non
theorem OptAt.same {H H' : Hp} {o : Option Tr} {v : V} (h : OptAt H o v) (s : Same H H') : OptAt H' o v := by
  cases o with
  | none => exact h
  | some c => exact TrAt.same h s
theorem due_inv {t s T : Tr} {p : List Nat} (h : due t s p = .tree T) : ∃ a b, part t p = some a ∧ part s p = some b ∧ T = put t p b ∧ (put t p b).size ≤ 15 := by
  unfold due at h
  cases ha : part t p with
  | none => rw [ha] at h; cases h
  | some a =>
    cases hb : part s p with
    | none => rw [ha, hb] at h; cases h
    | some b =>
      rw [ha, hb] at h
      by_cases c : (put t p b).size ≤ 15
      · have e : (if (put t p b).size ≤ 15 then Due.tree (put t p b) else .large) = .tree T := h
        rw [if_pos c] at e
        injection e with e1
        exact ⟨a, b, rfl, rfl, e1.symm, c⟩
      · have e : (if (put t p b).size ≤ 15 then Due.tree (put t p b) else .large) = .tree T := h
        rw [if_neg c] at e
        cases e
/-- a place that one of both trees has -/
def Good (H : Hp) (t s : Tr) (v : V) : Prop := ∃ p, PlAt H p v ∧ ((∃ a, part t p = some a) ∨ ∃ a, part s p = some a)
theorem Good.mono {H H' : Hp} {t s : Tr} {v : V} (h : Good H t s v) (m : Tups H H') : Good H' t s v := by
  obtain ⟨p, h1, h2⟩ := h
  exact ⟨p, h1.mono m, h2⟩
theorem placeOk {ar : List Nat} {t a : Tr} {p : List Nat} (ok : ArOk ar) (w : WF ar t) (z : t.size ≤ 15) (h : part t p = some a) : PlOk p := by
  have l := part_len h
  have q := size_pos a
  exact ⟨by omega, steps_of ok.le2 w h⟩
theorem plDs_lay : ∀ ps : List (List Nat), PyData.canLayAll0 (ps.map plD) = true
  | [] => by simp [PyData.canLayAll0]
  | p :: ps => by simp [PyData.canLayAll0, plD_lay p, plDs_lay ps]
theorem plDs_depth : ∀ ps : List (List Nat), PyData.depthAll (ps.map plD) ≤ 2
  | [] => by simp [PyData.depthAll]
  | p :: ps => by
    have h1 := plDs_depth ps
    have h2 := plD_depth p
    simp only [List.map_cons, PyData.depthAll]
    omega
theorem plDs_shaped (ps : List (List Nat)) : SeqAt.shaped (.list (ps.map plD)) = true := by
  have h1 := plDs_depth ps
  have h2 : PyData.depth (.list (ps.map plD)) ≤ 64 := by
    simp only [PyData.depth]
    omega
  show (PyData.canLay0 (.list (ps.map plD)) && decide (PyData.depth (.list (ps.map plD)) ≤ 64)) = true
  rw [Bool.and_eq_true]
  exact ⟨by simp only [PyData.canLay0]; exact plDs_lay ps, decide_eq_true h2⟩
theorem plDs_at {K : PySem.W.Frag} {H : Hp} : ∀ {ps : List (List Nat)} {vs : List V}, Al (PlAt H) ps vs → DpAll K H vs (ps.map plD)
  | [], vs, h => by
    have e : vs = [] := List.length_eq_zero_iff.mp h.1
    subst e
    exact .nil
  | p :: ps, [], h => by
    have e := h.1
    simp at e
  | p :: ps, v :: vs, h => by
    refine .cons (h.2 0 p v rfl rfl).dp (plDs_at ⟨?_, fun i q x a b => h.2 (i + 1) q x a b⟩)
    have e := h.1
    simp only [List.length_cons] at e
    omega
theorem few_spots {t : Tr} (h : t.size ≤ 15) : (spots t).length ≤ 15 := by rw [spots_len]; exact h
section
variable {P : Program} {w : World} {K : PySem.W.Frag} {mg : Str → Option Value} {base : Heap} {C1 C2 f1 f2 : Addr}
def spLPart2 (n : Nat) : Sp := fun vs H Q _ => ∃ (t : Tr) (p : List Nat) (v u : V), vs = [v, u] ∧ TrAt H t v ∧ PlAt H p u ∧ t.size ≤ n ∧ t.size ≤ 500 ∧ ∀ x H', Same H H' → OptAt H' (part t p) x → Q x H'
theorem lPart2 {n k : Nat} (D : Dfn P w K mg base CX0 k "_law_part" ["_law_tree_here", "_law_place"] (spLPart n)) : Dfn P w K mg base CX0 k "_law_part" ["_law_tree_here", "_law_place"] (spLPart2 n) := D.imp fun vs H Q E h => by
  obtain ⟨t, p, v, u, rfl, h1, h2, h3, h4, q⟩ := h
  exact ⟨t, p, v, u, rfl, h1, h2, h3, h4, fun c x H' e s1 hx => q x H' s1 (by rw [e]; exact hx), fun e H' s1 => q .non H' s1 (by rw [e]; rfl)⟩
abbrev sLaw : Stmt := topS 43
abbrev nLaw : List Str := ["_law_script", "_law_stream_here", "_law_arities_here", "_law_most", "_law_first", "_law_second", "_law_place", "_law_below", "_law_places", "_law_other", "_law_due", "_law_near", "_law_depth"]
theorem scLaw : FnScope nLaw ["_law_script"] (defScope sLaw) := ⟨rfl, rfl, rfl, by decide +kernel, rfl, by decide +kernel, by decide +kernel⟩
def spLaw (K : PySem.W.Frag) : Sp := fun vs H Q _ => ∃ (a : Addr) (ns : List Int), vs = [.ref a] ∧ SqL K H a (ns.map V.int) ∧ ∀ H', Q (.bl true) H'
theorem fn_law {f : Addr} {fd : FuncData} (F : Fun K "law" "law" sLaw f fd) (T : Bt mg)
    (Dst : Dfn P w K mg base CX0 1 "_law_stream" ["_law_script"] (spStream K)) (Dnx : Dfn P w K mg base CX0 1 "_law_next" ["_law_stream_here", "_law_many"] spNext) (Dpi : Dfn P w K mg base CX0 2 "_law_pick" ["_law_stream_here", "_law_rows"] spPick) (Dar : Dfn P w K mg base CX0 3 "_law_arities" ["_law_stream_here"] spArs)
    (Dtr : Dfn P w K mg base CX0 17 "_law_tree" ["_law_stream_here", "_law_arities_here", "_law_nodes"] (spLTree 15)) (Dsz : Dfn P w K mg base CX0 30 "_law_size" ["_law_tree_here"] (spLSize 30)) (Dsp : Dfn P w K mg base CX0 15 "_law_spots" ["_law_tree_here"] (spSpots 15))
    (Dpa : Dfn P w K mg base CX0 16 "_law_part" ["_law_tree_here", "_law_place"] (spLPart2 15)) (Dpu : Dfn P w K mg base CX0 16 "_law_put" ["_law_tree_here", "_law_place", "_law_below"] (spLPut 16)) (Dto : Dfn P w K mg base CX0 33 "_law_told" ["_law_arities_here", "_law_first", "_law_second", "_law_place"] spTold)
    (Deq : Dfn P w K mg base CX0 18 "_law_equal" ["_law_actual", "_law_due"] (spEq 17)) (Dal : Dfn P w K mg base CX0 18 "are_equal_along" ["arities", "first", "second", "place", "depth"] spEqAl) (Det : Dfn P w K mg base CX0 17 "are_equal_to" ["arities", "first", "second", "depth"] spEqTo)
    (Dpf : Dfn P w K mg base CX0 4 "part" ["arities", "tree", "place"] spPartF) : FnOk P w K mg base CX0 34 f fd ["_law_script"] (spLaw K) := by
  have sc := scLaw
  refine F.ok sc (fun vs H Q E h => ?_) (fun cdv A outer s0 H vs Q E hr h => ?_)
  · obtain ⟨a, ns, rfl, _⟩ := h
    rfl
  obtain ⟨a, ns, rfl, hS, q⟩ := h
  have hr1 := hr.mono (show 1 ≤ 33 by omega)
  have hr2 := hr.mono (show 2 ≤ 33 by omega)
  have hr3 := hr.mono (show 3 ≤ 33 by omega)
  have hr4 := hr.mono (show 4 ≤ 33 by omega)
  have hr15 := hr.mono (show 15 ≤ 33 by omega)
  have hr16 := hr.mono (show 16 ≤ 33 by omega)
  have hr17 := hr.mono (show 17 ≤ 33 by omega)
  have hr18 := hr.mono (show 18 ≤ 33 by omega)
  have hr30 := hr.mono (show 30 ≤ 33 by omega)
  have hu65 : (A.deeper (envOfC "law" (defScope sLaw) s0.heap.objs.size f cdv)).units + 65 < cLine := by
    have := hr.un
    omega
  refine ⟨_, (pss_cons (ps_set (i := 1) sc.nd rfl (Or.inl rfl) (pe_cl Dst hr1 (pa_cons (pv 0) pa_nil))) (pss_cons (ps_set (i := 2) sc.nd rfl (Or.inl rfl) (pe_cl Dar hr3 (pa_cons (pv 1) pa_nil))) (pss_cons (ps_set (i := 3) sc.nd rfl (Or.inl rfl) (pe_ix (r := rIxL K) ix_list (pe_lst (pa_cons pe_int (pa_cons pe_int pa_nil))) (pe_cl Dnx hr1 (pa_cons (pv 1) (pa_cons pe_int pa_nil))) (fun _ _ => rfl))) (pss_cons (ps_set (i := 4) sc.nd rfl (Or.inl rfl) (pe_cl Dtr hr17 (pa_cons (pv 1) (pa_cons (pv 2) (pa_cons (pv 3) pa_nil))))) (pss_cons (ps_set (i := 5) sc.nd rfl (Or.inl rfl) (pe_cl Dtr hr17 (pa_cons (pv 1) (pa_cons (pv 2) (pa_cons (pv 3) pa_nil))))) (Evl.pss_cut (ps_if (pt_cmpR op_eq (pe_cl Dnx hr1 (pa_cons (pv 1) (pa_cons pe_int pa_nil))) pe_int (nomark _)) (pss_cons (ps_set (i := 5) sc.nd rfl (Or.inl rfl) (pe_cl Dpu hr16 (pa_cons (pv 4) (pa_cons (pe_ix (r := rIxT K) ix_tup (pe_cl Dpi hr2 (pa_cons (pv 1) (pa_cons (pe_cl Dsp hr15 (pa_cons (pv 4) pa_nil)) pa_nil))) pe_int (fun _ _ => rfl)) (pa_cons (pv 5) pa_nil))))) (pss_one (ps_if (pt_cmpR op_gt (pe_cl Dsz hr30 (pa_cons (pv 5) pa_nil)) pe_int (nomark _)) (pss_one (ps_set (i := 5) sc.nd rfl (Or.inl rfl) (pv 4))) pss_nil))) pss_nil) (pss_cons (ps_set (i := 8) sc.nd rfl (Or.inr rfl) (pe_lc (own := [("_law_place", 6), ("_law_below", 7)]) (g := gTup K 2 (gCons (gName 6) (gCons (gName 7) gNil))) (tt := tYes) rfl sc.nd (pi_list (pe_cl Dsp hr15 (pa_cons (pv 4) pa_nil))) (blkOk_by (N := nLaw) (sc := defScope sLaw) (by decide +kernel))
      (fun _ _ _ _ _ => pg_tup rfl (pgs_cons (pg_name (i := 6) sc.nd rfl (Or.inl rfl)) (pgs_cons (pg_name (i := 7) sc.nd rfl (Or.inl rfl)) pgs_nil))) (fun _ _ _ _ _ => pts_nil) (fun _ _ _ _ _ => pv 6))) (pss_cons (ps_for PassesOwn.never rfl (pi_list (pe_op (r := rCat) op_cat (pv 8) (pe_lc (own := [("_law_place", 6), ("_law_below", 7)]) (g := gTup K 2 (gCons (gName 6) (gCons (gName 7) gNil))) rfl sc.nd (pi_list (pe_cl Dsp hr15 (pa_cons (pv 5) pa_nil))) (blkOk_by (N := nLaw) (sc := defScope sLaw) (by decide +kernel))
      (fun _ _ _ _ _ => pg_tup rfl (pgs_cons (pg_name (i := 6) sc.nd rfl (Or.inl rfl)) (pgs_cons (pg_name (i := 7) sc.nd rfl (Or.inl rfl)) pgs_nil))) (fun _ _ _ _ _ => pts_one (pt_cmpR (r := rNotInD K) (op_notInD hu65) (pv 6) (pv 8) (by rfl))) (fun _ _ _ _ _ => pv 6)))) (pg_name (i := 6) sc.nd rfl (Or.inl rfl)) (pss_cons (ps_set (i := 7) sc.nd rfl (Or.inl rfl) (pe_cl Dpa hr16 (pa_cons (pv 4) (pa_cons (pv 6) pa_nil)))) (pss_cons (ps_set (i := 9) sc.nd rfl (Or.inl rfl) (pe_cl Dpa hr16 (pa_cons (pv 5) (pa_cons (pv 6) pa_nil)))) (pss_cons (ps_set (i := 10) sc.nd rfl (Or.inl rfl) (pe_lst (pa_cons pe_str (pa_cons pe_str pa_nil)))) (Evl.pss_cut (ps_if (PW.pt (pw_and (pt_cmpR op_notN (pv 7) pe_non (nomark _)) (pw_and1 (pt_cmpR op_notN (pv 9) pe_non (nomark _))))) (pss_cons (ps_set (i := 10) sc.nd rfl (Or.inl rfl) (pe_cl Dpu hr16 (pa_cons (pv 4) (pa_cons (pv 6) (pa_cons (pv 9) pa_nil))))) (pss_cons (ps_if (pt_cmpR op_ne (pe_op op_add (pe_cl Dsz hr30 (pa_cons (pv 10) pa_nil)) (pe_cl Dsz hr30 (pa_cons (pe_cl Dpu hr16 (pa_cons (pv 5) (pa_cons (pv 6) (pa_cons (pv 7) pa_nil)))) pa_nil))) (pe_op op_add (pe_cl Dsz hr30 (pa_cons (pv 4) pa_nil)) (pe_cl Dsz hr30 (pa_cons (pv 5) pa_nil))) (nomark _)) (pss_one (ps_ret pe_bl)) pss_nil) (pss_one (ps_set (i := 10) sc.nd rfl (Or.inl rfl) (pe_ifExp (pt_cmpR op_le (pe_cl Dsz hr30 (pa_cons (pv 10) pa_nil)) pe_int (nomark _)) (pv 10) (pe_lst (pa_cons pe_str (pa_cons pe_str pa_nil)))))))) pss_nil) (pss_cons (ps_set (i := 11) sc.nd rfl (Or.inl rfl) (pe_lst (pa_cons (pe_cl Dto hr (pa_cons (pv 2) (pa_cons (pv 4) (pa_cons (pv 5) (pa_cons (pv 6) pa_nil))))) (pa_cons (pe_cl Dto hr (pa_cons (pv 2) (pa_cons (pv 4) (pa_cons (pv 4) (pa_cons (pv 6) pa_nil))))) pa_nil)))) (pss_cons (ps_if (pt_not (pt_val (pe_cl Deq hr18 (pa_cons (pv 11) (pa_cons (pe_lst (pa_cons (pv 10) (pa_cons (pe_mid (pe_ifExp (pt_cmpR op_isN (pv 7) pe_non (nomark _)) (pe_lst (pa_cons pe_str (pa_cons pe_str pa_nil))) (pv 4))) pa_nil))) pa_nil))))) (pss_one (ps_ret pe_bl)) pss_nil) (pss_cons (ps_set (i := 12) sc.nd rfl (Or.inl rfl) (pe_op op_add pe_int (pe_cl Dnx hr1 (pa_cons (pv 1) (pa_cons pe_int pa_nil))))) (pss_one (ps_if (PW.pt (pw_and (pt_val (pe_callB call_isi (by rfl) T.isi boot_isi (pa_cons (pv 10) (pa_cons (pe_bltn (v := .ty "tuple") (by rfl) T.tuple boot_tuple rfl) pa_nil)))) (pw_and (pt_cmpR (r := rNeD K) (op_neD hr.units) (pv 6) (pe_tup pa_nil) (nomark _)) (pw_and1 (pt_val (pe_cl Dal hr18 (pa_cons (pv 2) (pa_cons (pv 4) (pa_cons (pv 5) (pa_cons (pv 6) (pa_cons (pv 12) pa_nil))))))))))) (pss_one (ps_if (PW.pt (pw_or (pt_not (pt_val (pe_cl Det hr17 (pa_cons (pv 2) (pa_cons (pe_cl Dpf hr4 (pa_cons (pv 2) (pa_cons (pv 4) (pa_cons (pv 6) pa_nil)))) (pa_cons (pe_cl Dpf hr4 (pa_cons (pv 2) (pa_cons (pv 5) (pa_cons (pv 6) pa_nil)))) (pa_cons (pe_op op_sub (pv 12) pe_int) pa_nil))))))) (pw_or1 (pt_not (pt_val (pe_cl Dal hr18 (pa_cons (pv 2) (pa_cons (pv 4) (pa_cons (pv 10) (pa_cons (pv 6) (pa_cons (pv 12) pa_nil))))))))))) (pss_one (ps_ret pe_bl)) pss_nil)) pss_nil)))))))))) (pss_one (ps_ret pe_bl)))))))))), ?_⟩
  -- the drawn things
  refine ⟨_, rfl, a, ns, rfl, hS, fun H1 st s1 hst1 => ?_⟩
  refine ⟨_, rfl, st, rfl, hst1, fun ar av H2 hav ok lf k2 hst2 => ?_⟩
  obtain ⟨aa, rfl, haa⟩ := hav
  refine ⟨(by show 2 ≤ sizeLine; exact small (by omega)), fun ml nml => ?_⟩
  have sml := same_new nml (.lst [.int 10, .int 15])
  refine ⟨_, rfl, st, 2, rfl, hst2.same sml, by omega, by omega, fun d H3 hd k3 hst3 => ?_⟩
  have nms : ml ≠ st := fun z => by
    obtain ⟨l, ns', c, k, h1, _⟩ := hst2
    rw [z, h1] at nml
    cases nml
  obtain ⟨m, hm, m1, m15⟩ : ∃ m : Nat, ([V.int 10, V.int 15] : List V)[d]? = some (nv m) ∧ 1 ≤ m ∧ m ≤ 15 := by
    have c : d = 0 ∨ d = 1 := by omega
    rcases c with rfl | rfl
    · exact ⟨10, rfl, by omega, by omega⟩
    · exact ⟨15, rfl, by omega, by omega⟩
  refine ⟨ml, _, _, nv m, rfl, rfl, SqL.of (k3 _ _ nms upd_same), atI_nat hm, ?_⟩
  have haa3 := (hst2.same sml).tups k3 _ _ (sml _ _ haa)
  refine ⟨_, rfl, _, rfl, _, rfl, st, aa, ar, m, rfl, hst3, haa3, ok, lf, m1, m15, m15, fun t tv H4 wt zt ht k4 hst4 => ?_⟩
  have haa4 := hst3.tups k4 _ _ haa3
  refine ⟨_, rfl, _, rfl, _, rfl, st, aa, ar, m, rfl, hst4, haa4, ok, lf, m1, m15, m15, fun s5 sv5 H5 ws5 zs5 hs5 k5 hst5 => ?_⟩
  have haa5 := hst4.tups k5 _ _ haa4
  have ht5 := ht.mono (hst4.tups k5)
  have t15 : t.size ≤ 15 := by omega
  -- the second one, in many scripts the first one with another part
  refine ⟨fun σ H' => Keep st H5 H' ∧ StAt H' st ∧ ∃ (s : Tr) (sv : V), TrAt H' s sv ∧ WF ar s ∧ s.size ≤ 15 ∧ σ = [some (.ref a), some (.ref st), some (.ref aa), some (nv m), some tv, some sv, none, none, none, none, none, none, none], ?_, ?_⟩
  · refine ⟨_, rfl, st, 2, rfl, hst5, by omega, by omega, fun d2 H6 hd2 k6 hst6 => ⟨rfl, _, rfl, ite2 (fun z => ?_) (fun z => ⟨k6, hst6, s5, sv5, hs5.mono (hst5.tups k6), ws5, by omega, rfl⟩)⟩⟩
    have ht6 := ht5.mono (hst5.tups k6)
    refine ⟨_, rfl, _, rfl, _, rfl, t, tv, rfl, ht6, t15, by omega, fun H7 l7 ws7 s7 nl7 hl7 hws7 => ?_⟩
    have hst7 := hst6.same s7
    have ne7 : l7 ≠ st := fun z => by
      obtain ⟨l, ns', c, k, h1, _⟩ := hst6
      rw [z, h1] at nl7
      cases nl7
    refine ⟨st, l7, ws7, rfl, hst7, hl7, ne7, ?_, ?_, fun i x H8 hx k8 hst8 => ?_⟩
    · rw [hws7.1, spots_len]
      exact size_pos t
    · have := few_spots t15
      rw [hws7.1]
      omega
    obtain ⟨pr, hpr, hsp⟩ := Al.get hws7 hx
    obtain ⟨b, a2, x2, rfl, hb, ha2, hx2⟩ := hsp.mono (hst7.tups k8)
    have hpart := spots_part (List.mem_of_getElem? hpr)
    have pl := part_len hpart
    have k68 : Keep st H6 H8 := (Keep.of s7).trans k8
    have tu8 := hst6.tups k68
    have ht8 := ht6.mono tu8
    refine ⟨b, _, _, _, rfl, rfl, SqT.of hb, atI_nat (j := 0) rfl, _, rfl, t, s5, pr.2, pr.1, _, _, _, rfl, ht8, ⟨a2, rfl, ha2⟩, hs5.mono ((hst5.tups k6).trans tu8), hpart, by have := size_pos pr.2; omega, by omega, fun H9 r s9 hr9 => ?_⟩
    have szp := size_put s5 hpart
    have k69 := k6.trans (k68.trans (Keep.of s9))
    refine ⟨_, rfl, put t pr.1 s5, r, rfl, hr9, by omega, by omega, fun H10 s10 => ⟨_, _, rfl, rfl, _, rfl, ite2 (fun z2 => ?_) (fun z2 => ?_)⟩⟩
    · exact ⟨_, rfl, k69.trans (Keep.of s10), (hst8.same s9).same s10, t, tv, (ht8.same s9).same s10, wt, t15, rfl⟩
    · have z3 : ¬ ((15 : Int) < (((put t pr.1 s5).size : Nat) : Int)) := of_decide_eq_false (Bool.eq_false_iff.mpr z2)
      exact ⟨k69.trans (Keep.of s10), (hst8.same s9).same s10, put t pr.1 s5, r, hr9.same s10, wt.put ws5 hpart, by omega, rfl⟩
  rintro σ H6 ⟨k6, hst6, s, sv, hs6, ws, zs, rfl⟩
  have tu6 := hst5.tups k6
  have ht6 := ht5.mono tu6
  have haa6 := tu6 _ _ haa5
  -- the places of the first one
  refine ⟨_, rfl, t, tv, rfl, ht6, t15, by omega, fun H7 l7 ws7 s7 nl7 hl7 hws7 => ⟨l7, rfl, ⟨_, SqL.of hl7⟩, fun L1 nL1 => lc_list (K := K) (a := l7) (xs := ws7) (fun j H' => Same H7 H' ∧ ∃ us, H' L1 = some (.lst us) ∧ Al (PlAt H') (((spots t).take j).map Prod.fst) us) ⟨same_new nL1 _, [], upd_same, Al.nil⟩ (fun j H' _ h => SqL.of (h.1 _ _ hl7)) ?_ ?_⟩⟩
  · rintro j y H' hy ⟨sm, us, hus, hal⟩
    obtain ⟨pr, hpr, hb⟩ := Al.get hws7 hy
    obtain ⟨b, a2, z, rfl, hbb, ha2, hz3⟩ := hb.mono (Tups.of sm)
    have tl := tups_upd hus (.lst (us ++ [.ref a2]))
    refine ⟨b, _, rfl, SqT.of hbb, rfl, _, _, rfl, _, _, rfl, rfl, rfl, _, rfl, us, hus, ?_, same_grown nL1 sm _, _, upd_same, ?_⟩
    · have h1 := hal.1
      have h2 := few_spots t15
      rw [List.length_map, List.length_take] at h1
      exact small1000 (by omega)
    · rw [map_take_more _ hpr]
      exact Al.app (Al.imp hal fun p v z => z.mono tl) (Al.one ⟨a2, rfl, tl _ _ ha2⟩)
  rintro H8 ⟨s8, us1, hus1, hal1⟩
  rw [hws7.1, List.take_length] at hal1
  have s68 := s7.trans s8
  have hst8 := hst6.same s68
  have ht8 := ht6.same s68
  have hs8 := hs6.same s68
  have haa8 := s68 _ _ haa6
  have good1 : ∀ v ∈ us1, Good H8 t s v := fun v hv => by
    obtain ⟨i, hi⟩ := List.getElem?_of_mem hv
    obtain ⟨p, hp, hpl⟩ := Al.get hal1 hi
    obtain ⟨pr, hpr, e⟩ : ∃ pr, (spots t)[i]? = some pr ∧ pr.1 = p := by
      rw [List.getElem?_map] at hp
      cases e : (spots t)[i]? with
      | none => rw [e] at hp; cases hp
      | some pr => rw [e] at hp; exact ⟨pr, rfl, Option.some.inj hp⟩
    exact ⟨p, hpl, .inl ⟨pr.2, by rw [← e]; exact spots_part (List.mem_of_getElem? hpr)⟩⟩
  -- .. and those of the second one that are not among them
  refine ⟨_, rfl, _, rfl, s, sv, rfl, hs8, by omega, by omega, fun H9 l9 ws9 s9 nl9 hl9 hws9 => ⟨l9, rfl, ⟨_, SqL.of hl9⟩, fun L2 nL2 => lc_list (K := K) (a := l9) (xs := ws9) (fun j H' => Same H9 H' ∧ ∃ us, H' L2 = some (.lst us) ∧ us.length ≤ j ∧ j ≤ 15 ∧ ∀ v ∈ us, Good H' t s v) ⟨same_new nL2 _, [], upd_same, Nat.zero_le _, by omega, fun v hv => by simp at hv⟩ (fun j H' _ h => SqL.of (h.1 _ _ hl9)) ?_ ?_⟩⟩
  · rintro j y H' hy ⟨sm, us, hus, hlen, _, hg⟩
    obtain ⟨pr, hpr, hb⟩ := Al.get hws9 hy
    obtain ⟨b, a2, z, rfl, hbb, ha2, hz3⟩ := hb.mono (Tups.of sm)
    have tl := tups_upd hus (.lst (us ++ [.ref a2]))
    have sm8 := s9.trans sm
    have hj : j + 1 ≤ 15 := by
      have h1 := (List.getElem?_eq_some_iff.mp hpr).1
      have h2 := few_spots zs
      omega
    refine ⟨b, _, rfl, SqT.of hbb, rfl, _, _, rfl, _, _, rfl, rfl, rfl, ?_⟩
    refine ⟨_, rfl, _, rfl, plD pr.1, ((spots t).map Prod.fst).map plD, PlAt.dp ⟨a2, rfl, ha2⟩, .lst (SqL.of (sm8 _ _ hus1)) (plDs_at (Al.imp hal1 fun p v z => z.mono (Tups.of sm8))), plD_shaped _, plDs_shaped _, _, rfl, ite2 (fun zz => ?_) (fun zz => ⟨sm, us, hus, by omega, hj, hg⟩)⟩
    refine ⟨_, rfl, us, hus, small1000 (by omega), same_grown nL2 sm _, _, upd_same, by rw [List.length_append, List.length_singleton]; omega, hj, fun v hv => ?_⟩
    rcases List.mem_append.mp hv with hv | hv
    · exact (hg v hv).mono tl
    · rw [List.mem_singleton.mp hv]
      exact ⟨pr.1, ⟨a2, rfl, tl _ _ ha2⟩, .inr ⟨pr.2, spots_part (List.mem_of_getElem? hpr)⟩⟩
  rintro H10 ⟨s10, us2, hus2, hlen2, h215, hg2⟩
  have s810 := s9.trans s10
  have good1' : ∀ v ∈ us1, Good H10 t s v := fun v hv => (good1 v hv).mono (Tups.of s810)
  have len1 : us1.length ≤ 15 := by
    have h1 := hal1.1
    have h2 := few_spots t15
    rw [List.length_map] at h1
    omega
  refine ⟨L1, L2, us1, us2, rfl, rfl, s810 _ _ hus1, hus2, small (by omega), fun L3 nL3 => ?_⟩
  have s11 := same_new nL3 (.lst (us1 ++ us2))
  have s811 := s810.trans s11
  generalize hH11 : upd H10 L3 (.lst (us1 ++ us2)) = H11 at s11 s811
  have hL3 : H11 L3 = some (.lst (us1 ++ us2)) := by rw [← hH11, upd_same]
  have hst11 := hst8.same s811
  have ht11 := ht8.same s811
  have hs11 := hs8.same s811
  have haa11 := s811 _ _ haa8
  have ne3 : L3 ≠ st := fun z => by
    obtain ⟨l, ns', c, k, h1, _⟩ := hst8.same s810
    rw [z, h1] at nL3
    cases nL3
  have good : ∀ v ∈ us1 ++ us2, Good H11 t s v := fun v hv => by
    rcases List.mem_append.mp hv with hv | hv
    · exact (good1' v hv).mono (Tups.of s11)
    · exact (hg2 v hv).mono (Tups.of s11)
  refine ⟨L3, rfl, ⟨_, SqL.of hL3⟩, for_list (K := K) (a := L3) (xs := us1 ++ us2) (fun i σ H' => Keep st H11 H' ∧ StAt H' st ∧ ∃ o6 o7 o9 o10 o11 o12 : Option V, σ = [some (.ref a), some (.ref st), some (.ref aa), some (nv m), some tv, some sv, o6, o7, some (.ref L1), o9, o10, o11, o12])
    ⟨Keep.refl st H11, hst11, none, none, none, none, none, none, rfl⟩ (fun i σ H' _ h => SqL.of (h.1 _ _ ne3 hL3)) ?_ ?_⟩
  · rintro i v σ H' hv ⟨kp, hst, o6, o7, o9, o10, o11, o12, rfl⟩
    obtain ⟨p, hpv, hsome⟩ := good v (List.mem_of_getElem? hv)
    have okp : PlOk p := by
      rcases hsome with ⟨x, hx⟩ | ⟨x, hx⟩
      · exact placeOk ok wt t15 hx
      · exact placeOk ok ws zs hx
    have tu := hst11.tups kp
    have ht0 := ht11.mono tu
    have hs0 := hs11.mono tu
    have haa0 : PlAt H' ar (.ref aa) := ⟨aa, rfl, tu _ _ haa11⟩
    have hp0 := hpv.mono tu
    -- below, other, due
    refine ⟨_, rfl, _, rfl, t, p, tv, v, rfl, ht0, hp0, t15, by omega, fun vb G1 g1 ob => ?_⟩
    refine ⟨_, rfl, _, rfl, s, p, sv, v, rfl, hs0.same g1, hp0.mono (Tups.of g1), zs, by omega, fun vo G2 g2 oo => ?_⟩
    refine ⟨(by show 2 ≤ sizeLine; exact small (by omega)), fun d0 nd0 => ?_⟩
    have g3 := same_new nd0 (.lst [.str "not", .str "place"])
    have hno : DueAt (upd G2 d0 (.lst [.str "not", .str "place"])) .no (.ref d0) := ⟨d0, rfl, upd_same⟩
    have g13 := g1.trans (g2.trans g3)
    have ob3 := ob.same (g2.trans g3)
    have oo3 := oo.same g3
    generalize hG3 : upd G2 d0 (.lst [.str "not", .str "place"]) = G3 at g3 hno g13 ob3 oo3
    have ht3 := ht0.same g13
    have hs3 := hs0.same g13
    have hp3 := hp0.mono (Tups.of g13)
    have haa3' := haa0.mono (Tups.of g13)
    refine ⟨fun σ G => Same G3 G ∧ ∃ dv, DueAt G (due t s p) dv ∧ σ = [some (.ref a), some (.ref st), some (.ref aa), some (nv m), some tv, some sv, some v, some vb, some (.ref L1), some vo, some dv, o11, o12], ?_, ?_⟩
    · cases ha : part t p with
      | none =>
        rw [ha] at ob3
        refine ⟨_, rfl, rfl, _, rfl, ifF (by rw [show vb = .non from ob3]; rfl) (iteF ⟨Same.refl _, _, ?_, rfl⟩)⟩
        rw [due_no1 ha]
        exact hno
      | some x =>
        rw [ha] at ob3
        refine ⟨_, rfl, rfl, _, rfl, ifT (by rw [TrAt.some ob3]; rfl) ?_⟩
        cases hb : part s p with
        | none =>
          rw [hb] at oo3
          refine ⟨_, rfl, rfl, _, rfl, ifF (by rw [show vo = .non from oo3]; rfl) ⟨Same.refl _, _, ?_, rfl⟩⟩
          rw [due_no2 hb]
          exact hno
        | some y =>
          rw [hb] at oo3
          refine ⟨_, rfl, rfl, _, rfl, ifT (by rw [TrAt.some oo3]; rfl) ?_⟩
          have l1 := okp.few
          have sz1 := size_put y ha
          have sz2 := size_put x hb
          have p1 := part_len ha
          have p2 := part_len hb
          have q1 := size_pos x
          have q2 := size_pos y
          refine ⟨_, rfl, _, rfl, _, rfl, t, y, x, p, _, _, _, rfl, ht3, hp3, oo3, ha, by omega, by omega, fun G4 r g4 hr4' => ?_⟩
          refine ⟨_, rfl, put t p y, r, rfl, hr4', by omega, by omega, fun G5 g5 => ?_⟩
          have g35 := g4.trans g5
          refine ⟨_, rfl, _, rfl, _, rfl, s, x, y, p, _, _, _, rfl, hs3.same g35, hp3.mono (Tups.of g35), TrAt.same ob3 g35, hb, by omega, by omega, fun G6 r6 g6 hr6 => ⟨put s p x, r6, rfl, hr6, by omega, by omega, fun G7 g7 => ⟨_, _, rfl, rfl, ?_⟩⟩⟩
          have g37 := g35.trans (g6.trans g7)
          refine ⟨_, rfl, t, tv, rfl, ht3.same g37, by omega, by omega, fun G8 g8 => ⟨_, rfl, s, sv, rfl, hs3.same (g37.trans g8), by omega, by omega, fun G9 g9 => ⟨_, _, rfl, rfl, rfl, _, rfl, ifF ?_ ?_⟩⟩⟩
          · have e := both_sizes ha hb
            have e2 : ((((put t p y).size : Nat) : Int) + (((put s p x).size : Nat) : Int)) = (((t.size : Nat) : Int) + ((s.size : Nat) : Int)) := by omega
            show (!decide (V.int _ = V.int _)) = false
            rw [e2, decide_eq_true rfl]
            rfl
          have g49 := g5.trans (g6.trans (g7.trans (g8.trans g9)))
          refine ⟨_, rfl, put t p y, r, rfl, hr4'.same g49, by omega, by omega, fun G10 g10 => ⟨_, _, rfl, rfl, _, rfl, ite2 (fun z => ?_) (fun z => ?_)⟩⟩
          · have z' : (((put t p y).size : Nat) : Int) ≤ 15 := of_decide_eq_true z
            refine ⟨_, rfl, g4.trans (g49.trans g10), r, ?_, rfl⟩
            rw [due_tree ha hb (by omega)]
            exact (hr4'.same g49).same g10
          · have z' : ¬ ((((put t p y).size : Nat) : Int) ≤ 15) := of_decide_eq_false (Bool.eq_false_iff.mpr z)
            refine ⟨(by show 2 ≤ sizeLine; exact small (by omega)), fun dl ndl => ⟨(g4.trans (g49.trans g10)).trans (same_new ndl _), _, ?_, rfl⟩⟩
            rw [due_large ha hb (by omega)]
            exact ⟨dl, rfl, upd_same⟩
    rintro σ Gm ⟨gm, dv, hdv, rfl⟩
    have g0m := g13.trans gm
    have htm := ht0.same g0m
    have hsm := hs0.same g0m
    have hpm := hp0.mono (Tups.of g0m)
    have haam := haa0.mono (Tups.of g0m)
    have obm := ob3.same gm
    -- near
    refine ⟨_, rfl, _, rfl, _, rfl, _, rfl, ar, t, s, p, _, _, _, _, rfl, haam, ok, htm, wt, t15, hsm, ws, zs, hpm, okp, fun N1 r1 n1 hd1 => ?_⟩
    refine ⟨_, rfl, _, rfl, _, rfl, _, rfl, ar, t, t, p, _, _, _, _, rfl, haam.mono (Tups.of n1), ok, htm.same n1, wt, t15, htm.same n1, wt, t15, hpm.mono (Tups.of n1), okp, fun N2 r2 n2 hd2 => ⟨(by show 2 ≤ sizeLine; exact small (by omega)), fun nl nnl => ?_⟩⟩
    have n3 := same_new nnl (.lst [r1, r2])
    have n13 := n1.trans (n2.trans n3)
    have hnl : upd N2 nl (.lst [r1, r2]) nl = some (.lst [r1, r2]) := upd_same
    generalize hN3 : upd N2 nl (.lst [r1, r2]) = N3 at n3 n13 hnl
    -- what is to be
    refine ⟨_, rfl, _, rfl, fun x G => Same N3 G ∧ DueAt G (due t t p) x, ?_, fun x2 N4 hx2 => ?_⟩
    · cases ha : part t p with
      | none =>
        rw [ha] at obm
        refine ⟨_, rfl, rfl, _, rfl, ifT (by rw [show vb = .non from obm]; rfl) ⟨(by show 2 ≤ sizeLine; exact small (by omega)), fun dl ndl => ⟨same_new ndl _, ?_⟩⟩⟩
        rw [due_no1 ha]
        exact ⟨dl, rfl, upd_same⟩
      | some x =>
        rw [ha] at obm
        refine ⟨_, rfl, rfl, _, rfl, ifF (TrAt.some obm) ⟨_, rfl, Same.refl _, ?_⟩⟩
        have e := put_self ha
        rw [due_tree ha ha (by rw [e]; exact t15), e]
        exact htm.same n13
    obtain ⟨n4, hd4⟩ := hx2
    refine ⟨(by show 2 ≤ sizeLine; exact small (by omega)), fun el nel => ?_⟩
    have n5 := same_new nel (.lst [dv, x2])
    have n35 := n4.trans n5
    have treeSmall : ∀ s' : Tr, ∀ T', due t s' p = .tree T' → T'.size ≤ 15 := fun s' T' e => by
      obtain ⟨a', b', _, _, e1, e2⟩ := due_inv e
      rw [e1]
      exact e2
    have q1 : EqAt (upd N4 el (.lst [dv, x2])) 16 r1 dv := DueAt.eq (hd1.same (n2.trans (n3.trans n35))) (hdv.same (n13.trans n35)) (treeSmall s)
    have q2 : EqAt (upd N4 el (.lst [dv, x2])) 16 r2 x2 := DueAt.eq (hd2.same (n3.trans n35)) (hd4.same n5) (treeSmall t)
    refine ⟨_, _, rfl, two_eq (n35 _ _ hnl) upd_same q1 q2, fun N6 n6 => ⟨true, rfl, iteF ?_⟩⟩
    have gA := n13.trans (n35.trans n6)
    have hstA := (hst.same g0m).same gA
    -- the depth
    refine ⟨_, rfl, st, 4, rfl, hstA, by omega, by omega, fun dd B1 hdd kB hstB => ⟨1, _, rfl, rfl, ?_⟩⟩
    have e12 : ((1 : Int) + ((dd : Nat) : Int)) = ((dd + 1 : Nat) : Int) := by omega
    have tuB := (Tups.of gA).trans (hstA.tups kB)
    have htB := htm.mono tuB
    have hsB := hsm.mono tuB
    have hpB := hpm.mono tuB
    have haaB := haam.mono tuB
    have kAll : Keep st H11 B1 := kp.trans ((Keep.of (g0m.trans gA)).trans kB)
    have next : ∀ (B2 : Hp) (o : Option V), Same B1 B2 → Keep st H11 B2 ∧ StAt B2 st ∧ ∃ o6 o7 o9 o10 o11 o12 : Option V, [some (.ref a), some (.ref st), some (.ref aa), some (nv m), some tv, some sv, some v, some vb, some (.ref L1), some vo, some dv, some (.ref nl), o] = [some (.ref a), some (.ref st), some (.ref aa), some (nv m), some tv, some sv, o6, o7, some (.ref L1), o9, o10, o11, o12] :=
      fun B2 o b12 => ⟨kAll.trans (Keep.of b12), hstB.same b12, _, _, _, _, _, _, rfl⟩
    cases hdue : due t s p with
    | large =>
      rw [hdue] at hdv
      obtain ⟨l, rfl, hl⟩ := hdv
      have hlB : B1 l = some (.lst [.str "large", .str "tree"]) := by
        refine kB _ _ (fun z => ?_) (gA _ _ hl)
        obtain ⟨l', ns', c, k, h1, _⟩ := hstA
        rw [← z, gA _ _ hl] at h1
        have e := congrArg List.length (HO.lst.inj (Option.some.inj h1))
        simp at e
      exact ⟨_, rfl, _, _, _, _, false, rfl, .ty _, ty_lst hlB, kit_ty kit_list_tuple, false, rfl, iteF (iteF (next B1 _ (Same.refl _)))⟩
    | no =>
      rw [hdue] at hdv
      obtain ⟨l, rfl, hl⟩ := hdv
      have hlB : B1 l = some (.lst [.str "not", .str "place"]) := by
        refine kB _ _ (fun z => ?_) (gA _ _ hl)
        obtain ⟨l', ns', c, k, h1, _⟩ := hstA
        rw [← z, gA _ _ hl] at h1
        have e := congrArg List.length (HO.lst.inj (Option.some.inj h1))
        simp at e
      exact ⟨_, rfl, _, _, _, _, false, rfl, .ty _, ty_lst hlB, kit_ty kit_list_tuple, false, rfl, iteF (iteF (next B1 _ (Same.refl _)))⟩
    | tree T =>
      obtain ⟨x, y, hx, hy, rfl, hzT⟩ := due_inv hdue
      rw [hdue] at hdv
      have hdB : TrAt B1 (put t p y) dv := TrAt.mono hdv tuB
      obtain ⟨dp, dys, rfl, hdp, _⟩ := hdB.kids
      refine ⟨_, rfl, _, _, _, _, true, rfl, .ty _, ty_tup hdp, kit_ty kit_tuple_tuple, true, rfl, iteT ?_⟩
      refine ⟨_, rfl, (by show 0 ≤ sizeLine; exact small (by omega)), fun e0 ne0 => ?_⟩
      have b2 := same_new ne0 (.tup [])
      generalize hB2 : upd B1 e0 (.tup []) = B2 at b2
      have he0 : B2 e0 = some (.tup ([].map nv)) := by rw [← hB2, upd_same]; rfl
      refine ⟨plD p, plD [], (hpB.mono (Tups.of b2)).dp, PlAt.dp ⟨e0, rfl, he0⟩, plD_shaped p, plD_shaped [], _, rfl, ite2 (fun z => ?_) (fun z => iteF (next B2 _ b2))⟩
      have pne : p ≠ [] := fun e => by
        rw [plD_eqv, decide_eq_true e] at z
        cases z
      refine ⟨_, rfl, _, rfl, _, rfl, _, rfl, _, rfl, ar, t, s, x, y, p, dd + 1, _, _, _, _, ?_, haaB.mono (Tups.of b2), ok, htB.same b2, wt, t15, hsB.same b2, ws, zs, hpB.mono (Tups.of b2), okp, hx, hy, by omega, fun B3 b3 => ⟨_, rfl, ite2 (fun z2 => ?_) (fun z2 => next B3 _ (b2.trans b3))⟩⟩
      · show [V.ref aa, tv, sv, v, V.int ((1 : Int) + ((dd : Nat) : Int))] = _
        rw [e12]
      have b13 := b2.trans b3
      -- the parts
      refine ⟨_, rfl, _, rfl, _, rfl, _, rfl, ar, t, x, p, _, _, _, rfl, haaB.mono (Tups.of b13), ok, htB.same b13, wt, t15, hpB.mono (Tups.of b13), okp, hx, fun x1 B4 b4 hx1 => ?_⟩
      have b14 := b13.trans b4
      refine ⟨_, rfl, _, rfl, _, rfl, ar, s, y, p, _, _, _, rfl, haaB.mono (Tups.of b14), ok, hsB.same b14, ws, zs, hpB.mono (Tups.of b14), okp, hy, fun x2' B5 b5 hx2' => ?_⟩
      have b15 := b14.trans b5
      have lx := part_len hx
      have ly := part_len hy
      have dsub : ((1 : Int) + ((dd : Nat) : Int) - 1) = ((dd : Nat) : Int) := by omega
      refine ⟨_, rfl, _, 1, rfl, rfl, ar, x, y, dd, _, _, _, ?_, haaB.mono (Tups.of b15), ok, hx1.same b5, wt.part hx, by omega, hx2', ws.part hy, by omega, by omega, fun B6 b6 => ⟨_, rfl, ifF ?_ ?_⟩⟩
      · show [V.ref aa, x1, x2', V.int ((1 : Int) + ((dd : Nat) : Int) - 1)] = _
        rw [dsub]
      · rw [along_parts pne z2 hx hy]
        rfl
      have b16 := b15.trans b6
      -- the graft
      refine ⟨_, rfl, _, rfl, _, rfl, _, rfl, _, rfl, ar, t, put t p y, x, y, p, dd + 1, _, _, _, _, ?_, haaB.mono (Tups.of b16), ok, htB.same b16, wt, t15, hdB.same b16, wt.put (ws.part hy) hx, hzT, hpB.mono (Tups.of b16), okp, hx, part_put y hx, by omega, fun B7 b7 => ⟨_, rfl, ifF ?_ (next B7 _ (b16.trans b7))⟩⟩
      · show [V.ref aa, tv, V.ref dp, v, V.int ((1 : Int) + ((dd : Nat) : Int))] = _
        rw [e12]
      · rw [along_graft pne z2 hx hy]
        rfl
  · rintro σ H' _
    exact q H'
end
end Gf
namespace Gf
open PySem PySem.Spec PyProof.Rows L2
section
variable {K : PySem.W.Frag} {h : Heap} {mg : Str → Option Value}
/-- a def of the top, from what the head tells -/
theorem df_mk {x : Str} {st : Stmt} {ps : List Str} {f : Addr} {oc : Value} {od an : Option Addr} {sl : Array (Option Value)} {kV dc pm cd ct : Value} (X : K.In h) (G : h.Ns mainGlobals mg)
    (hb : ∀ (kV doc pm : Value) (an : Option Addr) (cdv ct : Value) (us : List Value), us.length = ps.length → bindArgs (PySem.W.fnOf x x (defArgs st) (defBody st) (defScope st) .none kV doc pm an cdv ct) ⟨us, []⟩ = pure (ps.zip us))
    (a : PySem.W.nsIn K mainGlobals x = some (some (.ref f))) (l : K.lookup f = some ⟨oc, od, .func (PySem.W.fnOf x x (defArgs st) (defBody st) (defScope st) .none kV dc pm an cd ct), sl⟩) (c : PySem.W.codeIn K cd x = true) (k : PySem.W.keepIn K (.ref f) = true) : Df K mg x st ps := by
  have F := fun_mk (st := st) l c k
  exact ⟨f, _, F, PySem.W.mg_of X G a, F.binds hb⟩
/-- «except B» and an error of the class A -/
theorem exm_two {A B : Addr} {b : Bool} (h1 : PySem.W.subIn K (.ref B) (.type "BaseException") = some true) (h2 : PySem.W.isClsIn K B = true) (h3 : PySem.W.typeIn K (.ref B) = some (.type "type")) (h4 : PySem.W.subIn K (.ref A) (.ref B) = some b) : PySem.W.exmOne K (.ref A) (.ref B) = some b := by
  have g2 : (PySem.W.clsIn K B).isSome = true := h2
  unfold PySem.W.exmOne PySem.W.kitCls
  rw [h1]
  show (if ((PySem.W.clsIn K B).isSome && PySem.W.typeIn K (.ref B) == some (.type "type")) = true then PySem.W.subIn K (.ref A) (.ref B) else none) = some b
  rw [g2, h3]
  exact h4
theorem ext_mk {x fld qual : Str} {st : Stmt} {C CT fI : Addr} {nm q : Str} {N : Addr} {bs : List Value} {sn : List Str} {sub : List Value} {ab : Bool} {col : Option Bool} {dd : Option Addr} {m0 m1 m2 m3 m5 : Option Value} {oc : Value} {od an : Option Addr} {sl : Array (Option Value)} {kV dc pm cd ct : Value} (X : K.In h) (G : h.Ns mainGlobals mg)
    (hb : ∀ (kV doc pm : Value) (an : Option Addr) (cdv ct : Value) (us : List Value), us.length = (["self", fld] : List Str).length → bindArgs (PySem.W.fnOf "__init__" qual (defArgs st) (defBody st) (defScope st) .none kV doc pm an cdv ct) ⟨us, []⟩ = pure ((["self", fld] : List Str).zip us))
    (aC : PySem.W.nsIn K mainGlobals x = some (some (.ref C))) (xL : K.lookup C = some (excClassObj nm q C N bs [.ref CT, .type "ValueError", .type "Exception", .type "BaseException", .type "object"] true sn sub ab col dd m0 m1 m2 m3 m5 "ValueError.__new__"))
    (sa : PySem.W.findIn K (.ref C) "__setattr__" = some (some (.builtin "object.__setattr__"))) (ga : PySem.W.findIn K (.ref C) "__getattribute__" = some (some (.builtin "BaseException.__getattribute__"))) (gg : PySem.W.findIn K (.ref C) "__getattr__" = some none) (nf : PySem.W.findIn K (.ref C) fld = some none)
    (iC : PySem.W.findIn K (.ref C) "__init__" = some (some (.ref fI))) (tI : PySem.W.typeIn K (.ref fI) = some (.type "function"))
    (l : K.lookup fI = some ⟨oc, od, .func (PySem.W.fnOf "__init__" qual (defArgs st) (defBody st) (defScope st) .none kV dc pm an cd ct), sl⟩) (c : PySem.W.codeIn K cd qual = true) (k : PySem.W.keepIn K (.ref fI) = true)
    (kC : PySem.W.keepIn K (.ref C) = true) (eC : PySem.W.subIn K (.ref C) (.type "BaseException") = some true) (tC : PySem.W.typeIn K (.ref C) = some (.type "type")) (hC : PySem.W.hasDictIn K C = true) (cC : PySem.W.isClsIn K C = true) (sC : PySem.W.subIn K (.ref C) (.ref C) = some true) : ExT K mg x fld qual st C fI := by
  have F := fun_mk (st := st) l c k
  exact { g := PySem.W.mg_of X G aC, o := ⟨⟨nm, q, N, bs, _, sn, sub, ab, col, dd, m0, m1, m2, m3, m5, xL, rfl⟩, sa, eC, tC, kC⟩, f := ⟨ga, gg, eC, hC⟩, noF := nf, te := exm_two eC cC tC sC, iC := iC, tI := tI, fn := ⟨_, F, F.binds hb⟩ }
theorem df_9 {f : Addr} {oc : Value} {od an : Option Addr} {sl : Array (Option Value)} {kV dc pm cd ct : Value} (X : K.In h) (G : h.Ns mainGlobals mg) (a : PySem.W.nsIn K mainGlobals "is_number" = some (some (.ref f)))
    (l : K.lookup f = some ⟨oc, od, .func (PySem.W.fnOf "is_number" "is_number" (defArgs sNum) (defBody sNum) (defScope sNum) .none kV dc pm an cd ct), sl⟩) (c : PySem.W.codeIn K cd "is_number" = true) (k : PySem.W.keepIn K (.ref f) = true) : Df K mg "is_number" sNum ["value", "low", "high"] :=
  df_mk X G (fun _ _ _ _ _ _ us hl => match us, hl with | [_, _, _], _ => rfl) a l c k
theorem df_10 {f : Addr} {oc : Value} {od an : Option Addr} {sl : Array (Option Value)} {kV dc pm cd ct : Value} (X : K.In h) (G : h.Ns mainGlobals mg) (a : PySem.W.nsIn K mainGlobals "is_arities" = some (some (.ref f)))
    (l : K.lookup f = some ⟨oc, od, .func (PySem.W.fnOf "is_arities" "is_arities" (defArgs sAr) (defBody sAr) (defScope sAr) .none kV dc pm an cd ct), sl⟩) (c : PySem.W.codeIn K cd "is_arities" = true) (k : PySem.W.keepIn K (.ref f) = true) : Df K mg "is_arities" sAr ["value"] :=
  df_mk X G (fun _ _ _ _ _ _ us hl => match us, hl with | [_], _ => rfl) a l c k
theorem df_11 {f : Addr} {oc : Value} {od an : Option Addr} {sl : Array (Option Value)} {kV dc pm cd ct : Value} (X : K.In h) (G : h.Ns mainGlobals mg) (a : PySem.W.nsIn K mainGlobals "is_tree" = some (some (.ref f)))
    (l : K.lookup f = some ⟨oc, od, .func (PySem.W.fnOf "is_tree" "is_tree" (defArgs sTr) (defBody sTr) (defScope sTr) .none kV dc pm an cd ct), sl⟩) (c : PySem.W.codeIn K cd "is_tree" = true) (k : PySem.W.keepIn K (.ref f) = true) : Df K mg "is_tree" sTr ["arities", "value"] :=
  df_mk X G (fun _ _ _ _ _ _ us hl => match us, hl with | [_, _], _ => rfl) a l c k
theorem df_12 {f : Addr} {oc : Value} {od an : Option Addr} {sl : Array (Option Value)} {kV dc pm cd ct : Value} (X : K.In h) (G : h.Ns mainGlobals mg) (a : PySem.W.nsIn K mainGlobals "is_place" = some (some (.ref f)))
    (l : K.lookup f = some ⟨oc, od, .func (PySem.W.fnOf "is_place" "is_place" (defArgs sPl) (defBody sPl) (defScope sPl) .none kV dc pm an cd ct), sl⟩) (c : PySem.W.codeIn K cd "is_place" = true) (k : PySem.W.keepIn K (.ref f) = true) : Df K mg "is_place" sPl ["value"] :=
  df_mk X G (fun _ _ _ _ _ _ us hl => match us, hl with | [_], _ => rfl) a l c k
theorem df_13 {f : Addr} {oc : Value} {od an : Option Addr} {sl : Array (Option Value)} {kV dc pm cd ct : Value} (X : K.In h) (G : h.Ns mainGlobals mg) (a : PySem.W.nsIn K mainGlobals "size_of" = some (some (.ref f)))
    (l : K.lookup f = some ⟨oc, od, .func (PySem.W.fnOf "size_of" "size_of" (defArgs sSize) (defBody sSize) (defScope sSize) .none kV dc pm an cd ct), sl⟩) (c : PySem.W.codeIn K cd "size_of" = true) (k : PySem.W.keepIn K (.ref f) = true) : Df K mg "size_of" sSize ["tree"] :=
  df_mk X G (fun _ _ _ _ _ _ us hl => match us, hl with | [_], _ => rfl) a l c k
theorem df_14 {f : Addr} {oc : Value} {od an : Option Addr} {sl : Array (Option Value)} {kV dc pm cd ct : Value} (X : K.In h) (G : h.Ns mainGlobals mg) (a : PySem.W.nsIn K mainGlobals "part_at" = some (some (.ref f)))
    (l : K.lookup f = some ⟨oc, od, .func (PySem.W.fnOf "part_at" "part_at" (defArgs sPart) (defBody sPart) (defScope sPart) .none kV dc pm an cd ct), sl⟩) (c : PySem.W.codeIn K cd "part_at" = true) (k : PySem.W.keepIn K (.ref f) = true) : Df K mg "part_at" sPart ["tree", "place"] :=
  df_mk X G (fun _ _ _ _ _ _ us hl => match us, hl with | [_, _], _ => rfl) a l c k
theorem df_15 {f : Addr} {oc : Value} {od an : Option Addr} {sl : Array (Option Value)} {kV dc pm cd ct : Value} (X : K.In h) (G : h.Ns mainGlobals mg) (a : PySem.W.nsIn K mainGlobals "put_at" = some (some (.ref f)))
    (l : K.lookup f = some ⟨oc, od, .func (PySem.W.fnOf "put_at" "put_at" (defArgs sPut) (defBody sPut) (defScope sPut) .none kV dc pm an cd ct), sl⟩) (c : PySem.W.codeIn K cd "put_at" = true) (k : PySem.W.keepIn K (.ref f) = true) : Df K mg "put_at" sPut ["tree", "place", "part"] :=
  df_mk X G (fun _ _ _ _ _ _ us hl => match us, hl with | [_, _, _], _ => rfl) a l c k
theorem df_16 {f : Addr} {oc : Value} {od an : Option Addr} {sl : Array (Option Value)} {kV dc pm cd ct : Value} (X : K.In h) (G : h.Ns mainGlobals mg) (a : PySem.W.nsIn K mainGlobals "graft_of" = some (some (.ref f)))
    (l : K.lookup f = some ⟨oc, od, .func (PySem.W.fnOf "graft_of" "graft_of" (defArgs sGrO) (defBody sGrO) (defScope sGrO) .none kV dc pm an cd ct), sl⟩) (c : PySem.W.codeIn K cd "graft_of" = true) (k : PySem.W.keepIn K (.ref f) = true) : Df K mg "graft_of" sGrO ["first", "second", "place"] :=
  df_mk X G (fun _ _ _ _ _ _ us hl => match us, hl with | [_, _, _], _ => rfl) a l c k
theorem df_17 {f : Addr} {oc : Value} {od an : Option Addr} {sl : Array (Option Value)} {kV dc pm cd ct : Value} (X : K.In h) (G : h.Ns mainGlobals mg) (a : PySem.W.nsIn K mainGlobals "same_to" = some (some (.ref f)))
    (l : K.lookup f = some ⟨oc, od, .func (PySem.W.fnOf "same_to" "same_to" (defArgs sSame) (defBody sSame) (defScope sSame) .none kV dc pm an cd ct), sl⟩) (c : PySem.W.codeIn K cd "same_to" = true) (k : PySem.W.keepIn K (.ref f) = true) : Df K mg "same_to" sSame ["first", "second", "depth"] :=
  df_mk X G (fun _ _ _ _ _ _ us hl => match us, hl with | [_, _, _], _ => rfl) a l c k
theorem df_18 {f : Addr} {oc : Value} {od an : Option Addr} {sl : Array (Option Value)} {kV dc pm cd ct : Value} (X : K.In h) (G : h.Ns mainGlobals mg) (a : PySem.W.nsIn K mainGlobals "same_along" = some (some (.ref f)))
    (l : K.lookup f = some ⟨oc, od, .func (PySem.W.fnOf "same_along" "same_along" (defArgs sAlong) (defBody sAlong) (defScope sAlong) .none kV dc pm an cd ct), sl⟩) (c : PySem.W.codeIn K cd "same_along" = true) (k : PySem.W.keepIn K (.ref f) = true) : Df K mg "same_along" sAlong ["first", "second", "place", "depth"] :=
  df_mk X G (fun _ _ _ _ _ _ us hl => match us, hl with | [_, _, _, _], _ => rfl) a l c k
theorem df_19 {f : Addr} {oc : Value} {od an : Option Addr} {sl : Array (Option Value)} {kV dc pm cd ct : Value} (X : K.In h) (G : h.Ns mainGlobals mg) (a : PySem.W.nsIn K mainGlobals "check_arities" = some (some (.ref f)))
    (l : K.lookup f = some ⟨oc, od, .func (PySem.W.fnOf "check_arities" "check_arities" (defArgs sCkAr) (defBody sCkAr) (defScope sCkAr) .none kV dc pm an cd ct), sl⟩) (c : PySem.W.codeIn K cd "check_arities" = true) (k : PySem.W.keepIn K (.ref f) = true) : Df K mg "check_arities" sCkAr ["arities"] :=
  df_mk X G (fun _ _ _ _ _ _ us hl => match us, hl with | [_], _ => rfl) a l c k
theorem df_20 {f : Addr} {oc : Value} {od an : Option Addr} {sl : Array (Option Value)} {kV dc pm cd ct : Value} (X : K.In h) (G : h.Ns mainGlobals mg) (a : PySem.W.nsIn K mainGlobals "check_tree" = some (some (.ref f)))
    (l : K.lookup f = some ⟨oc, od, .func (PySem.W.fnOf "check_tree" "check_tree" (defArgs sCkTr) (defBody sCkTr) (defScope sCkTr) .none kV dc pm an cd ct), sl⟩) (c : PySem.W.codeIn K cd "check_tree" = true) (k : PySem.W.keepIn K (.ref f) = true) : Df K mg "check_tree" sCkTr ["arities", "tree", "name"] :=
  df_mk X G (fun _ _ _ _ _ _ us hl => match us, hl with | [_, _, _], _ => rfl) a l c k
theorem df_21 {f : Addr} {oc : Value} {od an : Option Addr} {sl : Array (Option Value)} {kV dc pm cd ct : Value} (X : K.In h) (G : h.Ns mainGlobals mg) (a : PySem.W.nsIn K mainGlobals "check_place" = some (some (.ref f)))
    (l : K.lookup f = some ⟨oc, od, .func (PySem.W.fnOf "check_place" "check_place" (defArgs sCkPl) (defBody sCkPl) (defScope sCkPl) .none kV dc pm an cd ct), sl⟩) (c : PySem.W.codeIn K cd "check_place" = true) (k : PySem.W.keepIn K (.ref f) = true) : Df K mg "check_place" sCkPl ["place"] :=
  df_mk X G (fun _ _ _ _ _ _ us hl => match us, hl with | [_], _ => rfl) a l c k
theorem df_22 {f : Addr} {oc : Value} {od an : Option Addr} {sl : Array (Option Value)} {kV dc pm cd ct : Value} (X : K.In h) (G : h.Ns mainGlobals mg) (a : PySem.W.nsIn K mainGlobals "check_two" = some (some (.ref f)))
    (l : K.lookup f = some ⟨oc, od, .func (PySem.W.fnOf "check_two" "check_two" (defArgs sCkTwo) (defBody sCkTwo) (defScope sCkTwo) .none kV dc pm an cd ct), sl⟩) (c : PySem.W.codeIn K cd "check_two" = true) (k : PySem.W.keepIn K (.ref f) = true) : Df K mg "check_two" sCkTwo ["arities", "first", "second"] :=
  df_mk X G (fun _ _ _ _ _ _ us hl => match us, hl with | [_, _, _], _ => rfl) a l c k
theorem df_23 {f : Addr} {oc : Value} {od an : Option Addr} {sl : Array (Option Value)} {kV dc pm cd ct : Value} (X : K.In h) (G : h.Ns mainGlobals mg) (a : PySem.W.nsIn K mainGlobals "check_depth" = some (some (.ref f)))
    (l : K.lookup f = some ⟨oc, od, .func (PySem.W.fnOf "check_depth" "check_depth" (defArgs sCkD) (defBody sCkD) (defScope sCkD) .none kV dc pm an cd ct), sl⟩) (c : PySem.W.codeIn K cd "check_depth" = true) (k : PySem.W.keepIn K (.ref f) = true) : Df K mg "check_depth" sCkD ["depth"] :=
  df_mk X G (fun _ _ _ _ _ _ us hl => match us, hl with | [_], _ => rfl) a l c k
theorem df_24 {f : Addr} {oc : Value} {od an : Option Addr} {sl : Array (Option Value)} {kV dc pm cd ct : Value} (X : K.In h) (G : h.Ns mainGlobals mg) (a : PySem.W.nsIn K mainGlobals "small" = some (some (.ref f)))
    (l : K.lookup f = some ⟨oc, od, .func (PySem.W.fnOf "small" "small" (defArgs sSmall) (defBody sSmall) (defScope sSmall) .none kV dc pm an cd ct), sl⟩) (c : PySem.W.codeIn K cd "small" = true) (k : PySem.W.keepIn K (.ref f) = true) : Df K mg "small" sSmall ["tree"] :=
  df_mk X G (fun _ _ _ _ _ _ us hl => match us, hl with | [_], _ => rfl) a l c k
theorem df_25 {f : Addr} {oc : Value} {od an : Option Addr} {sl : Array (Option Value)} {kV dc pm cd ct : Value} (X : K.In h) (G : h.Ns mainGlobals mg) (a : PySem.W.nsIn K mainGlobals "part" = some (some (.ref f)))
    (l : K.lookup f = some ⟨oc, od, .func (PySem.W.fnOf "part" "part" (defArgs sPartF) (defBody sPartF) (defScope sPartF) .none kV dc pm an cd ct), sl⟩) (c : PySem.W.codeIn K cd "part" = true) (k : PySem.W.keepIn K (.ref f) = true) : Df K mg "part" sPartF ["arities", "tree", "place"] :=
  df_mk X G (fun _ _ _ _ _ _ us hl => match us, hl with | [_, _, _], _ => rfl) a l c k
theorem df_26 {f : Addr} {oc : Value} {od an : Option Addr} {sl : Array (Option Value)} {kV dc pm cd ct : Value} (X : K.In h) (G : h.Ns mainGlobals mg) (a : PySem.W.nsIn K mainGlobals "are_equal_to" = some (some (.ref f)))
    (l : K.lookup f = some ⟨oc, od, .func (PySem.W.fnOf "are_equal_to" "are_equal_to" (defArgs sEqTo) (defBody sEqTo) (defScope sEqTo) .none kV dc pm an cd ct), sl⟩) (c : PySem.W.codeIn K cd "are_equal_to" = true) (k : PySem.W.keepIn K (.ref f) = true) : Df K mg "are_equal_to" sEqTo ["arities", "first", "second", "depth"] :=
  df_mk X G (fun _ _ _ _ _ _ us hl => match us, hl with | [_, _, _, _], _ => rfl) a l c k
theorem df_27 {f : Addr} {oc : Value} {od an : Option Addr} {sl : Array (Option Value)} {kV dc pm cd ct : Value} (X : K.In h) (G : h.Ns mainGlobals mg) (a : PySem.W.nsIn K mainGlobals "check_both_have" = some (some (.ref f)))
    (l : K.lookup f = some ⟨oc, od, .func (PySem.W.fnOf "check_both_have" "check_both_have" (defArgs sBoth) (defBody sBoth) (defScope sBoth) .none kV dc pm an cd ct), sl⟩) (c : PySem.W.codeIn K cd "check_both_have" = true) (k : PySem.W.keepIn K (.ref f) = true) : Df K mg "check_both_have" sBoth ["first", "second", "place"] :=
  df_mk X G (fun _ _ _ _ _ _ us hl => match us, hl with | [_, _, _], _ => rfl) a l c k
theorem df_28 {f : Addr} {oc : Value} {od an : Option Addr} {sl : Array (Option Value)} {kV dc pm cd ct : Value} (X : K.In h) (G : h.Ns mainGlobals mg) (a : PySem.W.nsIn K mainGlobals "are_equal_along" = some (some (.ref f)))
    (l : K.lookup f = some ⟨oc, od, .func (PySem.W.fnOf "are_equal_along" "are_equal_along" (defArgs sEqAl) (defBody sEqAl) (defScope sEqAl) .none kV dc pm an cd ct), sl⟩) (c : PySem.W.codeIn K cd "are_equal_along" = true) (k : PySem.W.keepIn K (.ref f) = true) : Df K mg "are_equal_along" sEqAl ["arities", "first", "second", "place", "depth"] :=
  df_mk X G (fun _ _ _ _ _ _ us hl => match us, hl with | [_, _, _, _, _], _ => rfl) a l c k
theorem df_29 {f : Addr} {oc : Value} {od an : Option Addr} {sl : Array (Option Value)} {kV dc pm cd ct : Value} (X : K.In h) (G : h.Ns mainGlobals mg) (a : PySem.W.nsIn K mainGlobals "graft" = some (some (.ref f)))
    (l : K.lookup f = some ⟨oc, od, .func (PySem.W.fnOf "graft" "graft" (defArgs sGraft) (defBody sGraft) (defScope sGraft) .none kV dc pm an cd ct), sl⟩) (c : PySem.W.codeIn K cd "graft" = true) (k : PySem.W.keepIn K (.ref f) = true) : Df K mg "graft" sGraft ["arities", "first", "second", "place"] :=
  df_mk X G (fun _ _ _ _ _ _ us hl => match us, hl with | [_, _, _, _], _ => rfl) a l c k
theorem df_31 {f : Addr} {oc : Value} {od an : Option Addr} {sl : Array (Option Value)} {kV dc pm cd ct : Value} (X : K.In h) (G : h.Ns mainGlobals mg) (a : PySem.W.nsIn K mainGlobals "_law_stream" = some (some (.ref f)))
    (l : K.lookup f = some ⟨oc, od, .func (PySem.W.fnOf "_law_stream" "_law_stream" (defArgs sStream) (defBody sStream) (defScope sStream) .none kV dc pm an cd ct), sl⟩) (c : PySem.W.codeIn K cd "_law_stream" = true) (k : PySem.W.keepIn K (.ref f) = true) : Df K mg "_law_stream" sStream ["_law_script"] :=
  df_mk X G (fun _ _ _ _ _ _ us hl => match us, hl with | [_], _ => rfl) a l c k
theorem df_32 {f : Addr} {oc : Value} {od an : Option Addr} {sl : Array (Option Value)} {kV dc pm cd ct : Value} (X : K.In h) (G : h.Ns mainGlobals mg) (a : PySem.W.nsIn K mainGlobals "_law_next" = some (some (.ref f)))
    (l : K.lookup f = some ⟨oc, od, .func (PySem.W.fnOf "_law_next" "_law_next" (defArgs sNext) (defBody sNext) (defScope sNext) .none kV dc pm an cd ct), sl⟩) (c : PySem.W.codeIn K cd "_law_next" = true) (k : PySem.W.keepIn K (.ref f) = true) : Df K mg "_law_next" sNext ["_law_stream_here", "_law_many"] :=
  df_mk X G (fun _ _ _ _ _ _ us hl => match us, hl with | [_, _], _ => rfl) a l c k
theorem df_33 {f : Addr} {oc : Value} {od an : Option Addr} {sl : Array (Option Value)} {kV dc pm cd ct : Value} (X : K.In h) (G : h.Ns mainGlobals mg) (a : PySem.W.nsIn K mainGlobals "_law_is_integer" = some (some (.ref f)))
    (l : K.lookup f = some ⟨oc, od, .func (PySem.W.fnOf "_law_is_integer" "_law_is_integer" (defArgs sIsInt) (defBody sIsInt) (defScope sIsInt) .none kV dc pm an cd ct), sl⟩) (c : PySem.W.codeIn K cd "_law_is_integer" = true) (k : PySem.W.keepIn K (.ref f) = true) : Df K mg "_law_is_integer" sIsInt ["_law_actual"] :=
  df_mk X G (fun _ _ _ _ _ _ us hl => match us, hl with | [_], _ => rfl) a l c k
theorem df_34 {f : Addr} {oc : Value} {od an : Option Addr} {sl : Array (Option Value)} {kV dc pm cd ct : Value} (X : K.In h) (G : h.Ns mainGlobals mg) (a : PySem.W.nsIn K mainGlobals "_law_equal" = some (some (.ref f)))
    (l : K.lookup f = some ⟨oc, od, .func (PySem.W.fnOf "_law_equal" "_law_equal" (defArgs sEq) (defBody sEq) (defScope sEq) .none kV dc pm an cd ct), sl⟩) (c : PySem.W.codeIn K cd "_law_equal" = true) (k : PySem.W.keepIn K (.ref f) = true) : Df K mg "_law_equal" sEq ["_law_actual", "_law_due"] :=
  df_mk X G (fun _ _ _ _ _ _ us hl => match us, hl with | [_, _], _ => rfl) a l c k
theorem df_35 {f : Addr} {oc : Value} {od an : Option Addr} {sl : Array (Option Value)} {kV dc pm cd ct : Value} (X : K.In h) (G : h.Ns mainGlobals mg) (a : PySem.W.nsIn K mainGlobals "_law_pick" = some (some (.ref f)))
    (l : K.lookup f = some ⟨oc, od, .func (PySem.W.fnOf "_law_pick" "_law_pick" (defArgs sPick) (defBody sPick) (defScope sPick) .none kV dc pm an cd ct), sl⟩) (c : PySem.W.codeIn K cd "_law_pick" = true) (k : PySem.W.keepIn K (.ref f) = true) : Df K mg "_law_pick" sPick ["_law_stream_here", "_law_rows"] :=
  df_mk X G (fun _ _ _ _ _ _ us hl => match us, hl with | [_, _], _ => rfl) a l c k
theorem df_36 {f : Addr} {oc : Value} {od an : Option Addr} {sl : Array (Option Value)} {kV dc pm cd ct : Value} (X : K.In h) (G : h.Ns mainGlobals mg) (a : PySem.W.nsIn K mainGlobals "_law_arities" = some (some (.ref f)))
    (l : K.lookup f = some ⟨oc, od, .func (PySem.W.fnOf "_law_arities" "_law_arities" (defArgs sArs) (defBody sArs) (defScope sArs) .none kV dc pm an cd ct), sl⟩) (c : PySem.W.codeIn K cd "_law_arities" = true) (k : PySem.W.keepIn K (.ref f) = true) : Df K mg "_law_arities" sArs ["_law_stream_here"] :=
  df_mk X G (fun _ _ _ _ _ _ us hl => match us, hl with | [_], _ => rfl) a l c k
theorem df_37 {f : Addr} {oc : Value} {od an : Option Addr} {sl : Array (Option Value)} {kV dc pm cd ct : Value} (X : K.In h) (G : h.Ns mainGlobals mg) (a : PySem.W.nsIn K mainGlobals "_law_tree" = some (some (.ref f)))
    (l : K.lookup f = some ⟨oc, od, .func (PySem.W.fnOf "_law_tree" "_law_tree" (defArgs sLTree) (defBody sLTree) (defScope sLTree) .none kV dc pm an cd ct), sl⟩) (c : PySem.W.codeIn K cd "_law_tree" = true) (k : PySem.W.keepIn K (.ref f) = true) : Df K mg "_law_tree" sLTree ["_law_stream_here", "_law_arities_here", "_law_nodes"] :=
  df_mk X G (fun _ _ _ _ _ _ us hl => match us, hl with | [_, _, _], _ => rfl) a l c k
theorem df_38 {f : Addr} {oc : Value} {od an : Option Addr} {sl : Array (Option Value)} {kV dc pm cd ct : Value} (X : K.In h) (G : h.Ns mainGlobals mg) (a : PySem.W.nsIn K mainGlobals "_law_size" = some (some (.ref f)))
    (l : K.lookup f = some ⟨oc, od, .func (PySem.W.fnOf "_law_size" "_law_size" (defArgs sLSize) (defBody sLSize) (defScope sLSize) .none kV dc pm an cd ct), sl⟩) (c : PySem.W.codeIn K cd "_law_size" = true) (k : PySem.W.keepIn K (.ref f) = true) : Df K mg "_law_size" sLSize ["_law_tree_here"] :=
  df_mk X G (fun _ _ _ _ _ _ us hl => match us, hl with | [_], _ => rfl) a l c k
theorem df_39 {f : Addr} {oc : Value} {od an : Option Addr} {sl : Array (Option Value)} {kV dc pm cd ct : Value} (X : K.In h) (G : h.Ns mainGlobals mg) (a : PySem.W.nsIn K mainGlobals "_law_spots" = some (some (.ref f)))
    (l : K.lookup f = some ⟨oc, od, .func (PySem.W.fnOf "_law_spots" "_law_spots" (defArgs sSpots) (defBody sSpots) (defScope sSpots) .none kV dc pm an cd ct), sl⟩) (c : PySem.W.codeIn K cd "_law_spots" = true) (k : PySem.W.keepIn K (.ref f) = true) : Df K mg "_law_spots" sSpots ["_law_tree_here"] :=
  df_mk X G (fun _ _ _ _ _ _ us hl => match us, hl with | [_], _ => rfl) a l c k
theorem df_40 {f : Addr} {oc : Value} {od an : Option Addr} {sl : Array (Option Value)} {kV dc pm cd ct : Value} (X : K.In h) (G : h.Ns mainGlobals mg) (a : PySem.W.nsIn K mainGlobals "_law_part" = some (some (.ref f)))
    (l : K.lookup f = some ⟨oc, od, .func (PySem.W.fnOf "_law_part" "_law_part" (defArgs sLPart) (defBody sLPart) (defScope sLPart) .none kV dc pm an cd ct), sl⟩) (c : PySem.W.codeIn K cd "_law_part" = true) (k : PySem.W.keepIn K (.ref f) = true) : Df K mg "_law_part" sLPart ["_law_tree_here", "_law_place"] :=
  df_mk X G (fun _ _ _ _ _ _ us hl => match us, hl with | [_, _], _ => rfl) a l c k
theorem df_41 {f : Addr} {oc : Value} {od an : Option Addr} {sl : Array (Option Value)} {kV dc pm cd ct : Value} (X : K.In h) (G : h.Ns mainGlobals mg) (a : PySem.W.nsIn K mainGlobals "_law_put" = some (some (.ref f)))
    (l : K.lookup f = some ⟨oc, od, .func (PySem.W.fnOf "_law_put" "_law_put" (defArgs sLPut) (defBody sLPut) (defScope sLPut) .none kV dc pm an cd ct), sl⟩) (c : PySem.W.codeIn K cd "_law_put" = true) (k : PySem.W.keepIn K (.ref f) = true) : Df K mg "_law_put" sLPut ["_law_tree_here", "_law_place", "_law_below"] :=
  df_mk X G (fun _ _ _ _ _ _ us hl => match us, hl with | [_, _, _], _ => rfl) a l c k
theorem df_42 {f : Addr} {oc : Value} {od an : Option Addr} {sl : Array (Option Value)} {kV dc pm cd ct : Value} (X : K.In h) (G : h.Ns mainGlobals mg) (a : PySem.W.nsIn K mainGlobals "_law_told" = some (some (.ref f)))
    (l : K.lookup f = some ⟨oc, od, .func (PySem.W.fnOf "_law_told" "_law_told" (defArgs sTold) (defBody sTold) (defScope sTold) .none kV dc pm an cd ct), sl⟩) (c : PySem.W.codeIn K cd "_law_told" = true) (k : PySem.W.keepIn K (.ref f) = true) : Df K mg "_law_told" sTold ["_law_arities_here", "_law_first", "_law_second", "_law_place"] :=
  df_mk X G (fun _ _ _ _ _ _ us hl => match us, hl with | [_, _, _, _], _ => rfl) a l c k
theorem ex_1 {C CT fI : Addr} {nm q : Str} {N : Addr} {bs : List Value} {sn : List Str} {sub : List Value} {ab : Bool} {col : Option Bool} {dd : Option Addr} {m0 m1 m2 m3 m5 : Option Value} {oc : Value} {od an : Option Addr} {sl : Array (Option Value)} {kV dc pm cd ct : Value} (X : K.In h) (G : h.Ns mainGlobals mg)
    (aC : PySem.W.nsIn K mainGlobals "TooLarge" = some (some (.ref C))) (xL : K.lookup C = some (excClassObj nm q C N bs [.ref CT, .type "ValueError", .type "Exception", .type "BaseException", .type "object"] true sn sub ab col dd m0 m1 m2 m3 m5 "ValueError.__new__"))
    (sa : PySem.W.findIn K (.ref C) "__setattr__" = some (some (.builtin "object.__setattr__"))) (ga : PySem.W.findIn K (.ref C) "__getattribute__" = some (some (.builtin "BaseException.__getattribute__"))) (gg : PySem.W.findIn K (.ref C) "__getattr__" = some none) (nf : PySem.W.findIn K (.ref C) "what" = some none)
    (iC : PySem.W.findIn K (.ref C) "__init__" = some (some (.ref fI))) (tI : PySem.W.typeIn K (.ref fI) = some (.type "function"))
    (l : K.lookup fI = some ⟨oc, od, .func (PySem.W.fnOf "__init__" "TooLarge.__init__" (defArgs sIn1) (defBody sIn1) (defScope sIn1) .none kV dc pm an cd ct), sl⟩) (c : PySem.W.codeIn K cd "TooLarge.__init__" = true) (k : PySem.W.keepIn K (.ref fI) = true)
    (kC : PySem.W.keepIn K (.ref C) = true) (eC : PySem.W.subIn K (.ref C) (.type "BaseException") = some true) (tC : PySem.W.typeIn K (.ref C) = some (.type "type")) (hC : PySem.W.hasDictIn K C = true) (cC : PySem.W.isClsIn K C = true) (sC : PySem.W.subIn K (.ref C) (.ref C) = some true) : ExT K mg "TooLarge" "what" "TooLarge.__init__" sIn1 C fI :=
  ext_mk X G (fun _ _ _ _ _ _ us hl => match us, hl with | [_, _], _ => rfl) aC xL sa ga gg nf iC tI l c k kC eC tC hC cC sC
theorem ex_2 {C CT fI : Addr} {nm q : Str} {N : Addr} {bs : List Value} {sn : List Str} {sub : List Value} {ab : Bool} {col : Option Bool} {dd : Option Addr} {m0 m1 m2 m3 m5 : Option Value} {oc : Value} {od an : Option Addr} {sl : Array (Option Value)} {kV dc pm cd ct : Value} (X : K.In h) (G : h.Ns mainGlobals mg)
    (aC : PySem.W.nsIn K mainGlobals "NotPossible" = some (some (.ref C))) (xL : K.lookup C = some (excClassObj nm q C N bs [.ref CT, .type "ValueError", .type "Exception", .type "BaseException", .type "object"] true sn sub ab col dd m0 m1 m2 m3 m5 "ValueError.__new__"))
    (sa : PySem.W.findIn K (.ref C) "__setattr__" = some (some (.builtin "object.__setattr__"))) (ga : PySem.W.findIn K (.ref C) "__getattribute__" = some (some (.builtin "BaseException.__getattribute__"))) (gg : PySem.W.findIn K (.ref C) "__getattr__" = some none) (nf : PySem.W.findIn K (.ref C) "why" = some none)
    (iC : PySem.W.findIn K (.ref C) "__init__" = some (some (.ref fI))) (tI : PySem.W.typeIn K (.ref fI) = some (.type "function"))
    (l : K.lookup fI = some ⟨oc, od, .func (PySem.W.fnOf "__init__" "NotPossible.__init__" (defArgs sIn2) (defBody sIn2) (defScope sIn2) .none kV dc pm an cd ct), sl⟩) (c : PySem.W.codeIn K cd "NotPossible.__init__" = true) (k : PySem.W.keepIn K (.ref fI) = true)
    (kC : PySem.W.keepIn K (.ref C) = true) (eC : PySem.W.subIn K (.ref C) (.type "BaseException") = some true) (tC : PySem.W.typeIn K (.ref C) = some (.type "type")) (hC : PySem.W.hasDictIn K C = true) (cC : PySem.W.isClsIn K C = true) (sC : PySem.W.subIn K (.ref C) (.ref C) = some true) : ExT K mg "NotPossible" "why" "NotPossible.__init__" sIn2 C fI :=
  ext_mk X G (fun _ _ _ _ _ _ us hl => match us, hl with | [_, _], _ => rfl) aC xL sa ga gg nf iC tI l c k kC eC tC hC cC sC
end
section
variable {P : Program} {w : World} {K : PySem.W.Frag} {mg : Str → Option Value} {base : Heap} {C1 C2 f1 f2 f : Addr} {fd : FuncData}
/-- every def keeps its promise -/
theorem whole (T : Bt mg) (X1 : ExT K mg "TooLarge" "what" "TooLarge.__init__" sIn1 C1 f1) (X2 : ExT K mg "NotPossible" "why" "NotPossible.__init__" sIn2 C2 f2) (cross : PySem.W.exmOne K (.ref C2) (.ref C1) = some false)
    (D9 : Df K mg "is_number" sNum ["value", "low", "high"])
    (D10 : Df K mg "is_arities" sAr ["value"])
    (D11 : Df K mg "is_tree" sTr ["arities", "value"])
    (D12 : Df K mg "is_place" sPl ["value"])
    (D13 : Df K mg "size_of" sSize ["tree"])
    (D14 : Df K mg "part_at" sPart ["tree", "place"])
    (D15 : Df K mg "put_at" sPut ["tree", "place", "part"])
    (D16 : Df K mg "graft_of" sGrO ["first", "second", "place"])
    (D17 : Df K mg "same_to" sSame ["first", "second", "depth"])
    (D18 : Df K mg "same_along" sAlong ["first", "second", "place", "depth"])
    (D19 : Df K mg "check_arities" sCkAr ["arities"])
    (D20 : Df K mg "check_tree" sCkTr ["arities", "tree", "name"])
    (D21 : Df K mg "check_place" sCkPl ["place"])
    (D22 : Df K mg "check_two" sCkTwo ["arities", "first", "second"])
    (D23 : Df K mg "check_depth" sCkD ["depth"])
    (D24 : Df K mg "small" sSmall ["tree"])
    (D25 : Df K mg "part" sPartF ["arities", "tree", "place"])
    (D26 : Df K mg "are_equal_to" sEqTo ["arities", "first", "second", "depth"])
    (D27 : Df K mg "check_both_have" sBoth ["first", "second", "place"])
    (D28 : Df K mg "are_equal_along" sEqAl ["arities", "first", "second", "place", "depth"])
    (D29 : Df K mg "graft" sGraft ["arities", "first", "second", "place"])
    (D31 : Df K mg "_law_stream" sStream ["_law_script"])
    (D32 : Df K mg "_law_next" sNext ["_law_stream_here", "_law_many"])
    (D33 : Df K mg "_law_is_integer" sIsInt ["_law_actual"])
    (D34 : Df K mg "_law_equal" sEq ["_law_actual", "_law_due"])
    (D35 : Df K mg "_law_pick" sPick ["_law_stream_here", "_law_rows"])
    (D36 : Df K mg "_law_arities" sArs ["_law_stream_here"])
    (D37 : Df K mg "_law_tree" sLTree ["_law_stream_here", "_law_arities_here", "_law_nodes"])
    (D38 : Df K mg "_law_size" sLSize ["_law_tree_here"])
    (D39 : Df K mg "_law_spots" sSpots ["_law_tree_here"])
    (D40 : Df K mg "_law_part" sLPart ["_law_tree_here", "_law_place"])
    (D41 : Df K mg "_law_put" sLPut ["_law_tree_here", "_law_place", "_law_below"])
    (D42 : Df K mg "_law_told" sTold ["_law_arities_here", "_law_first", "_law_second", "_law_place"])
    (F : Fun K "law" "law" sLaw f fd) : FnOk P w K mg base CX0 34 f fd ["_law_script"] (spLaw K) := by
  have num := ok_num (P := P) (w := w) (base := base) D9 T
  have par := ok_part (P := P) (w := w) (base := base) D14 T
  have ckA := ok_ckAr D19 (ok_ar D10 T num)
  have ckT := ok_ckTr D20 (ok_tr D11 T num)
  have ckP := ok_ckPl D21 (ok_pl D12 T num)
  have ckD := ok_ckD D23 T num
  have two := ok_ckTwo D22 ckA ckT
  have both := ok_both D27 X2 ckP par
  have gro := ok_grO (P := P) (w := w) (base := base) D16 T par (ok_put D15 T 16)
  have sm := ok_small (P := P) (w := w) (base := base) D24 T X1 (ok_size D13 T 30)
  have gr := ok_graft D29 two both gro sm
  have along := ok_along (P := P) (w := w) (base := base) D18 T par (ok_same D17 T 16)
  have eqA := ok_eqAl D28 two ckP ckD both along
  have eqT := ok_eqTo D26 two ckD (ok_same D17 T 16)
  have pf := ok_partF D25 ckA ckT ckP par
  have nx := ok_next (P := P) (w := w) (base := base) D32 T
  have pk := ok_pick D35 T nx
  have isI := ok_isInt (P := P) (w := w) (base := base) D33 T
  have sp := ok_spots (P := P) (w := w) (base := base) D39 T 15
  exact fn_law F T (ok_stream D31 T) nx pk (ok_ars D36 T pk) (ok_lTree D37 T nx pk 15) (ok_lSize D38 T 30) sp (lPart2 (ok_lPart D40 T sp)) (ok_lPut D41 T 16) (ok_told D42 X1 X2 cross gr) (ok_eq D34 T isI 17) eqA eqT pf
end
end Gf
namespace Gf
open PySem PySem.Spec PyProof.Rows L2
/-- all that the head tells, together -/
theorem all_mk {P : Program} {w : World} {K : PySem.W.Frag} {h : Heap} {mg : Str → Option Value} {fa : Addr} (X : K.In h) (G : h.Ns mainGlobals mg) (hfa : mg "law" = some (.ref fa))
    {C1 CT1 g1 C2 CT2 g2 : Addr}
    {nm1 q1 : Str} {N1 : Addr} {bs1 : List Value} {sn1 : List Str} {sub1 : List Value} {ab1 : Bool} {col1 : Option Bool} {dd1 : Option Addr} {u10 u11 u12 u13 u15 : Option Value} {ocI1 : Value} {odI1 anI1 : Option Addr} {slI1 : Array (Option Value)} {kVI1 dcI1 pmI1 cdI1 ctI1 : Value}
    {nm2 q2 : Str} {N2 : Addr} {bs2 : List Value} {sn2 : List Str} {sub2 : List Value} {ab2 : Bool} {col2 : Option Bool} {dd2 : Option Addr} {u20 u21 u22 u23 u25 : Option Value} {ocI2 : Value} {odI2 anI2 : Option Addr} {slI2 : Array (Option Value)} {kVI2 dcI2 pmI2 cdI2 ctI2 : Value}
    {f9 : Addr} {od9 an9 : Option Addr} {sl9 : Array (Option Value)} {oc9 kV9 dc9 pm9 cd9 ct9 : Value}
    {f10 : Addr} {od10 an10 : Option Addr} {sl10 : Array (Option Value)} {oc10 kV10 dc10 pm10 cd10 ct10 : Value}
    {f11 : Addr} {od11 an11 : Option Addr} {sl11 : Array (Option Value)} {oc11 kV11 dc11 pm11 cd11 ct11 : Value}
    {f12 : Addr} {od12 an12 : Option Addr} {sl12 : Array (Option Value)} {oc12 kV12 dc12 pm12 cd12 ct12 : Value}
    {f13 : Addr} {od13 an13 : Option Addr} {sl13 : Array (Option Value)} {oc13 kV13 dc13 pm13 cd13 ct13 : Value}
    {f14 : Addr} {od14 an14 : Option Addr} {sl14 : Array (Option Value)} {oc14 kV14 dc14 pm14 cd14 ct14 : Value}
    {f15 : Addr} {od15 an15 : Option Addr} {sl15 : Array (Option Value)} {oc15 kV15 dc15 pm15 cd15 ct15 : Value}
    {f16 : Addr} {od16 an16 : Option Addr} {sl16 : Array (Option Value)} {oc16 kV16 dc16 pm16 cd16 ct16 : Value}
    {f17 : Addr} {od17 an17 : Option Addr} {sl17 : Array (Option Value)} {oc17 kV17 dc17 pm17 cd17 ct17 : Value}
    {f18 : Addr} {od18 an18 : Option Addr} {sl18 : Array (Option Value)} {oc18 kV18 dc18 pm18 cd18 ct18 : Value}
    {f19 : Addr} {od19 an19 : Option Addr} {sl19 : Array (Option Value)} {oc19 kV19 dc19 pm19 cd19 ct19 : Value}
    {f20 : Addr} {od20 an20 : Option Addr} {sl20 : Array (Option Value)} {oc20 kV20 dc20 pm20 cd20 ct20 : Value}
    {f21 : Addr} {od21 an21 : Option Addr} {sl21 : Array (Option Value)} {oc21 kV21 dc21 pm21 cd21 ct21 : Value}
    {f22 : Addr} {od22 an22 : Option Addr} {sl22 : Array (Option Value)} {oc22 kV22 dc22 pm22 cd22 ct22 : Value}
    {f23 : Addr} {od23 an23 : Option Addr} {sl23 : Array (Option Value)} {oc23 kV23 dc23 pm23 cd23 ct23 : Value}
    {f24 : Addr} {od24 an24 : Option Addr} {sl24 : Array (Option Value)} {oc24 kV24 dc24 pm24 cd24 ct24 : Value}
    {f25 : Addr} {od25 an25 : Option Addr} {sl25 : Array (Option Value)} {oc25 kV25 dc25 pm25 cd25 ct25 : Value}
    {f26 : Addr} {od26 an26 : Option Addr} {sl26 : Array (Option Value)} {oc26 kV26 dc26 pm26 cd26 ct26 : Value}
    {f27 : Addr} {od27 an27 : Option Addr} {sl27 : Array (Option Value)} {oc27 kV27 dc27 pm27 cd27 ct27 : Value}
    {f28 : Addr} {od28 an28 : Option Addr} {sl28 : Array (Option Value)} {oc28 kV28 dc28 pm28 cd28 ct28 : Value}
    {f29 : Addr} {od29 an29 : Option Addr} {sl29 : Array (Option Value)} {oc29 kV29 dc29 pm29 cd29 ct29 : Value}
    {f31 : Addr} {od31 an31 : Option Addr} {sl31 : Array (Option Value)} {oc31 kV31 dc31 pm31 cd31 ct31 : Value}
    {f32 : Addr} {od32 an32 : Option Addr} {sl32 : Array (Option Value)} {oc32 kV32 dc32 pm32 cd32 ct32 : Value}
    {f33 : Addr} {od33 an33 : Option Addr} {sl33 : Array (Option Value)} {oc33 kV33 dc33 pm33 cd33 ct33 : Value}
    {f34 : Addr} {od34 an34 : Option Addr} {sl34 : Array (Option Value)} {oc34 kV34 dc34 pm34 cd34 ct34 : Value}
    {f35 : Addr} {od35 an35 : Option Addr} {sl35 : Array (Option Value)} {oc35 kV35 dc35 pm35 cd35 ct35 : Value}
    {f36 : Addr} {od36 an36 : Option Addr} {sl36 : Array (Option Value)} {oc36 kV36 dc36 pm36 cd36 ct36 : Value}
    {f37 : Addr} {od37 an37 : Option Addr} {sl37 : Array (Option Value)} {oc37 kV37 dc37 pm37 cd37 ct37 : Value}
    {f38 : Addr} {od38 an38 : Option Addr} {sl38 : Array (Option Value)} {oc38 kV38 dc38 pm38 cd38 ct38 : Value}
    {f39 : Addr} {od39 an39 : Option Addr} {sl39 : Array (Option Value)} {oc39 kV39 dc39 pm39 cd39 ct39 : Value}
    {f40 : Addr} {od40 an40 : Option Addr} {sl40 : Array (Option Value)} {oc40 kV40 dc40 pm40 cd40 ct40 : Value}
    {f41 : Addr} {od41 an41 : Option Addr} {sl41 : Array (Option Value)} {oc41 kV41 dc41 pm41 cd41 ct41 : Value}
    {f42 : Addr} {od42 an42 : Option Addr} {sl42 : Array (Option Value)} {oc42 kV42 dc42 pm42 cd42 ct42 : Value}
    {f43 : Addr} {od43 an43 : Option Addr} {sl43 : Array (Option Value)} {oc43 kV43 dc43 pm43 cd43 ct43 : Value}
    (z_isinstance : PySem.W.nsIn K mainGlobals "isinstance" = some none)
    (z_int : PySem.W.nsIn K mainGlobals "int" = some none)
    (z_bool : PySem.W.nsIn K mainGlobals "bool" = some none)
    (z_tuple : PySem.W.nsIn K mainGlobals "tuple" = some none)
    (z_str : PySem.W.nsIn K mainGlobals "str" = some none)
    (z_list : PySem.W.nsIn K mainGlobals "list" = some none)
    (z_len : PySem.W.nsIn K mainGlobals "len" = some none)
    (z_all : PySem.W.nsIn K mainGlobals "all" = some none)
    (z_sum : PySem.W.nsIn K mainGlobals "sum" = some none)
    (z_range : PySem.W.nsIn K mainGlobals "range" = some none)
    (z_enumerate : PySem.W.nsIn K mainGlobals "enumerate" = some none)
    (z_abs : PySem.W.nsIn K mainGlobals "abs" = some none)
    {t4 t2 t15 : Tok}
    (c_4 : PySem.W.nsIn K mainGlobals "MOST_SYMBOLS" = some (some (.int 4 t4)))
    (c_2 : PySem.W.nsIn K mainGlobals "MOST_ARITY" = some (some (.int 2 t2)))
    (c_15 : PySem.W.nsIn K mainGlobals "MOST_NODES" = some (some (.int 15 t15)))
    (aC1 : PySem.W.nsIn K mainGlobals "TooLarge" = some (some (.ref C1)))
    (xL1 : K.lookup C1 = some (excClassObj nm1 q1 C1 N1 bs1 [.ref CT1, .type "ValueError", .type "Exception", .type "BaseException", .type "object"] true sn1 sub1 ab1 col1 dd1 u10 u11 u12 u13 u15 "ValueError.__new__"))
    (sa1 : PySem.W.findIn K (.ref C1) "__setattr__" = some (some (.builtin "object.__setattr__")))
    (ga1 : PySem.W.findIn K (.ref C1) "__getattribute__" = some (some (.builtin "BaseException.__getattribute__")))
    (gg1 : PySem.W.findIn K (.ref C1) "__getattr__" = some none)
    (nf1 : PySem.W.findIn K (.ref C1) "what" = some none)
    (iC1 : PySem.W.findIn K (.ref C1) "__init__" = some (some (.ref g1)))
    (tI1 : PySem.W.typeIn K (.ref g1) = some (.type "function"))
    (lI1 : K.lookup g1 = some ⟨ocI1, odI1, .func (PySem.W.fnOf "__init__" "TooLarge.__init__" (defArgs sIn1) (defBody sIn1) (defScope sIn1) .none kVI1 dcI1 pmI1 anI1 cdI1 ctI1), slI1⟩)
    (cI1 : PySem.W.codeIn K cdI1 "TooLarge.__init__" = true)
    (kI1 : PySem.W.keepIn K (.ref g1) = true)
    (kC1 : PySem.W.keepIn K (.ref C1) = true)
    (eC1 : PySem.W.subIn K (.ref C1) (.type "BaseException") = some true)
    (tC1 : PySem.W.typeIn K (.ref C1) = some (.type "type"))
    (hC1 : PySem.W.hasDictIn K C1 = true)
    (cC1 : PySem.W.isClsIn K C1 = true)
    (sC1 : PySem.W.subIn K (.ref C1) (.ref C1) = some true)
    (aC2 : PySem.W.nsIn K mainGlobals "NotPossible" = some (some (.ref C2)))
    (xL2 : K.lookup C2 = some (excClassObj nm2 q2 C2 N2 bs2 [.ref CT2, .type "ValueError", .type "Exception", .type "BaseException", .type "object"] true sn2 sub2 ab2 col2 dd2 u20 u21 u22 u23 u25 "ValueError.__new__"))
    (sa2 : PySem.W.findIn K (.ref C2) "__setattr__" = some (some (.builtin "object.__setattr__")))
    (ga2 : PySem.W.findIn K (.ref C2) "__getattribute__" = some (some (.builtin "BaseException.__getattribute__")))
    (gg2 : PySem.W.findIn K (.ref C2) "__getattr__" = some none)
    (nf2 : PySem.W.findIn K (.ref C2) "why" = some none)
    (iC2 : PySem.W.findIn K (.ref C2) "__init__" = some (some (.ref g2)))
    (tI2 : PySem.W.typeIn K (.ref g2) = some (.type "function"))
    (lI2 : K.lookup g2 = some ⟨ocI2, odI2, .func (PySem.W.fnOf "__init__" "NotPossible.__init__" (defArgs sIn2) (defBody sIn2) (defScope sIn2) .none kVI2 dcI2 pmI2 anI2 cdI2 ctI2), slI2⟩)
    (cI2 : PySem.W.codeIn K cdI2 "NotPossible.__init__" = true)
    (kI2 : PySem.W.keepIn K (.ref g2) = true)
    (kC2 : PySem.W.keepIn K (.ref C2) = true)
    (eC2 : PySem.W.subIn K (.ref C2) (.type "BaseException") = some true)
    (tC2 : PySem.W.typeIn K (.ref C2) = some (.type "type"))
    (hC2 : PySem.W.hasDictIn K C2 = true)
    (cC2 : PySem.W.isClsIn K C2 = true)
    (sC2 : PySem.W.subIn K (.ref C2) (.ref C2) = some true)
    (cr : PySem.W.subIn K (.ref C2) (.ref C1) = some false)
    (a9 : PySem.W.nsIn K mainGlobals "is_number" = some (some (.ref f9))) (l9 : K.lookup f9 = some ⟨oc9, od9, .func (PySem.W.fnOf "is_number" "is_number" (defArgs sNum) (defBody sNum) (defScope sNum) .none kV9 dc9 pm9 an9 cd9 ct9), sl9⟩) (c9 : PySem.W.codeIn K cd9 "is_number" = true) (k9 : PySem.W.keepIn K (.ref f9) = true)
    (a10 : PySem.W.nsIn K mainGlobals "is_arities" = some (some (.ref f10))) (l10 : K.lookup f10 = some ⟨oc10, od10, .func (PySem.W.fnOf "is_arities" "is_arities" (defArgs sAr) (defBody sAr) (defScope sAr) .none kV10 dc10 pm10 an10 cd10 ct10), sl10⟩) (c10 : PySem.W.codeIn K cd10 "is_arities" = true) (k10 : PySem.W.keepIn K (.ref f10) = true)
    (a11 : PySem.W.nsIn K mainGlobals "is_tree" = some (some (.ref f11))) (l11 : K.lookup f11 = some ⟨oc11, od11, .func (PySem.W.fnOf "is_tree" "is_tree" (defArgs sTr) (defBody sTr) (defScope sTr) .none kV11 dc11 pm11 an11 cd11 ct11), sl11⟩) (c11 : PySem.W.codeIn K cd11 "is_tree" = true) (k11 : PySem.W.keepIn K (.ref f11) = true)
    (a12 : PySem.W.nsIn K mainGlobals "is_place" = some (some (.ref f12))) (l12 : K.lookup f12 = some ⟨oc12, od12, .func (PySem.W.fnOf "is_place" "is_place" (defArgs sPl) (defBody sPl) (defScope sPl) .none kV12 dc12 pm12 an12 cd12 ct12), sl12⟩) (c12 : PySem.W.codeIn K cd12 "is_place" = true) (k12 : PySem.W.keepIn K (.ref f12) = true)
    (a13 : PySem.W.nsIn K mainGlobals "size_of" = some (some (.ref f13))) (l13 : K.lookup f13 = some ⟨oc13, od13, .func (PySem.W.fnOf "size_of" "size_of" (defArgs sSize) (defBody sSize) (defScope sSize) .none kV13 dc13 pm13 an13 cd13 ct13), sl13⟩) (c13 : PySem.W.codeIn K cd13 "size_of" = true) (k13 : PySem.W.keepIn K (.ref f13) = true)
    (a14 : PySem.W.nsIn K mainGlobals "part_at" = some (some (.ref f14))) (l14 : K.lookup f14 = some ⟨oc14, od14, .func (PySem.W.fnOf "part_at" "part_at" (defArgs sPart) (defBody sPart) (defScope sPart) .none kV14 dc14 pm14 an14 cd14 ct14), sl14⟩) (c14 : PySem.W.codeIn K cd14 "part_at" = true) (k14 : PySem.W.keepIn K (.ref f14) = true)
    (a15 : PySem.W.nsIn K mainGlobals "put_at" = some (some (.ref f15))) (l15 : K.lookup f15 = some ⟨oc15, od15, .func (PySem.W.fnOf "put_at" "put_at" (defArgs sPut) (defBody sPut) (defScope sPut) .none kV15 dc15 pm15 an15 cd15 ct15), sl15⟩) (c15 : PySem.W.codeIn K cd15 "put_at" = true) (k15 : PySem.W.keepIn K (.ref f15) = true)
    (a16 : PySem.W.nsIn K mainGlobals "graft_of" = some (some (.ref f16))) (l16 : K.lookup f16 = some ⟨oc16, od16, .func (PySem.W.fnOf "graft_of" "graft_of" (defArgs sGrO) (defBody sGrO) (defScope sGrO) .none kV16 dc16 pm16 an16 cd16 ct16), sl16⟩) (c16 : PySem.W.codeIn K cd16 "graft_of" = true) (k16 : PySem.W.keepIn K (.ref f16) = true)
    (a17 : PySem.W.nsIn K mainGlobals "same_to" = some (some (.ref f17))) (l17 : K.lookup f17 = some ⟨oc17, od17, .func (PySem.W.fnOf "same_to" "same_to" (defArgs sSame) (defBody sSame) (defScope sSame) .none kV17 dc17 pm17 an17 cd17 ct17), sl17⟩) (c17 : PySem.W.codeIn K cd17 "same_to" = true) (k17 : PySem.W.keepIn K (.ref f17) = true)
    (a18 : PySem.W.nsIn K mainGlobals "same_along" = some (some (.ref f18))) (l18 : K.lookup f18 = some ⟨oc18, od18, .func (PySem.W.fnOf "same_along" "same_along" (defArgs sAlong) (defBody sAlong) (defScope sAlong) .none kV18 dc18 pm18 an18 cd18 ct18), sl18⟩) (c18 : PySem.W.codeIn K cd18 "same_along" = true) (k18 : PySem.W.keepIn K (.ref f18) = true)
    (a19 : PySem.W.nsIn K mainGlobals "check_arities" = some (some (.ref f19))) (l19 : K.lookup f19 = some ⟨oc19, od19, .func (PySem.W.fnOf "check_arities" "check_arities" (defArgs sCkAr) (defBody sCkAr) (defScope sCkAr) .none kV19 dc19 pm19 an19 cd19 ct19), sl19⟩) (c19 : PySem.W.codeIn K cd19 "check_arities" = true) (k19 : PySem.W.keepIn K (.ref f19) = true)
    (a20 : PySem.W.nsIn K mainGlobals "check_tree" = some (some (.ref f20))) (l20 : K.lookup f20 = some ⟨oc20, od20, .func (PySem.W.fnOf "check_tree" "check_tree" (defArgs sCkTr) (defBody sCkTr) (defScope sCkTr) .none kV20 dc20 pm20 an20 cd20 ct20), sl20⟩) (c20 : PySem.W.codeIn K cd20 "check_tree" = true) (k20 : PySem.W.keepIn K (.ref f20) = true)
    (a21 : PySem.W.nsIn K mainGlobals "check_place" = some (some (.ref f21))) (l21 : K.lookup f21 = some ⟨oc21, od21, .func (PySem.W.fnOf "check_place" "check_place" (defArgs sCkPl) (defBody sCkPl) (defScope sCkPl) .none kV21 dc21 pm21 an21 cd21 ct21), sl21⟩) (c21 : PySem.W.codeIn K cd21 "check_place" = true) (k21 : PySem.W.keepIn K (.ref f21) = true)
    (a22 : PySem.W.nsIn K mainGlobals "check_two" = some (some (.ref f22))) (l22 : K.lookup f22 = some ⟨oc22, od22, .func (PySem.W.fnOf "check_two" "check_two" (defArgs sCkTwo) (defBody sCkTwo) (defScope sCkTwo) .none kV22 dc22 pm22 an22 cd22 ct22), sl22⟩) (c22 : PySem.W.codeIn K cd22 "check_two" = true) (k22 : PySem.W.keepIn K (.ref f22) = true)
    (a23 : PySem.W.nsIn K mainGlobals "check_depth" = some (some (.ref f23))) (l23 : K.lookup f23 = some ⟨oc23, od23, .func (PySem.W.fnOf "check_depth" "check_depth" (defArgs sCkD) (defBody sCkD) (defScope sCkD) .none kV23 dc23 pm23 an23 cd23 ct23), sl23⟩) (c23 : PySem.W.codeIn K cd23 "check_depth" = true) (k23 : PySem.W.keepIn K (.ref f23) = true)
    (a24 : PySem.W.nsIn K mainGlobals "small" = some (some (.ref f24))) (l24 : K.lookup f24 = some ⟨oc24, od24, .func (PySem.W.fnOf "small" "small" (defArgs sSmall) (defBody sSmall) (defScope sSmall) .none kV24 dc24 pm24 an24 cd24 ct24), sl24⟩) (c24 : PySem.W.codeIn K cd24 "small" = true) (k24 : PySem.W.keepIn K (.ref f24) = true)
    (a25 : PySem.W.nsIn K mainGlobals "part" = some (some (.ref f25))) (l25 : K.lookup f25 = some ⟨oc25, od25, .func (PySem.W.fnOf "part" "part" (defArgs sPartF) (defBody sPartF) (defScope sPartF) .none kV25 dc25 pm25 an25 cd25 ct25), sl25⟩) (c25 : PySem.W.codeIn K cd25 "part" = true) (k25 : PySem.W.keepIn K (.ref f25) = true)
    (a26 : PySem.W.nsIn K mainGlobals "are_equal_to" = some (some (.ref f26))) (l26 : K.lookup f26 = some ⟨oc26, od26, .func (PySem.W.fnOf "are_equal_to" "are_equal_to" (defArgs sEqTo) (defBody sEqTo) (defScope sEqTo) .none kV26 dc26 pm26 an26 cd26 ct26), sl26⟩) (c26 : PySem.W.codeIn K cd26 "are_equal_to" = true) (k26 : PySem.W.keepIn K (.ref f26) = true)
    (a27 : PySem.W.nsIn K mainGlobals "check_both_have" = some (some (.ref f27))) (l27 : K.lookup f27 = some ⟨oc27, od27, .func (PySem.W.fnOf "check_both_have" "check_both_have" (defArgs sBoth) (defBody sBoth) (defScope sBoth) .none kV27 dc27 pm27 an27 cd27 ct27), sl27⟩) (c27 : PySem.W.codeIn K cd27 "check_both_have" = true) (k27 : PySem.W.keepIn K (.ref f27) = true)
    (a28 : PySem.W.nsIn K mainGlobals "are_equal_along" = some (some (.ref f28))) (l28 : K.lookup f28 = some ⟨oc28, od28, .func (PySem.W.fnOf "are_equal_along" "are_equal_along" (defArgs sEqAl) (defBody sEqAl) (defScope sEqAl) .none kV28 dc28 pm28 an28 cd28 ct28), sl28⟩) (c28 : PySem.W.codeIn K cd28 "are_equal_along" = true) (k28 : PySem.W.keepIn K (.ref f28) = true)
    (a29 : PySem.W.nsIn K mainGlobals "graft" = some (some (.ref f29))) (l29 : K.lookup f29 = some ⟨oc29, od29, .func (PySem.W.fnOf "graft" "graft" (defArgs sGraft) (defBody sGraft) (defScope sGraft) .none kV29 dc29 pm29 an29 cd29 ct29), sl29⟩) (c29 : PySem.W.codeIn K cd29 "graft" = true) (k29 : PySem.W.keepIn K (.ref f29) = true)
    (a31 : PySem.W.nsIn K mainGlobals "_law_stream" = some (some (.ref f31))) (l31 : K.lookup f31 = some ⟨oc31, od31, .func (PySem.W.fnOf "_law_stream" "_law_stream" (defArgs sStream) (defBody sStream) (defScope sStream) .none kV31 dc31 pm31 an31 cd31 ct31), sl31⟩) (c31 : PySem.W.codeIn K cd31 "_law_stream" = true) (k31 : PySem.W.keepIn K (.ref f31) = true)
    (a32 : PySem.W.nsIn K mainGlobals "_law_next" = some (some (.ref f32))) (l32 : K.lookup f32 = some ⟨oc32, od32, .func (PySem.W.fnOf "_law_next" "_law_next" (defArgs sNext) (defBody sNext) (defScope sNext) .none kV32 dc32 pm32 an32 cd32 ct32), sl32⟩) (c32 : PySem.W.codeIn K cd32 "_law_next" = true) (k32 : PySem.W.keepIn K (.ref f32) = true)
    (a33 : PySem.W.nsIn K mainGlobals "_law_is_integer" = some (some (.ref f33))) (l33 : K.lookup f33 = some ⟨oc33, od33, .func (PySem.W.fnOf "_law_is_integer" "_law_is_integer" (defArgs sIsInt) (defBody sIsInt) (defScope sIsInt) .none kV33 dc33 pm33 an33 cd33 ct33), sl33⟩) (c33 : PySem.W.codeIn K cd33 "_law_is_integer" = true) (k33 : PySem.W.keepIn K (.ref f33) = true)
    (a34 : PySem.W.nsIn K mainGlobals "_law_equal" = some (some (.ref f34))) (l34 : K.lookup f34 = some ⟨oc34, od34, .func (PySem.W.fnOf "_law_equal" "_law_equal" (defArgs sEq) (defBody sEq) (defScope sEq) .none kV34 dc34 pm34 an34 cd34 ct34), sl34⟩) (c34 : PySem.W.codeIn K cd34 "_law_equal" = true) (k34 : PySem.W.keepIn K (.ref f34) = true)
    (a35 : PySem.W.nsIn K mainGlobals "_law_pick" = some (some (.ref f35))) (l35 : K.lookup f35 = some ⟨oc35, od35, .func (PySem.W.fnOf "_law_pick" "_law_pick" (defArgs sPick) (defBody sPick) (defScope sPick) .none kV35 dc35 pm35 an35 cd35 ct35), sl35⟩) (c35 : PySem.W.codeIn K cd35 "_law_pick" = true) (k35 : PySem.W.keepIn K (.ref f35) = true)
    (a36 : PySem.W.nsIn K mainGlobals "_law_arities" = some (some (.ref f36))) (l36 : K.lookup f36 = some ⟨oc36, od36, .func (PySem.W.fnOf "_law_arities" "_law_arities" (defArgs sArs) (defBody sArs) (defScope sArs) .none kV36 dc36 pm36 an36 cd36 ct36), sl36⟩) (c36 : PySem.W.codeIn K cd36 "_law_arities" = true) (k36 : PySem.W.keepIn K (.ref f36) = true)
    (a37 : PySem.W.nsIn K mainGlobals "_law_tree" = some (some (.ref f37))) (l37 : K.lookup f37 = some ⟨oc37, od37, .func (PySem.W.fnOf "_law_tree" "_law_tree" (defArgs sLTree) (defBody sLTree) (defScope sLTree) .none kV37 dc37 pm37 an37 cd37 ct37), sl37⟩) (c37 : PySem.W.codeIn K cd37 "_law_tree" = true) (k37 : PySem.W.keepIn K (.ref f37) = true)
    (a38 : PySem.W.nsIn K mainGlobals "_law_size" = some (some (.ref f38))) (l38 : K.lookup f38 = some ⟨oc38, od38, .func (PySem.W.fnOf "_law_size" "_law_size" (defArgs sLSize) (defBody sLSize) (defScope sLSize) .none kV38 dc38 pm38 an38 cd38 ct38), sl38⟩) (c38 : PySem.W.codeIn K cd38 "_law_size" = true) (k38 : PySem.W.keepIn K (.ref f38) = true)
    (a39 : PySem.W.nsIn K mainGlobals "_law_spots" = some (some (.ref f39))) (l39 : K.lookup f39 = some ⟨oc39, od39, .func (PySem.W.fnOf "_law_spots" "_law_spots" (defArgs sSpots) (defBody sSpots) (defScope sSpots) .none kV39 dc39 pm39 an39 cd39 ct39), sl39⟩) (c39 : PySem.W.codeIn K cd39 "_law_spots" = true) (k39 : PySem.W.keepIn K (.ref f39) = true)
    (a40 : PySem.W.nsIn K mainGlobals "_law_part" = some (some (.ref f40))) (l40 : K.lookup f40 = some ⟨oc40, od40, .func (PySem.W.fnOf "_law_part" "_law_part" (defArgs sLPart) (defBody sLPart) (defScope sLPart) .none kV40 dc40 pm40 an40 cd40 ct40), sl40⟩) (c40 : PySem.W.codeIn K cd40 "_law_part" = true) (k40 : PySem.W.keepIn K (.ref f40) = true)
    (a41 : PySem.W.nsIn K mainGlobals "_law_put" = some (some (.ref f41))) (l41 : K.lookup f41 = some ⟨oc41, od41, .func (PySem.W.fnOf "_law_put" "_law_put" (defArgs sLPut) (defBody sLPut) (defScope sLPut) .none kV41 dc41 pm41 an41 cd41 ct41), sl41⟩) (c41 : PySem.W.codeIn K cd41 "_law_put" = true) (k41 : PySem.W.keepIn K (.ref f41) = true)
    (a42 : PySem.W.nsIn K mainGlobals "_law_told" = some (some (.ref f42))) (l42 : K.lookup f42 = some ⟨oc42, od42, .func (PySem.W.fnOf "_law_told" "_law_told" (defArgs sTold) (defBody sTold) (defScope sTold) .none kV42 dc42 pm42 an42 cd42 ct42), sl42⟩) (c42 : PySem.W.codeIn K cd42 "_law_told" = true) (k42 : PySem.W.keepIn K (.ref f42) = true)
    (a43 : PySem.W.nsIn K mainGlobals "law" = some (some (.ref f43))) (l43 : K.lookup f43 = some ⟨oc43, od43, .func (PySem.W.fnOf "law" "law" (defArgs sLaw) (defBody sLaw) (defScope sLaw) .none kV43 dc43 pm43 an43 cd43 ct43), sl43⟩) (c43 : PySem.W.codeIn K cd43 "law" = true) (k43 : PySem.W.keepIn K (.ref f43) = true)
    : ∃ fd : FuncData, (∀ (s : Shared) (v : Value), BindsTo s fd ⟨[v], []⟩ [("_law_script", v)]) ∧ ∀ base : Heap, K.In base → base.Ns mainGlobals mg → FnOk P w K mg base CX0 34 fa fd ["_law_script"] (spLaw K) := by
  have e := hfa.symm.trans (PySem.W.mg_of X G a43)
  cases e
  have T : Bt mg := ⟨PySem.W.mg_none_of X G z_isinstance, PySem.W.mg_none_of X G z_int, PySem.W.mg_none_of X G z_bool, PySem.W.mg_none_of X G z_tuple, PySem.W.mg_none_of X G z_str, PySem.W.mg_none_of X G z_list, PySem.W.mg_none_of X G z_len, PySem.W.mg_none_of X G z_all, PySem.W.mg_none_of X G z_sum, PySem.W.mg_none_of X G z_range, PySem.W.mg_none_of X G z_enumerate, PySem.W.mg_none_of X G z_abs, ⟨_, PySem.W.mg_of X G c_4⟩, ⟨_, PySem.W.mg_of X G c_2⟩, ⟨_, PySem.W.mg_of X G c_15⟩⟩
  have X1 := ex_1 X G aC1 xL1 sa1 ga1 gg1 nf1 iC1 tI1 lI1 cI1 kI1 kC1 eC1 tC1 hC1 cC1 sC1
  have X2 := ex_2 X G aC2 xL2 sa2 ga2 gg2 nf2 iC2 tI2 lI2 cI2 kI2 kC2 eC2 tC2 hC2 cC2 sC2
  have cross := exm_two eC1 cC1 tC1 cr
  have F := fun_mk (st := sLaw) l43 c43 k43
  exact ⟨PySem.W.fnOf "law" "law" (defArgs sLaw) (defBody sLaw) (defScope sLaw) .none kV43 dc43 pm43 an43 cd43 ct43, fun s v => .of_eq rfl, fun base _ _ => whole T X1 X2 cross
    (df_9 X G a9 l9 c9 k9)
    (df_10 X G a10 l10 c10 k10)
    (df_11 X G a11 l11 c11 k11)
    (df_12 X G a12 l12 c12 k12)
    (df_13 X G a13 l13 c13 k13)
    (df_14 X G a14 l14 c14 k14)
    (df_15 X G a15 l15 c15 k15)
    (df_16 X G a16 l16 c16 k16)
    (df_17 X G a17 l17 c17 k17)
    (df_18 X G a18 l18 c18 k18)
    (df_19 X G a19 l19 c19 k19)
    (df_20 X G a20 l20 c20 k20)
    (df_21 X G a21 l21 c21 k21)
    (df_22 X G a22 l22 c22 k22)
    (df_23 X G a23 l23 c23 k23)
    (df_24 X G a24 l24 c24 k24)
    (df_25 X G a25 l25 c25 k25)
    (df_26 X G a26 l26 c26 k26)
    (df_27 X G a27 l27 c27 k27)
    (df_28 X G a28 l28 c28 k28)
    (df_29 X G a29 l29 c29 k29)
    (df_31 X G a31 l31 c31 k31)
    (df_32 X G a32 l32 c32 k32)
    (df_33 X G a33 l33 c33 k33)
    (df_34 X G a34 l34 c34 k34)
    (df_35 X G a35 l35 c35 k35)
    (df_36 X G a36 l36 c36 k36)
    (df_37 X G a37 l37 c37 k37)
    (df_38 X G a38 l38 c38 k38)
    (df_39 X G a39 l39 c39 k39)
    (df_40 X G a40 l40 c40 k40)
    (df_41 X G a41 l41 c41 k41)
    (df_42 X G a42 l42 c42 k42)
    F⟩
end Gf
open PySem PySem.W PyProof.Rows
set_option maxRecDepth 100000 in
set_option maxHeartbeats 0 in
theorem PySem.Challenge.cw_rootfirst_k05_whole_grafts_holds : PySem.Challenge.rw_rootfirst_k05_whole_grafts.Holds := by
  w_on; o_law; k_head; (case hw => w_witness2)
  k_fill
  refine L2.walk_ofK (l := PySem.Challenge.rw_rootfirst_k05_whole_grafts) (n := 63) (k := 34) (x := "_law_script") (CX := L2.CX0) (sp := Gf.spLaw) rfl (by decide) rfl ⟨rfl, by decide, by decide⟩ (fun w h Y => PySem.W.kIn_of Y) ?F (fun _ _ a ns hl _ hS => ⟨a, ns, rfl, hS, fun _ => rfl⟩) (fun _ _ _ _ z => z)
  case F =>
    intro w mg fa h KX G hmg
    refine' Gf.all_mk KX G hmg ?z_isinstance ?z_int ?z_bool ?z_tuple ?z_str ?z_list ?z_len ?z_all ?z_sum ?z_range ?z_enumerate ?z_abs ?c_4 ?c_2 ?c_15 ?aC1 ?xL1 ?sa1 ?ga1 ?gg1 ?nf1 ?iC1 ?tI1 ?lI1 ?cI1 ?kI1 ?kC1 ?eC1 ?tC1 ?hC1 ?cC1 ?sC1 ?aC2 ?xL2 ?sa2 ?ga2 ?gg2 ?nf2 ?iC2 ?tI2 ?lI2 ?cI2 ?kI2 ?kC2 ?eC2 ?tC2 ?hC2 ?cC2 ?sC2 ?cr ?a9 ?l9 ?c9 ?k9 ?a10 ?l10 ?c10 ?k10 ?a11 ?l11 ?c11 ?k11 ?a12 ?l12 ?c12 ?k12 ?a13 ?l13 ?c13 ?k13 ?a14 ?l14 ?c14 ?k14 ?a15 ?l15 ?c15 ?k15 ?a16 ?l16 ?c16 ?k16 ?a17 ?l17 ?c17 ?k17 ?a18 ?l18 ?c18 ?k18 ?a19 ?l19 ?c19 ?k19 ?a20 ?l20 ?c20 ?k20 ?a21 ?l21 ?c21 ?k21 ?a22 ?l22 ?c22 ?k22 ?a23 ?l23 ?c23 ?k23 ?a24 ?l24 ?c24 ?k24 ?a25 ?l25 ?c25 ?k25 ?a26 ?l26 ?c26 ?k26 ?a27 ?l27 ?c27 ?k27 ?a28 ?l28 ?c28 ?k28 ?a29 ?l29 ?c29 ?k29 ?a31 ?l31 ?c31 ?k31 ?a32 ?l32 ?c32 ?k32 ?a33 ?l33 ?c33 ?k33 ?a34 ?l34 ?c34 ?k34 ?a35 ?l35 ?c35 ?k35 ?a36 ?l36 ?c36 ?k36 ?a37 ?l37 ?c37 ?k37 ?a38 ?l38 ?c38 ?k38 ?a39 ?l39 ?c39 ?k39 ?a40 ?l40 ?c40 ?k40 ?a41 ?l41 ?c41 ?k41 ?a42 ?l42 ?c42 ?k42 ?a43 ?l43 ?c43 ?k43
    (case z_isinstance => k_is)
    (case z_int => k_is)
    (case z_bool => k_is)
    (case z_tuple => k_is)
    (case z_str => k_is)
    (case z_list => k_is)
    (case z_len => k_is)
    (case z_all => k_is)
    (case z_sum => k_is)
    (case z_range => k_is)
    (case z_enumerate => k_is)
    (case z_abs => k_is)
    (case c_4 => k_is)
    (case c_2 => k_is)
    (case c_15 => k_is)
    (case aC1 => k_is)
    (case xL1 => k_is)
    (case sa1 => k_is)
    (case ga1 => k_is)
    (case gg1 => k_is)
    (case nf1 => k_is)
    (case iC1 => k_is)
    (case tI1 => k_is)
    (case lI1 => k_is)
    (case cI1 => k_is)
    (case kI1 => k_is)
    (case kC1 => k_is)
    (case eC1 => k_is)
    (case tC1 => k_is)
    (case hC1 => k_is)
    (case cC1 => k_is)
    (case sC1 => k_is)
    (case aC2 => k_is)
    (case xL2 => k_is)
    (case sa2 => k_is)
    (case ga2 => k_is)
    (case gg2 => k_is)
    (case nf2 => k_is)
    (case iC2 => k_is)
    (case tI2 => k_is)
    (case lI2 => k_is)
    (case cI2 => k_is)
    (case kI2 => k_is)
    (case kC2 => k_is)
    (case eC2 => k_is)
    (case tC2 => k_is)
    (case hC2 => k_is)
    (case cC2 => k_is)
    (case sC2 => k_is)
    (case cr => k_is)
    (case a9 => k_is)
    (case l9 => k_is)
    (case c9 => k_is)
    (case k9 => k_is)
    (case a10 => k_is)
    (case l10 => k_is)
    (case c10 => k_is)
    (case k10 => k_is)
    (case a11 => k_is)
    (case l11 => k_is)
    (case c11 => k_is)
    (case k11 => k_is)
    (case a12 => k_is)
    (case l12 => k_is)
    (case c12 => k_is)
    (case k12 => k_is)
    (case a13 => k_is)
    (case l13 => k_is)
    (case c13 => k_is)
    (case k13 => k_is)
    (case a14 => k_is)
    (case l14 => k_is)
    (case c14 => k_is)
    (case k14 => k_is)
    (case a15 => k_is)
    (case l15 => k_is)
    (case c15 => k_is)
    (case k15 => k_is)
    (case a16 => k_is)
    (case l16 => k_is)
    (case c16 => k_is)
    (case k16 => k_is)
    (case a17 => k_is)
    (case l17 => k_is)
    (case c17 => k_is)
    (case k17 => k_is)
    (case a18 => k_is)
    (case l18 => k_is)
    (case c18 => k_is)
    (case k18 => k_is)
    (case a19 => k_is)
    (case l19 => k_is)
    (case c19 => k_is)
    (case k19 => k_is)
    (case a20 => k_is)
    (case l20 => k_is)
    (case c20 => k_is)
    (case k20 => k_is)
    (case a21 => k_is)
    (case l21 => k_is)
    (case c21 => k_is)
    (case k21 => k_is)
    (case a22 => k_is)
    (case l22 => k_is)
    (case c22 => k_is)
    (case k22 => k_is)
    (case a23 => k_is)
    (case l23 => k_is)
    (case c23 => k_is)
    (case k23 => k_is)
    (case a24 => k_is)
    (case l24 => k_is)
    (case c24 => k_is)
    (case k24 => k_is)
    (case a25 => k_is)
    (case l25 => k_is)
    (case c25 => k_is)
    (case k25 => k_is)
    (case a26 => k_is)
    (case l26 => k_is)
    (case c26 => k_is)
    (case k26 => k_is)
    (case a27 => k_is)
    (case l27 => k_is)
    (case c27 => k_is)
    (case k27 => k_is)
    (case a28 => k_is)
    (case l28 => k_is)
    (case c28 => k_is)
    (case k28 => k_is)
    (case a29 => k_is)
    (case l29 => k_is)
    (case c29 => k_is)
    (case k29 => k_is)
    (case a31 => k_is)
    (case l31 => k_is)
    (case c31 => k_is)
    (case k31 => k_is)
    (case a32 => k_is)
    (case l32 => k_is)
    (case c32 => k_is)
    (case k32 => k_is)
    (case a33 => k_is)
    (case l33 => k_is)
    (case c33 => k_is)
    (case k33 => k_is)
    (case a34 => k_is)
    (case l34 => k_is)
    (case c34 => k_is)
    (case k34 => k_is)
    (case a35 => k_is)
    (case l35 => k_is)
    (case c35 => k_is)
    (case k35 => k_is)
    (case a36 => k_is)
    (case l36 => k_is)
    (case c36 => k_is)
    (case k36 => k_is)
    (case a37 => k_is)
    (case l37 => k_is)
    (case c37 => k_is)
    (case k37 => k_is)
    (case a38 => k_is)
    (case l38 => k_is)
    (case c38 => k_is)
    (case k38 => k_is)
    (case a39 => k_is)
    (case l39 => k_is)
    (case c39 => k_is)
    (case k39 => k_is)
    (case a40 => k_is)
    (case l40 => k_is)
    (case c40 => k_is)
    (case k40 => k_is)
    (case a41 => k_is)
    (case l41 => k_is)
    (case c41 => k_is)
    (case k41 => k_is)
    (case a42 => k_is)
    (case l42 => k_is)
    (case c42 => k_is)
    (case k42 => k_is)
    (case a43 => k_is)
    (case l43 => k_is)
    (case c43 => k_is)
    (case k43 => k_is)
